import PyProof.Rows.All
import Wide.All
import OpenK.AllK
import Wide.FinOn
import HandS.ForMost
import HandS.Strs
import HandS.Deep
import HandS.ExcIs
import HandS.Lambda
import HandS.Style
import HandS.TupAny
import HandS.TupMul
import HandS.IsInst
import HandS.RaiseMore
import HandS.SortInts
import PyProof.Rows.StrMeet
import HandS.ExcOwn
import HandS.WordsExc
import HandS.Zip
import HandS.Finally
import HandS.HotCalls
import HandS.Conv
import KE.GoesMore
import KE.GoesZip
import KE.GoesEnum
import HandS.SetFor
import HandS.TryOnly
import HandS.Dict
import HandS.Ends
import HandS.Codes
import HandS.EndOwn
import KE.KNestM
import HandS.ForSpec
import PySem.Challenge.RW_worthkinds_k44_shapes_and_rules_refused
section
set_option Elab.async false
set_option linter.all false
set_option maxRecDepth 100000
/-! set(xs), xs a list of keys that are told by value, whatever their number: over any kind of keys -/
namespace Wk
open PySem PySem.Spec PyProof.Rows L2
def stepK {κ : Type} [DecidableEq κ] (σ : List κ) (v : κ) : List κ := if σ.any (fun z => decide (z = v)) then σ else σ ++ [v]
def firstK {κ : Type} [DecidableEq κ] (xs : List κ) (i : Nat) : List κ := (xs.take i).foldl stepK []
section
variable {κ : Type} [DecidableEq κ]
theorem firstK_succ {xs : List κ} {i : Nat} {v : κ} (h : xs[i]? = some v) : firstK xs (i + 1) = stepK (firstK xs i) v := by
  unfold firstK
  rw [List.take_add_one, h, List.foldl_append]; rfl
theorem stepK_len (σ : List κ) (v : κ) : (stepK σ v).length = if σ.any (fun z => decide (z = v)) = true then σ.length else σ.length + 1 := by
  unfold stepK; split <;> simp
theorem stepK_le (σ : List κ) (v : κ) : (stepK σ v).length ≤ σ.length + 1 := by
  rw [stepK_len]; split <;> omega
theorem foldK_le (xs : List κ) : ∀ σ : List κ, (xs.foldl stepK σ).length ≤ σ.length + xs.length := by
  induction xs with
  | nil => intro σ; simp
  | cons x r ih =>
    intro σ
    have h1 := ih (stepK σ x)
    have h2 := stepK_le σ x
    rw [List.foldl_cons, List.length_cons]
    omega
theorem firstK_le (xs : List κ) (i : Nat) : (firstK xs i).length ≤ i := by
  have h := foldK_le (xs.take i) []
  have h2 : (xs.take i).length ≤ i := List.length_take_le _ _
  unfold firstK
  simp only [List.length_nil, Nat.zero_add] at h
  omega
theorem stepK_any (σ : List κ) (v k : κ) : (stepK σ v).any (fun z => decide (z = k)) = (σ.any (fun z => decide (z = k)) || decide (k = v)) := by
  unfold stepK
  by_cases h : σ.any (fun z => decide (z = v)) = true
  · rw [if_pos h]
    by_cases e : k = v
    · subst e; rw [h]; simp
    · simp [e]
  · rw [if_neg h, List.any_append]
    by_cases e : k = v
    · subst e; simp
    · have : ¬ v = k := fun q => e q.symm
      simp [e, this]
end
section
variable {prog : Program} {w : World} {A : Around} {R : Result → Shared → Prop} {I : Addr} {fp wr : List Addr} {G : Array GenState → Array GenState → Prop} {n : Nat} {P : Nat → Value → Prop} {St : Nat → Shared → Prop}
variable {κ : Type} [DecidableEq κ] {knd : PySem.KeyKind prog w κ}
theorem setOf_eq {h : Heap} {a : Addr} {S S' : κ → Bool} {n n' : Nat} (hS : h.SetOf knd a S n) (e : ∀ k, S k = S' k) (en : n = n') : h.SetOf knd a S' n' := by
  obtain rfl : S = S' := funext e
  subst en; exact hS
theorem setOf_moved {h h' : Heap} {a : Addr} {S : κ → Bool} {n : Nat} (hS : h.SetOf knd a S n) (e : ∀ o, h.get? a = some o → h'.get? a = some o) : h'.SetOf knd a S n := by
  obtain ⟨o, es, ep, tb, ho, r⟩ := hS
  exact ⟨o, es, ep, tb, e o ho, r⟩
theorem set_loop (W : WalksS prog w A.in1 I fp wr G n P St) (D : Addr) (hD : D ∉ fp) (xs : List κ) (hl : xs.length = n)
    (hv : ∀ i v, P i v → ∃ k, xs[i]? = some k ∧ knd.is k v = true ∧ v.scannable = true) (hb : n + 1 < scanBound) :
    ∀ (k i : Nat) (s : Shared), n - i = k → i ≤ n → St i s →
      s.heap.SetOf knd D (fun k' => (firstK xs i).any fun z => decide (z = k')) (firstK xs i).length →
      (∀ s', Moved (D :: wr) G s s' → s'.heap.SetOf knd D (fun k' => (firstK xs n).any fun z => decide (z = k')) (firstK xs n).length → R (.ok (.ret .none)) s') →
      codeAny (model prog w) A (.builtin "set.update.loop" ⟨[.ref D, .ref I], []⟩) R s := by
  have hDw : D ∉ wr := fun h => hD (W.sub _ h)
  have sub : ∀ b ∈ wr, b ∈ D :: wr := fun b hb => List.mem_cons_of_mem _ hb
  intro k
  induction k with
  | zero =>
    intro i s hk hi hst hS hR
    obtain rfl : i = n := by omega
    refine codeAny_builtin PyProof.Rows.F.entry_set_update_loop ?_
    rw [Around.under_plainId PyProof.Rows.F.plain_set_update_loop _]
    show wpAny _ A.in1 (pyNext (.ref I) >>= _) _ _ s
    refine wpAny_bind (W.done s _ _ hst fun s' hm => ?_)
    show wpAny _ A.in1 (ret Value.none) _ _ s'
    exact wpAny_pure (hR s' (hm.mono sub) (setOf_moved hS fun o => hm.heap D o hDw))
  | succ k ih =>
    intro i s hk hi hst hS hR
    have hlt : i < n := by omega
    refine codeAny_builtin PyProof.Rows.F.entry_set_update_loop ?_
    rw [Around.under_plainId PyProof.Rows.F.plain_set_update_loop _]
    show wpAny _ A.in1 (pyNext (.ref I) >>= _) _ _ s
    refine wpAny_bind (W.item i s _ _ hlt hst fun v s' hP hst' hm => ?_)
    obtain ⟨q, hq, hk', hsc⟩ := hv i v hP
    have hS' := setOf_moved (h' := s'.heap) hS fun o => hm.heap D o hDw
    show wpAny _ A.in1 (holding [v] (setAdd D v) >>= _) _ _ s'
    refine wpAny_bind (wpAny_holding ?_)
    unfold setAdd
    refine wpAny_holding ?_
    refine wpAny_bind (knd.pyHash (k := q) hk' ?_)
    have room : (firstK xs i).length + 1 < scanBound := by have := firstK_le xs i; omega
    refine wpAny_setAddHashed_of (knd := knd) (s := { s' with toks := s'.toks + 1 }) hk' hsc hS' room fun h' hsb hS2 => ?_
    have hSi : h'.SetOf knd D (fun k' => (firstK xs (i + 1)).any fun z => decide (z = k')) (firstK xs (i + 1)).length :=
      setOf_eq hS2 (fun k' => by rw [firstK_succ hq, stepK_any]) (by rw [firstK_succ hq, stepK_len])
    refine wpAny_pure ⟨plainId_quiet PyProof.Rows.F.plain_set_update_loop _, ih (i + 1) _ (by omega) hlt (W.frame _ s' _ _ hst' (Nat.le_succ _) fun b hb o e => ?_) hSi fun s'' hm'' hS'' => ?_⟩
    · rw [hsb.2 b (fun h : b = D => hD (by rw [← h]; exact hb))]; exact e
    · refine hR s'' (Moved.trans W.gtrans ((hm.mono sub).then_heap (Nat.le_succ _) fun b o hb e => ?_) hm'') hS''
      rw [hsb.2 b (fun h : b = D => hb (by rw [h]; exact List.mem_cons_self))]; exact e
end
section
variable {prog : Program} {w : World} {A : Around} {E : Value → Shared → Prop} {s : Shared} {κ : Type} [DecidableEq κ] {knd : PySem.KeyKind prog w κ}
set_option maxHeartbeats 3200000 in
theorem set_of_list {l : Addr} {its : Array Value} {xs : List κ} {Q : Value → Shared → Prop}
    (hh : A.handled = none) (hl : s.heap.IsList l its) (hn : xs.length = its.size) (hi : ∀ (i : Nat) (v : Value), its[i]? = some v → ∃ k, xs[i]? = some k ∧ knd.is k v = true ∧ v.scannable = true) (hb : its.size + 1 < scanBound)
    (h : ∀ (h' : Heap) (tk : Nat), h'.SetOf knd s.heap.objs.size (fun k' => (firstK xs its.size).any fun z => decide (z = k')) (firstK xs its.size).length →
      (∀ b o, b < s.heap.objs.size → s.heap.get? b = some o → h'.get? b = some o) → Q (.ref s.heap.objs.size) { s with heap := h', toks := tk }) :
    wpAny (model prog w) A (call (.type "set") [.ref l]) Q E s := by
  obtain ⟨c, tl, hmro⟩ := PySem.F.called_set.mro
  have hmade := PySem.F.called_set.made
  have hsub := PySem.F.called_set.sub
  refine wpAny_call (codeAny_of_tree ?_)
  show wpAny _ _ (callAny (.type "set") _) _ _ _
  refine wpAny_pure ⟨Code.quiet_builtin _ (by decide +kernel), codeAny_builtin PySem.F.entry_type_call ?_⟩
  rw [Around.under_plain (weight_type_call_type "set" [.ref l] []) rfl]
  have h1 := PySem.F.called_set.notType
  have h2 := PySem.F.called_set.canCreate
  have hct := PySem.F.typeCall_set_1 (.ref l)
  repeat (any_goals (first | assumption | wp_step))
  refine codeAny_mono (code_set_new_1 (.ref l) (E := E) (Q₁ := fun obj s₁ => ∃ led : Bool, obj = .ref s.heap.objs.size ∧ s₁ = { s with heap := s.heap.push { cls := .type "set", dict := none, data := .set #[] 0 (.fresh 0 0 led) } }) fun led => ⟨led, rfl, rfl⟩) fun r s₁ hr => ?_
  cases r with
  | error e => exact hr
  | ok fl =>
    cases fl with
    | ret obj =>
      obtain ⟨led, rfl, rfl⟩ := hr
      have hS : (s.heap.push { cls := .type "set", dict := none, data := .set #[] 0 (.fresh 0 0 led) }).get? s.heap.objs.size = some { cls := .type "set", dict := none, data := .set #[] 0 (.fresh 0 0 led) } := Heap.get?_push_size _ rfl
      have hT : Shared.TypeIs { s with heap := s.heap.push { cls := .type "set", dict := none, data := .set #[] 0 (.fresh 0 0 led) } } (.ref s.heap.objs.size) "set" := ⟨_, hS, rfl⟩
      have hli := PySem.F.called_set.init.lookup
      have hbi := PySem.F.called_set.init.bind (.ref s.heap.objs.size)
      repeat (any_goals (first | assumption | wp_step))
      refine codeAny_mono (codeAny_call_builtin (R := wants (fun r s₂ => r = .none ∧ ∃ h' tk, s₂ = { s with heap := h', toks := tk } ∧
          h'.SetOf knd s.heap.objs.size (fun k' => (firstK xs its.size).any fun z => decide (z = k')) (firstK xs its.size).length ∧
          (∀ b o, b < s.heap.objs.size → s.heap.get? b = some o → h'.get? b = some o)) E) PySem.F.called_set.init.plain PySem.F.entry_set_init (check_set_init_1 hT ?_)) fun r₂ s₂ hr₂ => ?_
      · obtain ⟨ol, hol, hcl, nl, hdl⟩ := hl
        obtain ⟨ocls, odict, odata, oslots⟩ := ol
        simp only at hcl hdl
        subst hcl; subst hdl
        have hol' : (s.heap.push { cls := .type "set", dict := none, data := .set #[] 0 (.fresh 0 0 led) }).get? l = some { cls := .type "list", dict := odict, data := .seq its nl, slots := oslots } := Heap.get?_push_of_some _ hol
        have hsls := PySem.F.sub_list_set
        have hslf := PySem.F.sub_list_frozenset
        have hne : (Value.type "list" == Value.type "dict") = false := by decide
        have hl1 : (s.heap.push { cls := .type "set", dict := none, data := .set #[] 0 (.fresh 0 0 led) }).IsList l its := ⟨_, hol', rfl, nl, rfl⟩
        unfold Builtin.«set.__init__» noKeywords Builtin.Frozenset.updateFrom
        generalize hPI : pyIter = PI
        wp_walk
        subst hPI
        refine wpAny_pyIter_list hl1 ?_
        refine wpAny_bind (wpAny_runValue ?_)
        have hlS : l < s.heap.objs.size := Heap.lt_size hol
        have hh3 : A.in1.in1.in1.handled = none := by simp [hh]
        have sz : (s.heap.push { cls := .type "set", dict := none, data := .set #[] 0 (.fresh 0 0 led) }).objs.size = s.heap.objs.size + 1 := Heap.size_push ..
        have hneI : l ≠ (s.heap.push { cls := .type "set", dict := none, data := .set #[] 0 (.fresh 0 0 led) }).objs.size := by rw [Heap.size_push]; exact Nat.ne_of_lt (Nat.lt_succ_of_lt hlS)
        have hSf : s.heap.objs.size ∉ [(s.heap.push { cls := .type "set", dict := none, data := .set #[] 0 (.fresh 0 0 led) }).objs.size, l] := by
          simp only [List.mem_cons, List.not_mem_nil, or_false, not_or]
          exact ⟨by rw [Heap.size_push]; exact Nat.ne_of_lt (Nat.lt_succ_self _), Nat.ne_of_gt hlS⟩
        refine set_loop (knd := knd) ((Walks.list hh3 _ l hneI its).toS) s.heap.objs.size hSf xs hn hi hb (its.size - 0) 0 _ (by omega) (Nat.zero_le _)
          ⟨⟨_, Heap.get?_push_size _ rfl, rfl, rfl⟩, (hl1.push _)⟩ ?hS0 ?hR
        case hS0 =>
          have hget : ((s.heap.push { cls := .type "set", dict := none, data := .set #[] 0 (.fresh 0 0 led) }).push { cls := .type "list_iterator", data := .fields #[.ref l, .int 0 0] }).get? s.heap.objs.size = some { cls := .type "set", dict := none, data := .set #[] 0 (.fresh 0 0 led) } := Heap.get?_push_of_some _ hS
          refine setOf_eq ((PyProof.Rows.setObjOf_fresh (knd := knd) led).setOf hget (by unfold scanBound; omega)) (fun _ => rfl) rfl
        case hR =>
          intro s' hm hS'
          obtain ⟨h', g', d', tk', os'⟩ := s'
          obtain rfl : g' = s.gens := hm.gens
          obtain rfl : d' = s.drawn := hm.drawn
          obtain rfl : os' = s.os := hm.os
          show wpAny _ _ _ _ _ _
          refine wpAny_pure ?_
          show wpAny _ _ (ret Value.none) _ _ _
          refine wpAny_pure ⟨rfl, h', tk', rfl, hS', fun b o hb e => ?_⟩
          refine hm.heap b o ?_ (Heap.get?_push_of_some _ (Heap.get?_push_of_some _ e))
          simp only [List.mem_cons, List.not_mem_nil, or_false, not_or]
          exact ⟨Nat.ne_of_lt hb, by rw [Heap.size_push]; exact Nat.ne_of_lt (Nat.lt_succ_of_lt hb)⟩
      · cases r₂ with
        | error e => exact hr₂
        | ok fl₂ =>
          cases fl₂ with
          | ret r =>
            obtain ⟨rfl, h', tk, rfl, hS', hk'⟩ := hr₂
            repeat (any_goals (first | assumption | wp_step))
            exact h _ _ hS' hk'
          | next => exact hr₂
          | brk => exact hr₂
          | cont => exact hr₂
    | next => exact hr
    | brk => exact hr
    | cont => exact hr
end
end Wk

end

section
set_option Elab.async false
set_option linter.all false
set_option maxRecDepth 100000
/-! A small pure evaluator for the defs of the text: values, syntax, meaning. -/
namespace Wk
open PySem

/-- a value at run time: plain data; a list that nobody else holds; a caught exception; an object -/
inductive Rv where
  | d (p : PyData)
  | own (xs : List PyData)
  | exc (c : Nat)
  | obj (n : Nat)

structure Inst where
  cls : Nat
  fs : List (Str × Rv)
abbrev Sto := List Inst

inductive Out (α : Type) where
  | ok (a : α) (s : Sto)
  | exc (c : Nat) (s : Sto)
  | bad

def M (α : Type) : Type := Sto → Out α
def M.pure {α : Type} (a : α) : M α := fun s => .ok a s
def M.bind {α β : Type} (m : M α) (f : α → M β) : M β := fun s => match m s with
  | .ok a s' => f a s'
  | .exc c s' => .exc c s'
  | .bad => .bad
instance : Monad M where
  pure := M.pure
  bind := M.bind
def bad {α : Type} : M α := fun _ => .bad
def raise {α : Type} (c : Nat) : M α := fun s => .exc c s
/-- an exception is not carried here -/
def quiet {α : Type} (m : M α) : M α := fun s => match m s with
  | .ok a s' => .ok a s'
  | _ => .bad

section
variable {α β γ : Type}
theorem M.bind_ok {m : M α} {f : α → M β} {s : Sto} {a : α} {s' : Sto} (h : m s = .ok a s') : (m >>= f) s = f a s' := by
  show M.bind m f s = _
  unfold M.bind; rw [h]
@[simp] theorem pure_bind' (a : α) (f : α → M β) : (pure a >>= f) = f a := id rfl
@[simp] theorem bad_bind (f : α → M β) : ((bad : M α) >>= f) = bad := id rfl
@[simp] theorem raise_bind (c : Nat) (f : α → M β) : ((raise c : M α) >>= f) = raise c := id rfl
@[simp] theorem bind_assoc' (m : M α) (f : α → M β) (g : β → M γ) : ((m >>= f) >>= g) = (m >>= fun a => f a >>= g) := by
  funext s
  show M.bind (M.bind m f) g s = M.bind m (fun a => M.bind (f a) g) s
  unfold M.bind
  cases m s <;> rfl
@[simp] theorem bind_pure' (m : M α) : (m >>= fun a => pure a) = m := by
  funext s
  show M.bind m _ s = m s
  unfold M.bind
  cases h : m s <;> rfl
@[simp] theorem quiet_pure (a : α) : quiet (pure a : M α) = pure a := id rfl
@[simp] theorem quiet_bad : quiet (bad : M α) = bad := id rfl
end

/-- try: m, except: the class's number -/
def tryM {α : Type} (m : M α) (h : Nat → M α) : M α := fun s => match m s with
  | .ok a s' => .ok a s'
  | .exc c s' => h c s'
  | .bad => .bad

/-! ### syntax -/
inductive Op2 where | add | sub | mul | fdiv | mod | pow
  deriving DecidableEq
inductive Cm where | eq | ne | lt | le | gt | ge | is | isnot | in_ | notin
  deriving DecidableEq
inductive Ty where | int | bool | str | tuple | list | value | cls (c : Nat)
  deriving DecidableEq
inductive Bi where | len | all | sum | tuple | list | int | str | abs | max1 | max2 | max3 | min1 | min2 | sorted | setlen | sortedset | range1 | range2
  deriving DecidableEq
inductive Me where | join | index | count | split | partition
  deriving DecidableEq
/-- what is walked: a sequence, two in step, a sequence with its places, ranges -/
inductive Ik where | seq | zip | enum | range1 | range2
  deriving DecidableEq
inductive Tg where | one (i : Nat) | many (is : List Nat)
  deriving DecidableEq
inductive Lit where | non | bl (b : Bool) | int (i : Int) | str (s : Str)
  deriving DecidableEq

mutual
inductive Tm where
  | var (i : Nat)
  | bor (i : Nat)
  | glob (j : Nat) (l : Lit)
  | lit (l : Lit)
  | bin (o : Op2) (a b : Tm)
  | neg (a : Tm)
  | not (a : Tm)
  | and (a b : Tm)
  | or (a b : Tm)
  | cmp (o : Cm) (a b : Tm)
  | chain (o o' : Cm) (a b c : Tm)
  | ite (c a b : Tm)
  | call (f : Nat) (as : Tms)
  | bi (b : Bi) (as : Tms)
  | setlen (a : Tm)
  | isi (a : Tm) (t : Ty)
  | idx (a i : Tm)
  | slice (a lo hi : Tm)
  | rev (a : Tm)
  | tup (as : Tms)
  | lst (as : Tms)
  | comp (elt : Tm) (g : Tg) (k : Ik) (a b : Tm) (own : List Nat) (cond : Tm)
  | meth (m : Me) (o : Tm) (as : Tms)
  | fr (a : Tm)
  | no
  /-- told(lambda: a): a refusal is handed to f -/
  | told (f : Nat) (cs : List Nat) (a : Tm)
  /-- text that is never reached -/
  | opq
inductive Tms where
  | nil
  | cons (a : Tm) (r : Tms)
end

/-- the body of a try: a store, or one of two -/
inductive Tb where
  | asg (i : Nat) (e : Tm)
  | ite (c : Tm) (a b : Tb)

mutual
inductive Sm where
  | tryK (b : Tb) (x k : Nat) (cs : List Nat)
  | mov (i j : Nat)
  | asg (i : Nat) (e : Tm)
  | asgO (i : Nat) (e : Tm)
  | fz (i : Nat)
  | asgN (is : List Nat) (es : Tms)
  | unp (is : List Nat) (e : Tm)
  | app (i : Nat) (e : Tm)
  | ext (i : Nat) (e : Tm)
  | exp (e : Tm)
  | ifS (c : Tm) (a b : Sms)
  | forS (g : Tg) (k : Ik) (a b : Tm) (body : Sms)
  | whl (c : Tm) (body : Sms)
  | ret (e : Tm)
  | raise (c : Nat)
  | opq
  /-- a tuple's parts are stored, new empty lists among them -/
  | unpO (is : List Nat) (es : Tms)
  /-- a new dict is stored, which nobody reads -/
  | dct0 (i : Nat)
inductive Sms where
  | nil
  | cons (a : Sm) (r : Sms)
end

/-- [] -/
def isNewL : Tm → Bool
  | .lst .nil => true
  | _ => false
structure Fn where
  np : Nat
  ns : Nat
  body : Sms

/-! ### operations on values -/
abbrev Rv.int (i : Int) : Rv := .d (.int i)
abbrev Rv.str (s : Str) : Rv := .d (.str s)
abbrev Rv.bl (b : Bool) : Rv := .d (.bool b)
abbrev Rv.non : Rv := .d .none
abbrev Rv.tup (xs : List PyData) : Rv := .d (.tuple xs)
abbrev Rv.lst (xs : List PyData) : Rv := .d (.list xs)

def Lit.val : Lit → PyData
  | .non => .none
  | .bl b => .bool b
  | .int i => .int i
  | .str s => .str s

/-- shared from now on -/
def frz : Rv → Rv
  | .own xs => .d (.list xs)
  | r => r
/-- as plain data -/
def toP : Rv → M PyData
  | .d p => pure p
  | .own xs => pure (.list xs)
  | _ => bad
def toB : Rv → M Bool
  | .d (.bool b) => pure b
  | _ => bad
def allP : List Rv → M (List PyData)
  | [] => pure []
  | r :: rs => do
    let p ← toP r
    let ps ← allP rs
    pure (p :: ps)
def okLen (n : Nat) : Bool := decide (n ≤ sizeLine)
/-- the items of what is walked -/
def items : Rv → M (List PyData)
  | .d (.list xs) => pure xs
  | .d (.tuple xs) => pure xs
  | .own xs => pure xs
  | .d (.str s) => if okLen s.length then pure (s.cps.toList.map fun c => .str ⟨#[c]⟩) else bad
  | _ => bad
def seqOf : Rv → M (List PyData)
  | .d (.list xs) => pure xs
  | .d (.tuple xs) => pure xs
  | .own xs => pure xs
  | _ => bad
def ownOf : Rv → M (List PyData)
  | .own xs => pure xs
  | _ => bad
def boolsOf : List PyData → Option (List Bool)
  | [] => some []
  | .bool b :: r => (boolsOf r).map (b :: ·)
  | _ => none
def intsOf : List PyData → Option (List Int)
  | [] => some []
  | .int i :: r => (intsOf r).map (i :: ·)
  | _ => none
def strsOf : List PyData → Option (List Str)
  | [] => some []
  | .str s :: r => (strsOf r).map (s :: ·)
  | _ => none

def mkL (xs : List PyData) : M Rv := if okLen xs.length then pure (.own xs) else bad
def mkT (xs : List PyData) : M Rv := if okLen xs.length then pure (.d (.tuple xs)) else bad
def mkS (s : Str) : M Rv := if okLen s.length then pure (.d (.str s)) else bad

/-- factors whose product the machine is known to tell -/
def okMul (i j : Int) : Bool := decide (Builtin.Int.intBits i ≤ 64) || decide (Builtin.Int.intBits j ≤ 64) || (decide (Builtin.Int.intBits i ≤ 2 ^ 20) && decide (Builtin.Int.intBits j ≤ 2 ^ 20))
def okDiv (j : Int) : Bool := decide (j ≠ 0) && decide (j.natAbs.log2 < 9000)

def binOp : Op2 → Rv → Rv → M Rv
  | .add, .d (.int i), .d (.int j) => pure (.int (i + j))
  | .add, .d (.bool b), .d (.int j) => pure (.int ((if b = true then 1 else 0) + j))
  | .add, .d (.str a), .d (.str b) => if okLen (a.length + b.length) then pure (.str (a ++ b)) else bad
  | .add, .d (.tuple a), .d (.tuple b) => mkT (a ++ b)
  | .add, .own a, .own b => mkL (a ++ b)
  | .sub, .d (.int i), .d (.int j) => pure (.int (i - j))
  | .mul, .d (.int i), .d (.int j) => if okMul i j then pure (.int (i * j)) else bad
  | .mul, .own a, .d (.int j) => if decide (-(2 ^ 63) ≤ j) && decide (j < 2 ^ 63) && okLen (a.length * j.toNat) then pure (.own (List.flatten (List.replicate j.toNat a))) else bad
  | .mul, .d (.tuple a), .d (.int j) => if decide (-(2 ^ 63) ≤ j) && decide (j < 2 ^ 63) && (decide (j ≤ 1) || a.isEmpty || (decide (j ≤ 1000) && decide (a.length ≤ 1000))) then pure (.d (.tuple (List.flatten (List.replicate j.toNat a)))) else bad
  | .fdiv, .d (.int i), .d (.int j) => if okDiv j then pure (.int (i.fdiv j)) else bad
  | .mod, .d (.int i), .d (.int j) => if j = 0 then bad else pure (.int (i.fmod j))
  | .pow, .d (.int i), .d (.int j) => if decide (0 ≤ j) && decide (j ≤ 64) && decide (i.natAbs ≤ 1000) then pure (.int (i ^ j.toNat)) else bad
  | _, _, _ => bad

def okEq (a b : PyData) : Bool := decide (min a.depth b.depth ≤ 60)
def eqP (a b : PyData) : M Bool := if okEq a b then pure (PyData.eqv a b) else bad
def strIn (a b : Str) : Bool := !(Builtin.Str.occurrences b a 0 b.length 1).isEmpty
def inP (x : PyData) (xs : List PyData) : M Bool := if okEq x (.list xs) then pure (xs.any fun z => PyData.eqv z x) else bad
def inR : PyData → Rv → M Bool
  | .str a, .d (.str b) => pure (strIn a b)
  | x, .d (.list xs) => inP x xs
  | x, .d (.tuple xs) => inP x xs
  | x, .own xs => inP x xs
  | _, _ => bad
def cmpOp : Cm → Rv → Rv → M Bool
  | .eq, a, b => do
    let p ← toP a
    let q ← toP b
    eqP p q
  | .ne, a, b => do
    let p ← toP a
    let q ← toP b
    let r ← eqP p q
    pure !r
  | .lt, .d (.int i), .d (.int j) => pure (decide (i < j))
  | .le, .d (.int i), .d (.int j) => pure (decide (i ≤ j))
  | .gt, .d (.int i), .d (.int j) => pure (decide (j < i))
  | .ge, .d (.int i), .d (.int j) => pure (decide (j ≤ i))
  | .lt, .d (.str i), .d (.str j) => pure (decide (i.cps.toList < j.cps.toList))
  | .le, .d (.str i), .d (.str j) => pure (!decide (j.cps.toList < i.cps.toList))
  | .is, .d .none, .d .none => pure true
  | .is, _, .d .none => pure false
  | .isnot, .d .none, .d .none => pure false
  | .isnot, _, .d .none => pure true
  | .is, .d (.bool a), .d (.bool b) => pure (a == b)
  | .isnot, .d (.bool a), .d (.bool b) => pure (!(a == b))
  | .is, .d (.str _), .d (.bool _) => pure false
  | .isnot, .d (.str _), .d (.bool _) => pure true
  | .in_, a, b => do
    let p ← toP a
    inR p b
  | .notin, a, b => do
    let p ← toP a
    let r ← inR p b
    pure !r
  | _, _, _ => bad

def isiOp : Rv → Ty → M Bool
  | .d p, .int => pure (match p with | .int _ => true | .bool _ => true | _ => false)
  | .d p, .bool => pure (match p with | .bool _ => true | _ => false)
  | .d p, .str => pure (match p with | .str _ => true | _ => false)
  | .d p, .tuple => pure (match p with | .tuple _ => true | _ => false)
  | .d p, .list => pure (match p with | .list _ => true | _ => false)
  | .own _, .list => pure true
  | .own _, .int => pure false
  | .own _, .bool => pure false
  | .own _, .str => pure false
  | .own _, .tuple => pure false
  | .exc c, .cls k => pure (decide (k = c) || decide (k = 0))
  | .exc _, .value => pure true
  | _, _ => bad

def ixOf (n : Nat) (i : Int) : Option Nat := L2.ixN n i
def idxOp : Rv → Rv → M Rv
  | .d (.list xs), .d (.int i) => match L2.atI xs i with | some p => pure (.d p) | none => bad
  | .d (.tuple xs), .d (.int i) => match L2.atI xs i with | some p => pure (.d p) | none => bad
  | .own xs, .d (.int i) => match L2.atI xs i with | some p => pure (.d p) | none => bad
  | .d (.str s), .d (.int i) => match L2.atI s.cps.toList i with | some c => if okLen s.length then pure (.str ⟨#[c]⟩) else bad | none => bad
  | _, _ => bad
def cutL {α : Type} (xs : List α) (lo hi : Option Int) : List α := (xs.drop (HT.sIx xs.length 0 lo)).take (HT.sIx xs.length xs.length hi - HT.sIx xs.length 0 lo)
def bndOf : Tm → Rv → M (Option Int)
  | .no, _ => pure none
  | _, .d (.int i) => pure (some i)
  | _, _ => bad
def cutOp : Rv → Option Int → Option Int → M Rv
  | .d (.list xs), lo, hi => pure (.own (cutL xs lo hi))
  | .own xs, lo, hi => pure (.own (cutL xs lo hi))
  | .d (.tuple xs), lo, hi => pure (.d (.tuple (cutL xs lo hi)))
  | .d (.str s), lo, hi => if okLen s.length then pure (.str (L2.cutS s lo hi)) else bad
  | _, _, _ => bad
def revOp : Rv → M Rv
  | .d (.list xs) => pure (.own xs.reverse)
  | .own xs => pure (.own xs.reverse)
  | _ => bad

def rangeL (lo hi : Int) : List PyData := (List.range (hi - lo).toNat).map fun (k : Nat) => .int (lo + (k : Int))
def okRange (lo hi : Int) : Bool := decide (-(2 ^ 62) ≤ lo) && decide (lo < 2 ^ 62) && decide (-(2 ^ 62) ≤ hi) && decide (hi < 2 ^ 62) && okLen (hi - lo).toNat
/-- a list, or (kind 1) a tuple -/
def lstOf : Rv → M (Bool × List PyData)
  | .d (.list xs) => pure (false, xs)
  | .own xs => pure (false, xs)
  | .d (.tuple xs) => pure (true, xs)
  | _ => bad
def listOf : Rv → M (List PyData)
  | .d (.list xs) => pure xs
  | .own xs => pure xs
  | _ => bad
def zipL : List PyData → List PyData → List PyData
  | x :: xs, y :: ys => .tuple [x, y] :: zipL xs ys
  | _, _ => []
def enumL : Nat → List PyData → List PyData
  | _, [] => []
  | k, x :: xs => .tuple [.int (k : Int), x] :: enumL (k + 1) xs
def walk : Ik → Rv → Rv → M (List PyData)
  | .seq, a, _ => items a
  | .zip, a, b => do
    let x ← lstOf a
    let y ← lstOf b
    if !x.1 || y.1 then pure (zipL x.2 y.2) else bad
  | .enum, a, _ => do
    let x ← lstOf a
    pure (enumL 0 x.2)
  | .range1, .d (.int j), _ => if okRange 0 j then pure (rangeL 0 j) else bad
  | .range2, .d (.int i), .d (.int j) => if okRange i j then pure (rangeL i j) else bad
  | _, _, _ => bad

def minI : Int → List Int → Int
  | m, [] => m
  | m, x :: xs => minI (if x < m then x else m) xs
def maxI : Int → List Int → Int
  | m, [] => m
  | m, x :: xs => maxI (if m < x then x else m) xs
/-- keys that are told by value -/
def keysOf : List PyData → Option (List (Sum Int Str))
  | [] => some []
  | .int i :: r => (keysOf r).map (.inl i :: ·)
  | .str s :: r => (keysOf r).map (.inr s :: ·)
  | _ => none
def sortI (xs : List Int) : List Int := xs.mergeSort (fun a b => decide (a ≤ b))
def sortS (xs : List Str) : List Str := xs.mergeSort (fun a b => !decide (b.cps.toList < a.cps.toList))

def bi1 : Bi → Rv → M Rv
  | .len, .d (.str s) => if okLen s.length then pure (.int s.length) else bad
  | .len, r => do
    let xs ← seqOf r
    pure (.int xs.length)
  | .all, r => do
    let xs ← seqOf r
    match boolsOf xs with
    | some bs => pure (.bl (bs.all id))
    | none => bad
  | .sum, r => do
    let xs ← listOf r
    match intsOf xs with
    | some is => pure (.int is.sum)
    | none => bad
  | .tuple, r => do
    let xs ← seqOf r
    pure (.d (.tuple xs))
  | .list, r => do
    let xs ← seqOf r
    pure (.own xs)
  | .int, .d (.int i) => pure (.int i)
  | .int, .d (.bool b) => pure (.int (if b then 1 else 0))
  | .int, .d (.str s) => match PySem.intText? s with | some n => if decide (s.length ≤ 640) then pure (.int n) else bad | none => bad
  | .str, .d (.int i) => if decide (i.natAbs.log2 < 1920) then pure (.str (toString i)) else bad
  | .str, .d (.str s) => pure (.str s)
  | .abs, .d (.int i) => pure (.int (if i < 0 then -i else i))
  | .max1, r => do
    let xs ← listOf r
    match intsOf xs with
    | some (i :: is) => pure (.int (maxI i is))
    | _ => bad
  | .min1, r => do
    let xs ← listOf r
    match intsOf xs with
    | some (i :: is) => pure (.int (minI i is))
    | _ => bad
  | .sorted, r => do
    let xs ← listOf r
    match intsOf xs with
    | some is => pure (.own ((sortI is).map .int))
    | none => match strsOf xs with
      | some ss => if decide (ss.length < 64) then pure (.own ((sortS ss).map .str)) else bad
      | none => bad
  | .setlen, .own xs => match keysOf xs with
    | some ks => if decide (ks.length ≤ 4000) then pure (.int (firstK ks ks.length).length) else bad
    | none => bad
  | .range1, .d (.int j) => if okRange 0 j then pure (.own (rangeL 0 j)) else bad
  | _, _ => bad
def bi2 : Bi → Rv → Rv → M Rv
  | .max2, .d (.int i), .d (.int j) => pure (.int (if j > i then j else i))
  | .min2, .d (.int i), .d (.int j) => pure (.int (if j < i then j else i))
  | .range2, .d (.int i), .d (.int j) => if okRange i j then pure (.own (rangeL i j)) else bad
  | _, _, _ => bad
def biOp (b : Bi) : List Rv → M Rv
  | [r] => bi1 b r
  | [r, r'] => bi2 b r r'
  | _ => bad

def meOp : Me → Rv → List Rv → M Rv
  | .join, .d (.str a), [r] => do
    let xs ← seqOf r
    match strsOf xs with
    | some ss => if decide ((ss.map (·.length)).sum + ss.length * a.length ≤ 16777216) then pure (.str (Str.join a ss)) else bad
    | none => bad
  | .split, .d (.str a), [.d (.str b)] => if b.length = 0 then bad else if okLen (a.length + 2) && (Txt.split a b).all PyData.strOk then pure (.own ((Txt.split a b).map .str)) else bad
  | .index, r, [y] => do
    let xs ← listOf r
    let p ← toP y
    match xs.findIdx? (fun z => PyData.eqv z p) with
    | some j => if decide ((PyData.list xs).depth ≤ 60) && decide (p.depth ≤ 60) then pure (.int j) else bad
    | none => bad
  | .count, r, [y] => do
    let xs ← listOf r
    let p ← toP y
    if decide ((PyData.list xs).depth ≤ 60) && decide (p.depth ≤ 60) then pure (.int ((xs.countP fun z => PyData.eqv z p : Nat) : Int)) else bad
  | _, _, _ => bad

/-- the kind of thing whose method is called -/
def meChk : Me → Rv → M Unit
  | .index, .d (.list _) => pure ()
  | .index, .own _ => pure ()
  | .index, _ => bad
  | .count, .d (.list _) => pure ()
  | .count, .own _ => pure ()
  | .count, _ => bad
  | _, .d (.str _) => pure ()
  | _, _ => bad
/-! ### the frame -/
abbrev En := List (Option Rv)
def getR (σ : En) (i : Nat) : M Rv := match σ[i]? with
  | some (some r) => pure r
  | _ => bad
def getV (σ : En) (i : Nat) : M Rv := match σ[i]? with
  | some (some (.own _)) => bad
  | some (some r) => pure r
  | _ => bad
def setR (σ : En) (i : Nat) (r : Rv) : En := σ.set i (some r)
def setAll : En → List Nat → List PyData → M En
  | σ, [], [] => pure σ
  | σ, i :: is, p :: ps => setAll (setR σ i (.d p)) is ps
  | _, _, _ => bad
def setRs : En → List Nat → List Rv → M En
  | σ, [], [] => pure σ
  | σ, i :: is, r :: rs => setRs (setR σ i r) is rs
  | _, _, _ => bad
def bindTg : Tg → PyData → En → M En
  | .one i, p, σ => pure (setR σ i (.d p))
  | .many is, .tuple ps, σ => setAll σ is ps
  | .many _, _, _ => bad
def wipeR (σ : En) : List Nat → En
  | [] => σ
  | v :: vs => (wipeR σ vs).set v none

def compM (f : PyData → M (Option PyData)) : List PyData → M (List PyData)
  | [] => pure []
  | x :: xs => do
    let o ← f x
    let r ← compM f xs
    pure (match o with | some p => p :: r | none => r)

section
variable (F : Nat → List Rv → M Rv)
mutual
def evE (σ : En) : Tm → M Rv
  | .var i => getV σ i
  | .bor i => getR σ i
  | .glob _ l => pure (.d l.val)
  | .lit l => pure (.d l.val)
  | .bin o a b => do
    let x ← evE σ a
    let y ← evE σ b
    binOp o x y
  | .neg a => do
    let x ← evE σ a
    match x with
    | .d (.int i) => pure (.int (-i))
    | _ => bad
  | .not a => do
    let x ← evE σ a
    let b ← toB x
    pure (.bl !b)
  | .and a b => do
    let x ← evE σ a
    let k ← toB x
    if k then evE σ b else pure (.bl false)
  | .or a b => do
    let x ← evE σ a
    let k ← toB x
    if k then pure (.bl true) else evE σ b
  | .cmp o a b => do
    let x ← evE σ a
    let y ← evE σ b
    let k ← cmpOp o x y
    pure (.bl k)
  | .chain o o' a b c => do
    let x ← evE σ a
    let y ← evE σ b
    let k ← cmpOp o x y
    if k then do
      let z ← evE σ c
      let k' ← cmpOp o' y z
      pure (.bl k')
    else pure (.bl false)
  | .ite c a b => do
    let x ← evE σ c
    let k ← toB x
    if k then evE σ a else evE σ b
  | .call f as => do
    let xs ← evA σ as
    F f xs
  | .bi b as => do
    let xs ← evB σ as
    biOp b xs
  | .setlen a => do
    let x ← evE σ a
    biOp .setlen [x]
  | .isi a t => do
    let x ← evE σ a
    let k ← isiOp x t
    pure (.bl k)
  | .idx a i => do
    let x ← evE σ a
    let y ← evE σ i
    idxOp x y
  | .slice a lo hi => do
    let x ← evE σ a
    let l ← evE σ lo
    let l' ← bndOf lo l
    let h ← evE σ hi
    let h' ← bndOf hi h
    cutOp x l' h'
  | .rev a => do
    let x ← evE σ a
    revOp x
  | .tup as => do
    let xs ← evA σ as
    let ps ← allP xs
    mkT ps
  | .lst as => do
    let xs ← evA σ as
    let ps ← allP xs
    mkL ps
  | .comp elt g k a b own cond => do
    let x ← evE σ a
    let y ← evE σ b
    let xs ← walk k x y
    let ys ← compM (fun p => quiet (do
      let σ2 ← bindTg g p (wipeR σ own)
      let c ← evE σ2 cond
      let t ← toB c
      if t then do
        let z ← evE σ2 elt
        let q ← toP z
        pure (some q)
      else pure none)) xs
    pure (.own ys)
  | .meth m o as => do
    let x ← evE σ o
    let _ ← meChk m x
    let xs ← evB σ as
    meOp m x xs
  | .fr a => do
    let x ← evE σ a
    pure (frz x)
  | .no => pure (.d .none)
  | .told f cs a => tryM (evE σ a) (fun c => if cs.contains c then quiet (F f [.exc c]) else bad)
  | .opq => bad
/-- arguments that are handed on: shared from then on -/
def evA (σ : En) : Tms → M (List Rv)
  | .nil => pure []
  | .cons a r => do
    let x ← evE σ a
    let xs ← evA σ r
    pure (frz x :: xs)
/-- arguments that are only looked at -/
def evB (σ : En) : Tms → M (List Rv)
  | .nil => pure []
  | .cons a r => do
    let x ← evE σ a
    let xs ← evB σ r
    pure (x :: xs)
end

inductive Fl where | nx | rt (r : Rv)

def loopM (f : PyData → En → M (Fl × En)) : List PyData → En → M (Fl × En)
  | [], σ => pure (.nx, σ)
  | x :: xs, σ => do
    let r ← f x σ
    match r with
    | (.nx, σ1) => loopM f xs σ1
    | (.rt v, σ1) => pure (.rt v, σ1)
def whileM (c : En → M Bool) (b : En → M (Fl × En)) : Nat → En → M (Fl × En)
  | 0, _ => bad
  | n + 1, σ => do
    let k ← c σ
    if k then do
      let r ← b σ
      match r with
      | (.nx, σ1) => whileM c b n σ1
      | (.rt v, σ1) => pure (.rt v, σ1)
    else pure (.nx, σ)
/-- turns of a while at most -/
def mostTurns : Nat := 100000

def Tb.outs : Tb → List Nat
  | .asg i _ => [i]
  | .ite _ a b => a.outs ++ b.outs
/-! the slots that a statement may store to, or change -/
mutual
def Sm.outs : Sm → List Nat
  | .asg i _ => [i]
  | .asgO i _ => [i]
  | .fz i => [i]
  | .asgN is _ => is
  | .unp is _ => is
  | .app i _ => [i]
  | .ext i _ => [i]
  | .exp _ => []
  | .ifS _ a b => a.outs ++ b.outs
  | .forS g _ _ _ body => (match g with | .one i => [i] | .many is => is) ++ body.outs
  | .whl _ body => body.outs
  | .ret _ => []
  | .raise _ => []
  | .opq => []
  | .dct0 i => [i]
  | .unpO is _ => is
  | .tryK b x k _ => b.outs ++ [x, k]
  | .mov i j => [i, j]
def Sms.outs : Sms → List Nat
  | .nil => []
  | .cons a r => a.outs ++ r.outs
end

/-- a tuple's parts: new empty lists stay one's own -/
def evO (σ : En) : Tms → M (List Rv)
  | .nil => pure []
  | .cons a r => if isNewL a then do
      let xs ← evO σ r
      pure (.own [] :: xs)
    else do
      let x ← evE F σ a
      let xs ← evO σ r
      pure (frz x :: xs)
def evTb (σ : En) : Tb → M En
  | .asg i e => do
    let x ← evE F σ e
    pure (setR σ i x)
  | .ite c a b => do
    let x ← evE F σ c
    let k ← toB x
    if k then evTb σ a else evTb σ b
mutual
def evS (σ : En) : Sm → M (Fl × En)
  | .asg i e => do
    let x ← evE F σ e
    pure (.nx, setR σ i (frz x))
  | .asgO i e => do
    let x ← evE F σ e
    pure (.nx, setR σ i x)
  | .fz i => do
    let x ← getR σ i
    pure (.nx, setR σ i (frz x))
  | .asgN is es => do
    let xs ← evA F σ es
    let σ1 ← setRs σ is xs
    pure (.nx, σ1)
  | .unp is e => do
    let x ← evE F σ e
    match x with
    | .d (.tuple ps) => do
      let σ1 ← setAll σ is ps
      pure (.nx, σ1)
    | _ => bad
  | .app i e => do
    let x ← getR σ i
    match x with
    | .own xs => do
      let y ← evE F σ e
      let p ← toP y
      if decide (xs.length < sizeLine) then pure (.nx, setR σ i (.own (xs ++ [p]))) else bad
    | _ => bad
  | .ext i e => do
    let x ← getR σ i
    match x with
    | .own xs => do
      let y ← evE F σ e
      let ps ← ownOf y
      if okLen (xs.length + ps.length) then pure (.nx, setR σ i (.own (xs ++ ps))) else bad
    | _ => bad
  | .exp e => do
    let _ ← evE F σ e
    pure (.nx, σ)
  | .ifS c a b => do
    let x ← evE F σ c
    let k ← toB x
    if k then evSs σ a else evSs σ b
  | .forS g k a b body => do
    let x ← evE F σ a
    let y ← evE F σ b
    let xs ← walk k x y
    loopM (fun p σ1 => do
      let σ2 ← bindTg g p σ1
      evSs σ2 body) xs σ
  | .whl c body => whileM (fun σ1 => do
      let x ← evE F σ1 c
      toB x) (fun σ1 => evSs σ1 body) mostTurns σ
  | .ret e => do
    let x ← evE F σ e
    pure (.rt x, σ)
  | .raise c => raise c
  | .opq => bad
  | .dct0 i => pure (.nx, σ.set i none)
  | .unpO is es => do
    let xs ← evO F σ es
    if okLen xs.length then do
      let σ1 ← setRs σ is xs
      pure (.nx, σ1)
    else bad
  | .mov i j => do
    let x ← getR σ j
    pure (.nx, setR (σ.set j none) i x)
  | .tryK b x k cs => tryM (do
      let σ1 ← evTb F σ b
      pure (.nx, σ1)) (fun c => if cs.contains c then pure (.nx, (setR σ k (.exc c)).set x none) else bad)
def evSs (σ : En) : Sms → M (Fl × En)
  | .nil => pure (.nx, σ)
  | .cons a r => do
    let t ← evS σ a
    match t with
    | (.nx, σ1) => evSs σ1 r
    | (.rt v, σ1) => pure (.rt v, σ1)
end
end

def runFn (F : Nat → List Rv → M Rv) (fn : Fn) (as : List Rv) : M Rv :=
  if as.length = fn.np then do
    let t ← evSs F (as.map some ++ List.replicate (fn.ns - fn.np) none) fn.body
    match t with
    | (.rt r, _) => pure r
    | (.nx, _) => pure (.d .none)
  else bad
/-- the call of a def, by its number, so deep at most -/
def callF (T : Nat → Option Fn) : Nat → Nat → List Rv → M Rv
  | 0, _, _ => bad
  | n + 1, f, as => match T f with
    | some fn => runFn (callF T n) fn as
    | none => bad
/-- the equations are made here, once -/
theorem eqs_here : True := by
  have h1 := @evS.eq_1
  have h2 := @evE.eq_1
  have h3 := @evO.eq_1
  have h4 := @evTb.eq_1
  have h5 := @evSs.eq_1
  have h6 := @evA.eq_1
  have h7 := @evB.eq_1
  trivial
end Wk

end

section
set_option Elab.async false
set_option linter.all false
set_option maxRecDepth 100000
/-! How the evaluator's values stand in the abstract heap. -/
namespace Wk
open PySem PySem.Spec PyProof.Rows L2

/-- a list that stays as it is: locked, or an object of the module -/
def FzL (K : PySem.W.Frag) (H : Hp) (a : Addr) (xs : List V) : Prop :=
  (∃ o, H a = some (.frz o (.lst xs))) ∨
    ∃ (o : Obj) (its : Array Value) (n : Nat), K.lookup a = some o ∧ o.cls = .type "list" ∧ o.dict = none ∧ o.data = .seq its n ∧ its.size ≤ sizeLine ∧ Vals xs its.toList
theorem FzL.sql {K : PySem.W.Frag} {H : Hp} {a : Addr} {xs : List V} (h : FzL K H a xs) : SqL K H a xs := by
  rcases h with ⟨o, h⟩ | h
  · exact .inl (.inr ⟨o, h⟩)
  · exact .inr h

mutual
inductive Rep (K : PySem.W.Frag) (H : Hp) : V → PyData → Prop
  | non : Rep K H .non .none
  | bl (b : Bool) : Rep K H (.bl b) (.bool b)
  | int (i : Int) : Rep K H (.int i) (.int i)
  | str (x : Str) (h : PyData.strOk x = true) : Rep K H (.str x) (.str x)
  | lst {a : Addr} {xs : List V} {ds : List PyData} : FzL K H a xs → RepAll K H xs ds → Rep K H (.ref a) (.list ds)
  | tup {a : Addr} {xs : List V} {ds : List PyData} : H a = some (.tup xs) → RepAll K H xs ds → Rep K H (.ref a) (.tuple ds)
inductive RepAll (K : PySem.W.Frag) (H : Hp) : List V → List PyData → Prop
  | nil : RepAll K H [] []
  | cons {v : V} {vs : List V} {d : PyData} {ds : List PyData} : Rep K H v d → RepAll K H vs ds → RepAll K H (v :: vs) (d :: ds)
end

/-- what never changes in the abstract heap -/
def Stb : HO → Prop
  | .tup _ => True
  | .frz _ _ => True
  | _ => False
/-- .. or grows, or is of the model -/
def Fix : HO → Prop
  | .tup _ => True
  | .frz _ _ => True
  | .tbl _ => True
  | .ext _ => True
  | _ => False
theorem fix_of {o : HO} (h : Stb o) : Fix o := by cases o <;> first | exact True.intro | exact h.elim
theorem tabs_upd {T : List (Addr × Str)} {H : Hp} {a : Addr} {o : HO} (h : LamX.Tabs T H) (hs : ∀ u, H a = some u → ¬ Fix u) : LamX.Tabs T (upd H a o) := fun p hp => by
  obtain ⟨ps, h1, h2, h3⟩ := h p hp
  have n1 : p.1 ≠ a := fun z => hs (.tbl ps) (by rw [← z]; exact h1) True.intro
  refine ⟨ps, by rw [upd_ne n1]; exact h1, h2, fun pos cv hc => ?_⟩
  obtain ⟨c, e1, e2⟩ := h3 pos cv hc
  have n2 : c ≠ a := fun z => hs (LamX.CodeO c p.2) (by rw [← z]; exact e2) (by unfold LamX.CodeO; exact True.intro)
  exact ⟨c, e1, by rw [upd_ne n2]; exact e2⟩
def Still (H H' : Hp) : Prop := ∀ a o, H a = some o → Stb o → H' a = some o

section
variable {K : PySem.W.Frag} {H H' : Hp}
theorem Still.refl : Still H H := fun _ _ h _ => h
theorem Still.trans {H'' : Hp} (a : Still H H') (b : Still H' H'') : Still H H'' := fun c o h s => b c o (a c o h s) s
theorem Still.upd {a : Addr} {o : HO} (h : ∀ u, H a = some u → ¬ Fix u) : Still H (upd H a o) := fun b u e s => by
  by_cases hb : b = a
  · subst hb; exact absurd (fix_of s) (h u e)
  · rw [upd_ne hb]; exact e
theorem Still.fresh {a : Addr} {o : HO} (h : H a = none) : Still H (L2.upd H a o) := Still.upd fun u e => by rw [h] at e; cases e
theorem FzL.still (s : Still H H') {a : Addr} {xs : List V} (h : FzL K H a xs) : FzL K H' a xs := by
  rcases h with ⟨o, h⟩ | h
  · exact .inl ⟨o, s _ _ h True.intro⟩
  · exact .inr h
mutual
theorem Rep.still (s : Still H H') : ∀ {v : V} {p : PyData}, Rep K H v p → Rep K H' v p
  | _, _, .non => .non
  | _, _, .bl b => .bl b
  | _, _, .int i => .int i
  | _, _, .str x h => .str x h
  | _, _, .lst h r => .lst (h.still s) (RepAll.still s r)
  | _, _, .tup h r => .tup (s _ _ h True.intro) (RepAll.still s r)
theorem RepAll.still (s : Still H H') : ∀ {vs : List V} {ps : List PyData}, RepAll K H vs ps → RepAll K H' vs ps
  | _, _, .nil => .nil
  | _, _, .cons a r => .cons (Rep.still s a) (RepAll.still s r)
end
mutual
theorem Rep.dp : ∀ {v : V} {p : PyData}, Rep K H v p → Dp K H v p
  | _, _, .non => .non
  | _, _, .bl b => .bl b
  | _, _, .int i => .int i
  | _, _, .str x _ => .str x
  | _, _, .lst h r => .lst h.sql (RepAll.dp r)
  | _, _, .tup h r => .tup (SqT.of h) (RepAll.dp r)
theorem RepAll.dp : ∀ {vs : List V} {ps : List PyData}, RepAll K H vs ps → DpAll K H vs ps
  | _, _, .nil => .nil
  | _, _, .cons a r => .cons (Rep.dp a) (RepAll.dp r)
end
mutual
theorem Rep.lay : ∀ {v : V} {p : PyData}, Rep K H v p → p.canLay0 = true
  | _, _, .non => by simp [PyData.canLay0]
  | _, _, .bl b => by simp [PyData.canLay0]
  | _, _, .int i => by simp [PyData.canLay0]
  | _, _, .str x h => by simp [PyData.canLay0, h]
  | _, _, .lst h r => by simp [PyData.canLay0, RepAll.lay r]
  | _, _, .tup h r => by simp [PyData.canLay0, RepAll.lay r]
theorem RepAll.lay : ∀ {vs : List V} {ps : List PyData}, RepAll K H vs ps → PyData.canLayAll0 ps = true
  | _, _, .nil => by simp [PyData.canLayAll0]
  | _, _, .cons a r => by simp [PyData.canLayAll0, Rep.lay a, RepAll.lay r]
end
theorem RepAll.length : ∀ {vs : List V} {ps : List PyData}, RepAll K H vs ps → vs.length = ps.length
  | _, _, .nil => rfl
  | _, _, .cons a r => by simp [RepAll.length r]
theorem RepAll.get : ∀ {vs : List V} {ps : List PyData} {i : Nat} {p : PyData}, RepAll K H vs ps → ps[i]? = some p → ∃ v, vs[i]? = some v ∧ Rep K H v p
  | _, _, _, _, .nil, e => by simp at e
  | _, _, 0, _, .cons a r, e => by simp at e; subst e; exact ⟨_, rfl, a⟩
  | _, _, i + 1, p, .cons a r, e => by
    obtain ⟨v, h1, h2⟩ := RepAll.get (i := i) (p := p) r (by simpa using e)
    exact ⟨v, by simpa using h1, h2⟩
theorem RepAll.get' : ∀ {vs : List V} {ps : List PyData} {i : Nat} {v : V}, RepAll K H vs ps → vs[i]? = some v → ∃ p, ps[i]? = some p ∧ Rep K H v p
  | _, _, _, _, .nil, e => by simp at e
  | _, _, 0, _, .cons a r, e => by simp at e; subst e; exact ⟨_, rfl, a⟩
  | _, _, i + 1, p, .cons a r, e => by
    obtain ⟨v, h1, h2⟩ := RepAll.get' (i := i) (v := p) r (by simpa using e)
    exact ⟨v, by simpa using h1, h2⟩
theorem RepAll.append : ∀ {vs ws : List V} {ps qs : List PyData}, RepAll K H vs ps → RepAll K H ws qs → RepAll K H (vs ++ ws) (ps ++ qs)
  | _, _, _, _, .nil, s => s
  | _, _, _, _, .cons a r, s => .cons a (RepAll.append r s)
theorem RepAll.take : ∀ (n : Nat) {vs : List V} {ps : List PyData}, RepAll K H vs ps → RepAll K H (vs.take n) (ps.take n)
  | 0, _, _, _ => by simp; exact .nil
  | _ + 1, _, _, .nil => .nil
  | n + 1, _, _, .cons a r => .cons a (RepAll.take n r)
theorem RepAll.drop : ∀ (n : Nat) {vs : List V} {ps : List PyData}, RepAll K H vs ps → RepAll K H (vs.drop n) (ps.drop n)
  | 0, _, _, r => r
  | _ + 1, _, _, .nil => .nil
  | n + 1, _, _, .cons a r => RepAll.drop n r
theorem RepAll.reverse : ∀ {vs : List V} {ps : List PyData}, RepAll K H vs ps → RepAll K H vs.reverse ps.reverse
  | _, _, .nil => .nil
  | _, _, .cons a r => by
    rw [List.reverse_cons, List.reverse_cons]
    exact (RepAll.reverse r).append (.cons a .nil)
theorem RepAll.rep : ∀ (n : Nat) {vs : List V} {ps : List PyData}, RepAll K H vs ps → RepAll K H (List.flatten (List.replicate n vs)) (List.flatten (List.replicate n ps))
  | 0, _, _, _ => .nil
  | n + 1, vs, ps, r => by
    rw [List.replicate_succ, List.replicate_succ, List.flatten_cons, List.flatten_cons]
    exact r.append (RepAll.rep n r)
end

/-- the ghost of the store: where the objects stand; what they own -/
structure Gh where
  pa : List Addr
  fa : List Addr
  tb : List (Addr × Str)
/-- what an expression, a call leaves: all but what the store owns is as it was -/
structure Frm (g : Gh) (H : Hp) (g' : Gh) (H' : Hp) : Prop where
  keep : ∀ a o, H a = some o → a ∉ g.fa → (∀ ps, o ≠ .tbl ps) → H' a = some o
  still : Still H H'
  new : ∀ a, a ∈ g'.fa → a ∈ g.fa ∨ H a = none
  pa : g.pa <+: g'.pa
  live : ∀ a, H' a = none → H a = none
  tb : g'.tb = g.tb
section
variable {g g' g'' : Gh} {H H' H'' : Hp}
theorem Frm.refl : Frm g H g H := ⟨fun _ _ h _ _ => h, .refl, fun _ h => .inl h, List.prefix_rfl, fun _ h => h, rfl⟩
theorem Frm.trans (a : Frm g H g' H') (b : Frm g' H' g'' H'') : Frm g H g'' H'' where
  keep := fun c o h n t => b.keep c o (a.keep c o h n t) (fun hc => by
    rcases a.new c hc with h1 | h1
    · exact n h1
    · rw [h1] at h; cases h) t
  tb := b.tb.trans a.tb
  still := a.still.trans b.still
  new := fun c hc => by
    rcases b.new c hc with h1 | h1
    · exact a.new c h1
    · exact .inr (a.live c h1)
  pa := a.pa.trans b.pa
  live := fun c h => a.live c (b.live c h)
theorem Frm.fresh {p : Addr} {o : HO} (h : H p = none) : Frm g H g (upd H p o) :=
  ⟨fun a u e _ _ => by rw [upd_ne (ne_of_none e h)]; exact e, .fresh h, fun _ h => .inl h, List.prefix_rfl, fun c q => by
    by_cases hc : c = p
    · subst hc; exact h
    · rw [upd_ne hc] at q; exact q, rfl⟩
end

/-- the store's objects (none so far) -/
def SRep (g : Gh) (H : Hp) (st : Sto) : Prop := st = [] ∧ g.fa = [] ∧ g.pa = [] ∧ LamX.Tabs g.tb H
theorem SRep.fa {g : Gh} {H : Hp} {st : Sto} (h : SRep g H st) {a : Addr} (ha : a ∈ g.fa) : H a ≠ none := by
  rw [h.2.1] at ha; cases ha
theorem SRep.nfa {g : Gh} {H : Hp} {st : Sto} (h : SRep g H st) {a : Addr} (ha : H a = none) : a ∉ g.fa := fun z => h.fa z ha
theorem SRep.nfaT {g : Gh} {H : Hp} {st : Sto} (h : SRep g H st) (a : Addr) : a ∉ g.fa := fun z => by rw [h.2.1] at z; cases z
theorem SRep.upd {g : Gh} {H : Hp} {st : Sto} {a : Addr} {o : HO} (h : SRep g H st) (hn : a ∉ g.fa) (hs : ∀ u, H a = some u → ¬ Fix u) : SRep g (upd H a o) st :=
  ⟨h.1, h.2.1, h.2.2.1, tabs_upd h.2.2.2 hs⟩
theorem SRep.fresh {g : Gh} {H : Hp} {st : Sto} {a : Addr} {o : HO} (h : SRep g H st) (hn : H a = none) : SRep g (L2.upd H a o) st :=
  h.upd (h.nfa hn) fun u e => by rw [hn] at e; cases e

/-- an exception's object, caught: of class cls, without a dict -/
def ExcV (cls : Value) (a : Addr) : HO := .ext fun h => ∃ (oe : Obj) (vs : Array Value), h.get? a = some oe ∧ Zc cls none oe ∧ oe.data = .fields vs
/-- the classes by name -/
def excTab : List (Str × Nat) := [("WorthError", 0), ("NoKind", 1), ("NoWorth", 2), ("NoRule", 3), ("TooMany", 4), ("Ended", 5), ("NoText", 6), ("NoBack", 7)]
/-- what isinstance asks of an exception of the class at D -/
structure ExKit (K : PySem.W.Frag) (D : Addr) (c : Nat) : Prop where
  ex : ExcC K D
  kit : ∀ q ∈ excTab, ∀ C, PySem.W.nsIn K mainGlobals q.1 = some (some (.ref C)) → PySem.W.kitOne K (.ref D) (.ref C) = some (decide (q.2 = c) || decide (q.2 = 0))
  val : PySem.W.kitOne K (.ref D) (.type "ValueError") = some true
/-- a value's run-time form in the abstract heap -/
def VR (K : PySem.W.Frag) (g : Gh) (H : Hp) (v : V) : Rv → Prop
  | .d p => Rep K H v p
  | .own xs => ∃ a vs, v = .ref a ∧ H a = some (.lst vs) ∧ a ∉ g.fa ∧ RepAll K H vs xs
  | .exc c => ∃ a D, v = .ref a ∧ H a = some (ExcV (.ref D) a) ∧ a ∉ g.fa ∧ ExKit K D c
  | .obj n => ∃ a, g.pa[n]? = some a ∧ v = .ref a
inductive VRs (K : PySem.W.Frag) (g : Gh) (H : Hp) : List V → List Rv → Prop
  | nil : VRs K g H [] []
  | cons {v : V} {vs : List V} {r : Rv} {rs : List Rv} : VR K g H v r → VRs K g H vs rs → VRs K g H (v :: vs) (r :: rs)
section
variable {K : PySem.W.Frag} {g g' : Gh} {H H' : Hp}
theorem excV_ne {a b : Addr} {cls : Value} {vs : List V} (h1 : H b = some (ExcV cls b)) (h2 : H a = some (.lst vs)) : b ≠ a := fun z => by
  subst z
  rw [h1] at h2
  unfold ExcV at h2
  cases h2
theorem prefix_get {α : Type} {l l' : List α} (h : l <+: l') {i : Nat} {x : α} (e : l[i]? = some x) : l'[i]? = some x := by
  obtain ⟨t, rfl⟩ := h
  rw [List.getElem?_append_left (by obtain ⟨z, _⟩ := List.getElem?_eq_some_iff.mp e; exact z)]
  exact e
theorem VR.mono (f : Frm g H g' H') {v : V} {r : Rv} (h : VR K g H v r) : VR K g' H' v r := by
  cases r with
  | d p => exact Rep.still f.still h
  | own xs =>
    obtain ⟨a, vs, rfl, h1, h2, h3⟩ := h
    refine ⟨a, vs, rfl, f.keep _ _ h1 h2 (fun _ z => nomatch z), fun z => ?_, h3.still f.still⟩
    rcases f.new a z with q | q
    · exact h2 q
    · rw [h1] at q; cases q
  | exc c =>
    obtain ⟨a, D, rfl, h1, h2, h3⟩ := h
    refine ⟨a, D, rfl, f.keep _ _ h1 h2 (fun _ z => by unfold ExcV at z; cases z), fun z => ?_, h3⟩
    rcases f.new a z with q | q
    · exact h2 q
    · rw [h1] at q; cases q
  | obj n =>
    obtain ⟨a, h1, rfl⟩ := h
    exact ⟨a, prefix_get f.pa h1, rfl⟩
theorem VRs.mono (f : Frm g H g' H') : ∀ {vs : List V} {rs : List Rv}, VRs K g H vs rs → VRs K g' H' vs rs
  | _, _, .nil => .nil
  | _, _, .cons a r => .cons (a.mono f) (VRs.mono f r)
theorem VRs.length : ∀ {vs : List V} {rs : List Rv}, VRs K g H vs rs → vs.length = rs.length
  | _, _, .nil => rfl
  | _, _, .cons a r => by simp [VRs.length r]
theorem VRs.reps : ∀ {vs : List V} {rs : List Rv} {ps : List PyData}, VRs K g H vs rs → rs = ps.map .d → RepAll K H vs ps
  | _, _, [], .nil, _ => .nil
  | _, _, p :: ps, .nil, e => by simp at e
  | _, _, [], .cons a r, e => by simp at e
  | _, _, p :: ps, .cons a r, e => by
    simp at e
    obtain ⟨rfl, e⟩ := e
    exact .cons a (VRs.reps r e)
end

/-- the table of the law's code object -/
def lawTab (K : PySem.W.Frag) : Option (Addr × Addr) := PySem.W.tabIn K "law"
def lamQ : Str := ("law" : Str) ++ ".<locals>." ++ "<lambda>"
def tabsK (K : PySem.W.Frag) : List (Addr × Str) := match lawTab K with
  | some (_, P) => [(P, lamQ)]
  | none => []
/-- the frame's slots -/
structure EnvR (K : PySem.W.Frag) (g : Gh) (H : Hp) (σV : L2.St) (σ : En) : Prop where
  tb : g.tb = tabsK K
  len : σV.length = σ.length
  get : ∀ (i : Nat) (r : Rv), σ[i]? = some (some r) → ∃ v, σV[i]? = some (some v) ∧ VR K g H v r
  sep : ∀ (i j : Nat) (xs ys : List PyData) (a : Addr), σ[i]? = some (some (.own xs)) → σ[j]? = some (some (.own ys)) → σV[i]? = some (some (.ref a)) → σV[j]? = some (some (.ref a)) → i = j
theorem EnvR.mono {K : PySem.W.Frag} {g g' : Gh} {H H' : Hp} {σV : L2.St} {σ : En} (f : Frm g H g' H') (e : EnvR K g H σV σ) : EnvR K g' H' σV σ :=
  ⟨f.tb.trans e.tb, e.len, fun i r h => let ⟨v, h1, h2⟩ := e.get i r h; ⟨v, h1, h2.mono f⟩, e.sep⟩

/-! ### outcomes -/
def Ent {α : Type} (o : Out α) (Q : α → Sto → Prop) (E : Nat → Sto → Prop) : Prop := match o with
  | .ok a s => Q a s
  | .exc c s => E c s
  | .bad => False
section
variable {α β : Type} {Q Q' : α → Sto → Prop} {E E' : Nat → Sto → Prop}
theorem Ent.mono {o : Out α} (h : Ent o Q E) (h1 : ∀ a s, Q a s → Q' a s) (h2 : ∀ c s, E c s → E' c s) : Ent o Q' E' := by
  cases o with
  | ok a s => exact h1 a s h
  | exc c s => exact h2 c s h
  | bad => exact h
theorem Ent.bind {m : M α} {f : α → M β} {s : Sto} {R : β → Sto → Prop} (h : Ent ((m >>= f) s) R E) : Ent (m s) (fun a s' => Ent (f a s') R E) E := by
  have h : Ent (M.bind m f s) R E := h
  unfold M.bind at h
  cases q : m s with
  | ok a s' => rw [q] at h; exact h
  | exc c s' => rw [q] at h; exact h
  | bad => rw [q] at h; exact h
theorem Ent.pure {a : α} {s : Sto} (h : Ent ((pure a : M α) s) Q E) : Q a s := h
theorem Ent.bad {s : Sto} (h : Ent ((Wk.bad : M α) s) Q E) : False := h
theorem Ent.ite {c : Prop} [Decidable c] {m : M α} {s : Sto} (h : Ent ((if c then m else Wk.bad) s) Q E) : c ∧ Ent (m s) Q E := by
  by_cases hc : c
  · rw [if_pos hc] at h; exact ⟨hc, h⟩
  · rw [if_neg hc] at h; exact h.elim
theorem Ent.quiet {m : M α} {s : Sto} (h : Ent ((quiet m) s) Q E) : Ent (m s) Q (fun _ _ => False) := by
  unfold Wk.quiet at h
  cases q : m s with
  | ok a s' => rw [q] at h; exact h
  | exc c s' => rw [q] at h; exact h
  | bad => rw [q] at h; exact h
end
end Wk

end

section
set_option Elab.async false
set_option linter.all false
set_option maxRecDepth 100000
/-! The operations on values, by the layer's rules. -/
namespace Wk
open PySem PySem.Spec PyProof.Rows L2

/-- what is wanted of a value that comes out: fresh: a new list -/
def Fin1 (K : PySem.W.Frag) (g : Gh) (H : Hp) (fresh : Bool) (Q : VK) : Rv → Sto → Prop := fun r st' => ∀ v g' H', Frm g H g' H' → SRep g' H' st' → VR K g' H' v r →
  (fresh = true → ∀ xs a, r = .own xs → v = .ref a → H a = none) → Q v H'
def NoE : Nat → Sto → Prop := fun _ _ => False
def rOp2 (K : PySem.W.Frag) (f : Rv → Rv → M Rv) : R2 := fun x y H Q => ∃ g st rx ry, VR K g H x rx ∧ VR K g H y ry ∧ SRep g H st ∧ Ent (f rx ry st) (Fin1 K g H true Q) NoE
def rOpB (K : PySem.W.Frag) (f : Rv → Rv → M Bool) : R2 := fun x y H Q => ∃ g st rx ry, VR K g H x rx ∧ VR K g H y ry ∧ SRep g H st ∧ Ent (f rx ry st) (fun b _ => Q (.bl b) H) NoE
def rCall (K : PySem.W.Frag) (f : List Rv → M Rv) : List V → Hp → VK → Prop := fun xs H Q => ∃ g st rs, VRs K g H xs rs ∧ SRep g H st ∧ Ent (f rs st) (Fin1 K g H true Q) NoE

section
variable {K : PySem.W.Frag} {g : Gh} {H : Hp} {Q : VK} {b : Bool} {st : Sto}
theorem Fin1.same {v : V} {p : PyData} (h : Fin1 K g H b Q (.d p) st) (hs : SRep g H st) (hv : Rep K H v p) : Q v H :=
  h v g H .refl hs hv fun _ _ _ e => by cases e
theorem Fin1.newL {p : Addr} {vs : List V} {xs : List PyData} (h : Fin1 K g H b Q (.own xs) st) (hs : SRep g H st) (hp : H p = none) (hr : RepAll K H vs xs) : Q (.ref p) (upd H p (.lst vs)) :=
  h (.ref p) g _ (.fresh hp) (hs.fresh hp) ⟨p, vs, rfl, upd_same, hs.nfa hp, hr.still (.fresh hp)⟩ fun _ _ _ _ e => by cases e; exact hp
theorem Fin1.newT {p : Addr} {vs : List V} {xs : List PyData} (h : Fin1 K g H b Q (.d (.tuple xs)) st) (hs : SRep g H st) (hp : H p = none) (hr : RepAll K H vs xs) : Q (.ref p) (upd H p (.tup vs)) :=
  h (.ref p) g _ (.fresh hp) (hs.fresh hp) (.tup upd_same (hr.still (.fresh hp))) fun _ _ _ e => by cases e
end

section
variable {K : PySem.W.Frag} {H : Hp}
theorem Rep.int_iff {v : V} {i : Int} (h : Rep K H v (.int i)) : v = .int i := by cases h; rfl
theorem Rep.bool_iff {v : V} {i : Bool} (h : Rep K H v (.bool i)) : v = .bl i := by cases h; rfl
theorem Rep.str_iff {v : V} {i : Str} (h : Rep K H v (.str i)) : v = .str i ∧ PyData.strOk i = true := by cases h with | str _ h => exact ⟨rfl, h⟩
theorem Rep.none_iff {v : V} (h : Rep K H v .none) : v = .non := by cases h; rfl
theorem Rep.tup_iff {v : V} {xs : List PyData} (h : Rep K H v (.tuple xs)) : ∃ a vs, v = .ref a ∧ H a = some (.tup vs) ∧ RepAll K H vs xs := by cases h with | tup h1 h2 => exact ⟨_, _, rfl, h1, h2⟩
theorem Rep.lst_iff {v : V} {xs : List PyData} (h : Rep K H v (.list xs)) : ∃ a vs, v = .ref a ∧ FzL K H a vs ∧ RepAll K H vs xs := by cases h with | lst h1 h2 => exact ⟨_, _, rfl, h1, h2⟩
theorem Rep.dict_no {v : V} {xs : List (PyData × PyData)} (h : Rep K H v (.dict xs)) : False := by cases h
end
theorem strOk_append {a b : Str} (ha : PyData.strOk a = true) (hb : PyData.strOk b = true) : PyData.strOk (a ++ b) = true := by
  unfold PyData.strOk at *
  show (a.cps ++ b.cps).all _ = true
  rw [Array.all_append, ha, hb]; rfl
theorem okLen_le {n : Nat} (h : okLen n = true) : n ≤ sizeLine := of_decide_eq_true h
theorem IntMulOk_of {i j : Int} (h : okMul i j = true) : IntMulOk i j := by
  unfold okMul at h
  simp only [Bool.or_eq_true, Bool.and_eq_true, decide_eq_true_eq] at h
  rcases h with (h | h) | ⟨h1, h2⟩
  · exact .of_left h
  · exact .of_right h
  · exact .of_bits h1 h2

def opOf : Op2 → Operator
  | .add => .Add | .sub => .Sub | .mul => .Mult | .fdiv => .FloorDiv | .mod => .Mod | .pow => .Pow
section
variable {X : Cx}
theorem op_mulM : OpR X (binaryOp .Mult) (rI (fun i j => IntMulOk i j) fun i j => .int (i * j)) := opI fun _ _ _ _ _ _ _ hc q => mul_int q hc
theorem op_fdivM : OpR X (binaryOp .FloorDiv) (rI (fun _ j => j ≠ 0 ∧ j.natAbs.log2 < 9000) fun i j => .int (i.fdiv j)) := opI fun i j _ _ _ _ _ hc q => floordiv_int hc.1 q (.inl (PyProof.noPylong_of_log2 hc.2))
theorem bin_add : OpR X (binaryOp .Add) (rOp2 X.K (binOp .add)) := by
  intro pins s σ H x y v u Q I rv ru h
  obtain ⟨g, st, rx, ry, h1, h2, hs, e⟩ := h
  match rx, ry, h1, h2, e with
  | .d (.int i), .d (.int j), h1, h2, e =>
    cases h1.int_iff; cases h2.int_iff
    exact op_add pins s σ H _ _ v u Q I rv ru ⟨i, j, rfl, rfl, Fin1.same (Ent.pure e) hs (.int _)⟩
  | .d (.bool b), .d (.int j), h1, h2, e =>
    cases h1.bool_iff; cases h2.int_iff
    cases rv
    obtain ⟨t, rfl⟩ := ru
    exact PySem.IntBool.add_bool_int ⟨.int ((if b = true then 1 else 0) + j), H, I.tok _, ⟨_, rfl⟩, Fin1.same (Ent.pure e) hs (.int _)⟩
  | .d (.str a), .d (.str b), h1, h2, e =>
    obtain ⟨rfl, o1⟩ := h1.str_iff
    obtain ⟨rfl, o2⟩ := h2.str_iff
    obtain ⟨z, e⟩ := Ent.ite e
    exact op_add_str pins s σ H _ _ v u Q I rv ru ⟨a, b, rfl, rfl, okLen_le z, Fin1.same (Ent.pure e) hs (.str _ (strOk_append o1 o2))⟩
  | .d (.tuple xs), .d (.tuple ys), h1, h2, e =>
    obtain ⟨a, vs, rfl, ha, ra⟩ := h1.tup_iff
    obtain ⟨b, ws, rfl, hb, rb⟩ := h2.tup_iff
    obtain ⟨z, e⟩ := Ent.ite e
    have z := okLen_le z
    have e := Ent.pure e
    rw [List.length_append, ← ra.length, ← rb.length] at z
    refine op_catA pins s σ H _ _ v u Q I rv ru ⟨a, b, vs, ws, rfl, rfl, SqT.of ha, SqT.of hb, z, ?_, ?_, ?_⟩
    · intro hv
      subst hv
      cases ra
      exact Fin1.same e hs (.tup hb rb)
    · intro hn hw
      subst hw
      cases rb
      rw [List.append_nil] at e
      exact Fin1.same e hs (.tup ha ra)
    · intro _ _ p hp
      exact Fin1.newT e hs hp (ra.append rb)
  | .own xs, .own ys, h1, h2, e =>
    obtain ⟨a, vs, rfl, ha, na, ra⟩ := h1
    obtain ⟨b, ws, rfl, hb, nb, rb⟩ := h2
    obtain ⟨z, e⟩ := Ent.ite e
    have z := okLen_le z
    have e := Ent.pure e
    rw [List.length_append, ← ra.length, ← rb.length] at z
    exact op_cat pins s σ H _ _ v u Q I rv ru ⟨a, b, vs, ws, rfl, rfl, ha, hb, z, fun p hp => Fin1.newL e hs hp (ra.append rb)⟩
end
end Wk

end

section
set_option Elab.async false
set_option linter.all false
set_option maxRecDepth 100000
set_option maxHeartbeats 4000000
/-! A tuple so often as an int says: once, never, or of a tuple of nothing. -/
namespace Wk
open PySem PySem.Spec PyProof.Rows L2
abbrev tupAt (h : Heap) (t : Addr) (vs : Array Value) (k : Nat) (dd : Option Addr) (sl : Array (Option Value)) : Prop := h.get? t = some { cls := .type "tuple", dict := dd, data := .seq vs k, slots := sl }
theorem mul_self {t : Addr} {vs : Array Value} {k : Nat} {dd : Option Addr} {sl : Array (Option Value)} {m : Int} {tk : Tok} (h0 : (decide (m < -(2 ^ 63)) || decide (m ≥ 2 ^ 63)) = false) (h1 : (vs.isEmpty || m == 1) = true) :
    Meets (Builtin.«tuple.__mul__» ⟨[.ref t, .int m tk], []⟩) (fun _ R s => tupAt s.heap t vs k dd sl ∧ R (.ok (.ret (.ref t))) s) :=
  .of_wp fun prog w A R s h => by
    obtain ⟨hp, gn, dr, tks, os⟩ := s
    obtain ⟨ht, h⟩ := h
    have ht : hp.get? t = some { cls := .type "tuple", dict := dd, data := .seq vs k, slots := sl } := ht
    have ix := AutoSeq1.idx_int
    wp_walk using wpAny_loadPart' ht
    repeat (first
      | (refine wpAny_ite_false (decide_eq_false (by rw [h0]; decide)) ?_; wp_walk using wpAny_loadPart' ht)
      | (refine wpAny_ite_true (decide_eq_true h1) ?_; wp_walk using wpAny_loadPart' ht))
    exact ⟨_, rfl, h⟩
theorem mul_zero {t : Addr} {vs : Array Value} {k : Nat} {dd : Option Addr} {sl : Array (Option Value)} {m : Int} {tk : Tok} (h0 : (decide (m < -(2 ^ 63)) || decide (m ≥ 2 ^ 63)) = false) (h1 : (vs.isEmpty || m == 1) = false) (h2 : (decide (m ≤ 0) || vs.isEmpty) = true) :
    Meets (Builtin.«tuple.__mul__» ⟨[.ref t, .int m tk], []⟩) (fun _ R s => tupAt s.heap t vs k dd sl ∧ R (.ok (.ret (.ref s.heap.objs.size))) { s with heap := s.heap.push { cls := .type "tuple", data := .seq #[] } }) :=
  .of_wp fun prog w A R s h => by
    obtain ⟨hp, gn, dr, tks, os⟩ := s
    obtain ⟨ht, h⟩ := h
    have ht : hp.get? t = some { cls := .type "tuple", dict := dd, data := .seq vs k, slots := sl } := ht
    have ix := AutoSeq1.idx_int
    wp_walk using wpAny_loadPart' ht
    repeat (first
      | (refine wpAny_ite_false (decide_eq_false (by rw [h0]; decide)) ?_; wp_walk using wpAny_loadPart' ht)
      | (refine wpAny_ite_false (decide_eq_false (by rw [h1]; decide)) ?_; wp_walk using wpAny_loadPart' ht)
      | (refine wpAny_ite_true (decide_eq_true h2) ?_; wp_walk using wpAny_loadPart' ht))
    exact ⟨_, rfl, h⟩
section
variable {X : Cx}
def rRepS (K : PySem.W.Frag) : R2 := fun x y H Q => ∃ (a : Addr) (m : Int) (vs : List V), x = .ref a ∧ y = .int m ∧ SqT K H a vs ∧ (-(2 ^ 63) ≤ m ∧ m < 2 ^ 63) ∧ (((vs = [] ∨ m = 1) ∧ Q (.ref a) H) ∨ (vs ≠ [] ∧ m ≤ 0 ∧ ∀ p, H p = none → Q (.ref p) (upd H p (.tup []))))
theorem op_repS : OpR X (binaryOp .Mult) (rRepS X.K) := by
  rintro pins s σ H _ _ v u Q I rx ry ⟨a, m, vs, rfl, rfl, hq, ⟨b1, b2⟩, q⟩
  cases rx
  obtain ⟨tk, rfl⟩ := ry
  obtain ⟨us, rv, ⟨⟨cl, dd, dt, sl⟩, g, e1, k, e2⟩, hz⟩ := I.tuple hq
  simp only at e1 e2
  subst e1 e2
  have hl := rv.length
  have h0 : (decide (m < -(2 ^ 63)) || decide (m ≥ 2 ^ 63)) = false := by
    rw [Bool.or_eq_false_iff]; constructor <;> exact decide_eq_false (by omega)
  have hem : vs = [] ↔ us.toArray.isEmpty = true := by
    cases vs <;> cases us <;> simp_all
  have go : ∀ (R : Value) (s2 : Shared), wpAny (model X.prog X.w) X.A (call (.builtin "tuple.__mul__") [.ref a, .int m tk]) (EP X pins σ Q) X.xe s → wpAny (model X.prog X.w) X.A (binaryOp .Mult (.ref a) (.int m tk)) (EP X pins σ Q) X.xe s := fun _ _ h =>
    wpAny_binaryOp_repeat_ref (T := "tuple") (U := "int") (by decide) ⟨_, g, rfl⟩ (fun s' => typeIs_int s' m tk) noFill_tuple_mul F.fills_int_mul F.slot_int_rmul repeat_tuple F.slot_int_index.lookup
      (call_meets F.slot_int_rmul (typeIs_int s m tk) F.entry_int_rmul (F.args_int_rmul_2 _ _) (int_rmul_tuple m tk a us.toArray k dd sl) ⟨g, rfl, ⟨_, g, rfl⟩, h⟩)
  refine go .none s ?_
  rcases q with ⟨h1, q⟩ | ⟨h1, h2, q⟩
  · have c1 : (us.toArray.isEmpty || m == 1) = true := by
      rcases h1 with h1 | h1
      · rw [hem.mp h1]; rfl
      · rw [h1]; simp
    exact call_meets F.slot_tuple_mul ⟨_, g, rfl⟩ F.entry_tuple_mul (F.args_tuple_mul_2 _ _) (mul_self h0 c1) ⟨g, ⟨.ref a, H, I, rfl, q⟩⟩
  · have c1 : us.toArray.isEmpty = false := by
      rw [← Bool.not_eq_true]; exact fun z => h1 (hem.mpr z)
    have c2 : (us.toArray.isEmpty || m == 1) = false := by
      rw [c1, Bool.false_or]; exact beq_eq_false_iff_ne.mpr (by omega)
    have c3 : (decide (m ≤ 0) || us.toArray.isEmpty) = true := by
      rw [decide_eq_true h2]; rfl
    refine call_meets F.slot_tuple_mul ⟨_, g, rfl⟩ F.entry_tuple_mul (F.args_tuple_mul_2 _ _) (mul_zero h0 c2 c3) ⟨g, ?_⟩
    have hi : Inv X pins σ (upd H s.heap.objs.size (.tup [])) { s with heap := s.heap.push { cls := .type "tuple", data := .seq #[] }, toks := s.toks } :=
      I.laid (t' := s.toks) (fun b o z => Heap.get?_push_of_some _ z) (Nat.le_refl _) ⟨by show 0 ≤ sizeLine; omega, [], .nil, IsTup.new _ _⟩
    exact ⟨.ref s.heap.objs.size, _, hi, rfl, q _ (I.hok.fresh (Nat.le_refl _))⟩
end
end Wk

end

section
set_option Elab.async false
set_option linter.all false
set_option maxRecDepth 100000
namespace Wk
open PySem PySem.Spec PyProof.Rows L2
section
variable {X : Cx}
theorem bin_sub : OpR X (binaryOp .Sub) (rOp2 X.K (binOp .sub)) := by
  intro pins s σ H x y v u Q I rv ru h
  obtain ⟨g, st, rx, ry, h1, h2, hs, e⟩ := h
  match rx, ry, h1, h2, e with
  | .d (.int i), .d (.int j), h1, h2, e =>
    cases h1.int_iff; cases h2.int_iff
    exact op_sub pins s σ H _ _ v u Q I rv ru ⟨i, j, rfl, rfl, Fin1.same (Ent.pure e) hs (.int _)⟩
theorem bin_mul : OpR X (binaryOp .Mult) (rOp2 X.K (binOp .mul)) := by
  intro pins s σ H x y v u Q I rv ru h
  obtain ⟨g, st, rx, ry, h1, h2, hs, e⟩ := h
  match rx, ry, h1, h2, e with
  | .d (.int i), .d (.int j), h1, h2, e =>
    cases h1.int_iff; cases h2.int_iff
    obtain ⟨z, e⟩ := Ent.ite e
    exact op_mulM pins s σ H _ _ v u Q I rv ru ⟨i, j, rfl, rfl, IntMulOk_of z, Fin1.same (Ent.pure e) hs (.int _)⟩
  | .own xs, .d (.int j), h1, h2, e =>
    obtain ⟨a, vs, rfl, ha, na, ra⟩ := h1
    cases h2.int_iff
    obtain ⟨z, e⟩ := Ent.ite e
    have e := Ent.pure e
    simp only [Bool.and_eq_true, decide_eq_true_eq] at z
    have z3 := okLen_le z.2
    rw [← ra.length] at z3
    exact op_rep pins s σ H _ _ v u Q I rv ru ⟨a, j, vs, rfl, rfl, ha, z.1.1, z.1.2, z3, fun p hp => Fin1.newL e hs hp (ra.rep _)⟩
  | .d (.tuple xs), .d (.int j), h1, h2, e =>
    obtain ⟨a, vs, rfl, ha, ra⟩ := h1.tup_iff
    cases h2.int_iff
    obtain ⟨z, e⟩ := Ent.ite e
    have e := Ent.pure e
    simp only [Bool.and_eq_true, Bool.or_eq_true, decide_eq_true_eq, List.isEmpty_iff] at z
    obtain ⟨⟨z1, z2⟩, z3⟩ := z
    have hnil : vs = [] ↔ xs = [] := by
      have := ra.length
      constructor
      · rintro rfl; exact List.eq_nil_of_length_eq_zero this.symm
      · rintro rfl; exact List.eq_nil_of_length_eq_zero this
    by_cases h1 : xs = [] ∨ j = 1
    · have e3 : List.flatten (List.replicate j.toNat xs) = xs := by
        rcases h1 with rfl | rfl
        · simp
        · simp
      rw [e3] at e
      exact op_repS pins s σ H _ _ v u Q I rv ru ⟨a, j, vs, rfl, rfl, SqT.of ha, ⟨z1, z2⟩, .inl ⟨h1.imp hnil.mpr id, Fin1.same e hs (.tup ha ra)⟩⟩
    · have hx : xs ≠ [] := fun z => h1 (.inl z)
      have hj : j ≠ 1 := fun z => h1 (.inr z)
      by_cases h2 : j ≤ 0
      · have e3 : List.flatten (List.replicate j.toNat xs) = [] := by
          rw [show j.toNat = 0 by omega]; rfl
        rw [e3] at e
        exact op_repS pins s σ H _ _ v u Q I rv ru ⟨a, j, vs, rfl, rfl, SqT.of ha, ⟨z1, z2⟩, .inr ⟨fun z => hx (hnil.mp z), h2, fun p hp => Fin1.newT e hs hp .nil⟩⟩
      · obtain ⟨z4, z5⟩ : j ≤ 1000 ∧ xs.length ≤ 1000 := by
          rcases z3 with (z3 | z3) | z3
          · omega
          · exact absurd z3 hx
          · exact z3
        rw [← ra.length] at z5
        exact op_repT pins s σ H _ _ v u Q I rv ru ⟨a, j, vs, rfl, rfl, SqT.of ha, fun q => hx (hnil.mp q), by omega, z4, z5, fun p hp => Fin1.newT e hs hp (ra.rep _)⟩
theorem bin_fdiv : OpR X (binaryOp .FloorDiv) (rOp2 X.K (binOp .fdiv)) := by
  intro pins s σ H x y v u Q I rv ru h
  obtain ⟨g, st, rx, ry, h1, h2, hs, e⟩ := h
  match rx, ry, h1, h2, e with
  | .d (.int i), .d (.int j), h1, h2, e =>
    cases h1.int_iff; cases h2.int_iff
    obtain ⟨z, e⟩ := Ent.ite e
    unfold okDiv at z
    simp only [Bool.and_eq_true, decide_eq_true_eq] at z
    exact op_fdivM pins s σ H _ _ v u Q I rv ru ⟨i, j, rfl, rfl, z, Fin1.same (Ent.pure e) hs (.int _)⟩
theorem bin_mod : OpR X (binaryOp .Mod) (rOp2 X.K (binOp .mod)) := by
  intro pins s σ H x y v u Q I rv ru h
  obtain ⟨g, st, rx, ry, h1, h2, hs, e⟩ := h
  match rx, ry, h1, h2, e with
  | .d (.int i), .d (.int j), h1, h2, e =>
    cases h1.int_iff; cases h2.int_iff
    by_cases hj : j = 0
    · have e : Ent ((if j = 0 then bad else pure (Rv.int (i.fmod j)) : M Rv) st) (Fin1 X.K g H true Q) NoE := e
      rw [if_pos hj] at e; exact e.elim
    · have e : Ent ((if j = 0 then bad else pure (Rv.int (i.fmod j)) : M Rv) st) (Fin1 X.K g H true Q) NoE := e
      rw [if_neg hj] at e
      exact op_modN pins s σ H _ _ v u Q I rv ru ⟨i, j, rfl, rfl, hj, Fin1.same (Ent.pure e) hs (.int _)⟩
theorem bin_pow : OpR X (binaryOp .Pow) (rOp2 X.K (binOp .pow)) := by
  intro pins s σ H x y v u Q I rv ru h
  obtain ⟨g, st, r1, r2, h1, h2, hs, e⟩ := h
  match r1, r2, h1, h2, e with
  | .d (.int i), .d (.int j), h1, h2, e =>
    cases h1.int_iff; cases h2.int_iff
    obtain ⟨z, e⟩ := Ent.ite e
    simp only [Bool.and_eq_true, decide_eq_true_eq] at z
    obtain ⟨⟨z1, z2⟩, z3⟩ := z
    exact op_pow pins s σ H _ _ v u Q I rv ru ⟨i, j, rfl, rfl, ⟨z1, by omega, by omega⟩, Fin1.same (Ent.pure e) hs (.int _)⟩
theorem bin_all (o : Op2) : OpR X (binaryOp (opOf o)) (rOp2 X.K (binOp o)) := by
  cases o
  · exact bin_add
  · exact bin_sub
  · exact bin_mul
  · exact bin_fdiv
  · exact bin_mod
  · exact bin_pow

/-! ### comparisons -/
theorem VR.dp {K : PySem.W.Frag} {g : Gh} {H : Hp} {v : V} {r : Rv} {st : Sto} {α : Type} {f : PyData → M α} {Q : α → Sto → Prop} {E : Nat → Sto → Prop} (h : VR K g H v r) (e : Ent ((toP r >>= f) st) Q E) :
    ∃ p, Dp K H v p ∧ p.canLay0 = true ∧ Ent (f p st) Q E := by
  cases r with
  | d p => exact ⟨p, Rep.dp h, Rep.lay h, e⟩
  | own xs =>
    obtain ⟨a, vs, rfl, ha, na, ra⟩ := h
    exact ⟨.list xs, .lst (SqL.of ha) (RepAll.dp ra), by simp [PyData.canLay0, RepAll.lay ra], e⟩
  | exc c => exact e.elim
  | obj n => exact e.elim
theorem eq_data {A : Around} {p q : PyData} (hu : A.units + 64 < cLine) (h : okEq p q = true) : A.units + min p.depth q.depth < cLine := by
  have := of_decide_eq_true h
  omega
theorem cmp_eq (hu : X.A.units + 64 < cLine) : OpR X (compareOp .Eq) (rOpB X.K (cmpOp .eq)) := by
  intro pins s σ H x y v u Q I rv ru h
  obtain ⟨g, st, rx, ry, h1, h2, hs, e⟩ := h
  have e : Ent ((toP rx >>= fun p => toP ry >>= fun q => eqP p q) st) (fun b _ => Q (.bl b) H) NoE := by cases rx <;> cases ry <;> exact e
  obtain ⟨p, dp, lp, e⟩ := h1.dp e
  obtain ⟨q, dq, lq, e⟩ := h2.dp e
  obtain ⟨z, e⟩ := Ent.ite e
  obtain ⟨as, r1⟩ := Dp.reads I p x v dp rv
  obtain ⟨bs, r2⟩ := Dp.reads I q y u dq ru
  exact SeqAt.compareEq_reads r1 r2 lp lq (eq_data hu z) ⟨.bl _, H, I, rfl, e⟩
theorem cmp_ne (hu : X.A.units + 64 < cLine) : OpR X (compareOp .NotEq) (rOpB X.K (cmpOp .ne)) := by
  intro pins s σ H x y v u Q I rv ru h
  obtain ⟨g, st, rx, ry, h1, h2, hs, e⟩ := h
  have e : Ent ((toP rx >>= fun p => toP ry >>= fun q => eqP p q >>= fun r => pure !r) st) (fun b _ => Q (.bl b) H) NoE := by cases rx <;> cases ry <;> exact e
  obtain ⟨p, dp, lp, e⟩ := h1.dp e
  obtain ⟨q, dq, lq, e⟩ := h2.dp e
  obtain ⟨z, e⟩ := Ent.ite (Ent.bind e)
  obtain ⟨as, r1⟩ := Dp.reads I p x v dp rv
  obtain ⟨bs, r2⟩ := Dp.reads I q y u dq ru
  exact SeqAt.compareNe_reads r1 r2 lp lq (eq_data hu z) ⟨.bl _, H, I, rfl, e⟩
theorem cmp_lt : OpR X (compareOp .Lt) (rOpB X.K (cmpOp .lt)) := by
  intro pins s σ H x y v u Q I rv ru h
  obtain ⟨g, st, rx, ry, h1, h2, hs, e⟩ := h
  match rx, ry, h1, h2, e with
  | .d (.int i), .d (.int j), h1, h2, e =>
    cases h1.int_iff; cases h2.int_iff
    exact op_lt pins s σ H _ _ v u Q I rv ru ⟨i, j, rfl, rfl, Ent.pure e⟩
  | .d (.str i), .d (.str j), h1, h2, e =>
    cases h1.str_iff.1; cases h2.str_iff.1
    exact op_lt_str pins s σ H _ _ v u Q I rv ru ⟨i, j, rfl, rfl, Ent.pure e⟩
theorem cmp_le : OpR X (compareOp .LtE) (rOpB X.K (cmpOp .le)) := by
  intro pins s σ H x y v u Q I rv ru h
  obtain ⟨g, st, rx, ry, h1, h2, hs, e⟩ := h
  match rx, ry, h1, h2, e with
  | .d (.int i), .d (.int j), h1, h2, e =>
    cases h1.int_iff; cases h2.int_iff
    exact op_le pins s σ H _ _ v u Q I rv ru ⟨i, j, rfl, rfl, Ent.pure e⟩
  | .d (.str i), .d (.str j), h1, h2, e =>
    cases h1.str_iff.1; cases h2.str_iff.1
    exact op_le_str pins s σ H _ _ v u Q I rv ru ⟨i, j, rfl, rfl, Ent.pure e⟩
theorem cmp_gt : OpR X (compareOp .Gt) (rOpB X.K (cmpOp .gt)) := by
  intro pins s σ H x y v u Q I rv ru h
  obtain ⟨g, st, rx, ry, h1, h2, hs, e⟩ := h
  match rx, ry, h1, h2, e with
  | .d (.int i), .d (.int j), h1, h2, e =>
    cases h1.int_iff; cases h2.int_iff
    exact op_gt pins s σ H _ _ v u Q I rv ru ⟨i, j, rfl, rfl, Ent.pure e⟩
theorem cmp_ge : OpR X (compareOp .GtE) (rOpB X.K (cmpOp .ge)) := by
  intro pins s σ H x y v u Q I rv ru h
  obtain ⟨g, st, rx, ry, h1, h2, hs, e⟩ := h
  match rx, ry, h1, h2, e with
  | .d (.int i), .d (.int j), h1, h2, e =>
    cases h1.int_iff; cases h2.int_iff
    exact op_ge pins s σ H _ _ v u Q I rv ru ⟨i, j, rfl, rfl, Ent.pure e⟩
theorem VR.non_iff {K : PySem.W.Frag} {g : Gh} {H : Hp} {v : V} {r : Rv} (h : VR K g H v r) : decide (v = .non) = (match r with | .d .none => true | _ => false) := by
  cases r with
  | d p => cases h <;> simp
  | own xs => obtain ⟨a, vs, rfl, _⟩ := h; simp
  | exc c => obtain ⟨a, D, rfl, _⟩ := h; simp
  | obj n => obtain ⟨a, _, rfl⟩ := h; simp
theorem plain_bs (a : Str) (t : Tok) (b : Bool) : plainIs (.str a t) (.bool b) = true := rfl
def isNonR : Rv → Bool
  | .d .none => true
  | _ => false
theorem VR.non_iff' {K : PySem.W.Frag} {g : Gh} {H : Hp} {v : V} {r : Rv} (h : VR K g H v r) : decide (v = .non) = isNonR r := by
  cases r with
  | d p => cases h <;> simp [isNonR]
  | own xs => obtain ⟨a, vs, rfl, _⟩ := h; simp [isNonR]
  | exc c => obtain ⟨a, D, rfl, _⟩ := h; simp [isNonR]
  | obj n => obtain ⟨a, _, rfl⟩ := h; simp [isNonR]
theorem is_cases {rx ry : Rv} {st : Sto} {R : Bool → Sto → Prop} (e : Ent (cmpOp .is rx ry st) R NoE) :
    (ry = .d .none ∧ R (isNonR rx) st) ∨ (∃ a b, rx = .d (.bool a) ∧ ry = .d (.bool b) ∧ R (a == b) st) ∨ (∃ a b, rx = .d (.str a) ∧ ry = .d (.bool b) ∧ R false st) := by
  rcases ry with q | q | q | q
  · cases q <;> (rcases rx with p | p | p | p <;> first
      | (exact False.elim e)
      | (exact .inl ⟨rfl, e⟩)
      | (cases p <;> first
        | (exact False.elim e)
        | (exact .inl ⟨rfl, e⟩)
        | (exact .inr (.inl ⟨_, _, rfl, rfl, e⟩))
        | (exact .inr (.inr ⟨_, _, rfl, rfl, e⟩))))
  all_goals (rcases rx with p | p | p | p <;> first | (exact False.elim e) | (cases p <;> exact False.elim e))
theorem isnot_cases {rx ry : Rv} {st : Sto} {R : Bool → Sto → Prop} (e : Ent (cmpOp .isnot rx ry st) R NoE) :
    (ry = .d .none ∧ R (!isNonR rx) st) ∨ (∃ a b, rx = .d (.bool a) ∧ ry = .d (.bool b) ∧ R (!(a == b)) st) ∨ (∃ a b, rx = .d (.str a) ∧ ry = .d (.bool b) ∧ R true st) := by
  rcases ry with q | q | q | q
  · cases q <;> (rcases rx with p | p | p | p <;> first
      | (exact False.elim e)
      | (exact .inl ⟨rfl, e⟩)
      | (cases p <;> first
        | (exact False.elim e)
        | (exact .inl ⟨rfl, e⟩)
        | (exact .inr (.inl ⟨_, _, rfl, rfl, e⟩))
        | (exact .inr (.inr ⟨_, _, rfl, rfl, e⟩))))
  all_goals (rcases rx with p | p | p | p <;> first | (exact False.elim e) | (cases p <;> exact False.elim e))
theorem cmp_is : OpR X (compareOp .Is) (rOpB X.K (cmpOp .is)) := by
  intro pins s σ H x y v u Q I rv ru h
  obtain ⟨g, st, rx, ry, h1, h2, hs, e⟩ := h
  rcases is_cases e with ⟨rfl, k⟩ | ⟨a, b, rfl, rfl, k⟩ | ⟨a, b, rfl, rfl, k⟩
  · cases Rep.none_iff h2
    refine op_isN pins s σ H _ _ v u Q I rv ru ⟨rfl, ?_⟩
    rw [h1.non_iff']
    exact k
  · cases Rep.bool_iff h1
    cases Rep.bool_iff h2
    refine op_isBl pins s σ H _ _ v u Q I rv ru ⟨a, b, rfl, rfl, ?_⟩
    rw [show (a == b) = decide (a = b) from by cases a <;> cases b <;> rfl] at k
    exact k
  · cases (Rep.str_iff h1).1
    cases Rep.bool_iff h2
    obtain ⟨t, rfl⟩ := rv
    cases ru
    exact wpAny_is_other (plain_bs a t b) (fun z => by cases z) ⟨.bl false, H, I, rfl, k⟩
theorem cmp_isnot : OpR X (compareOp .IsNot) (rOpB X.K (cmpOp .isnot)) := by
  intro pins s σ H x y v u Q I rv ru h
  obtain ⟨g, st, rx, ry, h1, h2, hs, e⟩ := h
  rcases isnot_cases e with ⟨rfl, k⟩ | ⟨a, b, rfl, rfl, k⟩ | ⟨a, b, rfl, rfl, k⟩
  · cases Rep.none_iff h2
    refine op_notN pins s σ H _ _ v u Q I rv ru ⟨rfl, ?_⟩
    rw [h1.non_iff']
    exact k
  · cases Rep.bool_iff h1
    cases Rep.bool_iff h2
    refine op_notBl pins s σ H _ _ v u Q I rv ru ⟨a, b, rfl, rfl, ?_⟩
    rw [show (a == b) = decide (a = b) from by cases a <;> cases b <;> rfl] at k
    exact k
  · cases (Rep.str_iff h1).1
    cases Rep.bool_iff h2
    obtain ⟨t, rfl⟩ := rv
    cases ru
    exact wpAny_isNot_other (plain_bs a t b) (fun z => by cases z) ⟨.bl true, H, I, rfl, k⟩
theorem in_units {A : Around} {p : PyData} {xs : List PyData} (hu : A.units + 64 < cLine) (h : okEq p (.list xs) = true) : A.units + 1 + min (PyData.depthAll xs) p.depth < cLine := by
  have h := of_decide_eq_true h
  rw [show (PyData.list xs).depth = PyData.depthAll xs + 1 by simp [PyData.depth, Nat.add_comm]] at h
  omega
/-- what the right side of in may be -/
theorem inR_cases {K : PySem.W.Frag} {g : Gh} {H : Hp} {x y : V} {p : PyData} {ry : Rv} {st : Sto} {R : Bool → Sto → Prop} (hy : VR K g H y ry) (e : Ent (inR p ry st) R NoE) :
    (∃ a b, p = .str a ∧ ry = .d (.str b) ∧ y = .str b ∧ R (strIn a b) st) ∨
    (∃ xs, (Dp K H y (.list xs) ∨ Dp K H y (.tuple xs)) ∧ PyData.canLayAll0 xs = true ∧ okEq p (.list xs) = true ∧ R (xs.any fun z => PyData.eqv z p) st) := by
  have fin : ∀ {xs : List PyData}, Ent (inP p xs st) R NoE → okEq p (.list xs) = true ∧ R (xs.any fun z => PyData.eqv z p) st := fun {xs} e => Ent.ite e
  cases ry with
  | d q =>
    cases q with
    | list xs =>
      have e : Ent (inP p xs st) R NoE := by cases p <;> exact e
      obtain ⟨a, vs, rfl, _, hr⟩ := Rep.lst_iff hy
      obtain ⟨z, e⟩ := fin e
      exact .inr ⟨xs, .inl (Rep.dp hy), RepAll.lay hr, z, e⟩
    | tuple xs =>
      have e : Ent (inP p xs st) R NoE := by cases p <;> exact e
      obtain ⟨a, vs, rfl, _, hr⟩ := Rep.tup_iff hy
      obtain ⟨z, e⟩ := fin e
      exact .inr ⟨xs, .inr (Rep.dp hy), RepAll.lay hr, z, e⟩
    | str b =>
      cases p with
      | str a => exact .inl ⟨a, b, rfl, rfl, (Rep.str_iff hy).1, e⟩
      | _ => exact e.elim
    | _ => cases p <;> exact e.elim
  | own xs =>
    have e : Ent (inP p xs st) R NoE := by cases p <;> exact e
    obtain ⟨a, vs, rfl, ha, na, ra⟩ := hy
    obtain ⟨z, e⟩ := fin e
    exact .inr ⟨xs, .inl (.lst (SqL.of ha) (RepAll.dp ra)), RepAll.lay ra, z, e⟩
  | exc c => cases p <;> exact e.elim
  | obj n => cases p <;> exact e.elim
theorem cmp_in (hu : X.A.units + 64 < cLine) : OpR X (compareOp .In) (rOpB X.K (cmpOp .in_)) := by
  intro pins s σ H x y v u Q I rv ru h
  obtain ⟨g, st, rx, ry, h1, h2, hs, e⟩ := h
  have e : Ent ((toP rx >>= fun p => inR p ry) st) (fun b _ => Q (.bl b) H) NoE := by cases rx <;> cases ry <;> exact e
  obtain ⟨p, dp, lp, e⟩ := h1.dp e
  rcases inR_cases (x := x) h2 e with ⟨a, b, rfl, rfl, rfl, e⟩ | ⟨xs, hd, lx, z, e⟩
  · cases dp
    exact op_in_str pins s σ H _ _ v u Q I rv ru ⟨a, b, rfl, rfl, e⟩
  · obtain ⟨as, r1⟩ := Dp.reads I p x v dp rv
    rcases hd with hd | hd
    · obtain ⟨bs, r2⟩ := Dp.reads I _ y u hd ru
      exact SeqAt.in_list_reads r2 r1 lx lp (in_units hu z) ⟨.bl _, H, I, rfl, e⟩
    · obtain ⟨bs, r2⟩ := Dp.reads I _ y u hd ru
      exact SeqAt.in_tuple_reads r2 r1 lx lp (in_units hu z) ⟨.bl _, H, I, rfl, e⟩
theorem cmp_notin (hu : X.A.units + 64 < cLine) : OpR X (compareOp .NotIn) (rOpB X.K (cmpOp .notin)) := by
  intro pins s σ H x y v u Q I rv ru h
  obtain ⟨g, st, rx, ry, h1, h2, hs, e⟩ := h
  have e : Ent ((toP rx >>= fun p => inR p ry >>= fun r => pure !r) st) (fun b _ => Q (.bl b) H) NoE := by cases rx <;> cases ry <;> exact e
  obtain ⟨p, dp, lp, e⟩ := h1.dp e
  rcases inR_cases (x := x) h2 (Ent.bind e) with ⟨a, b, rfl, rfl, rfl, e⟩ | ⟨xs, hd, lx, z, e⟩
  · cases dp
    exact op_notin_str pins s σ H _ _ v u Q I rv ru ⟨a, b, rfl, rfl, e⟩
  · obtain ⟨as, r1⟩ := Dp.reads I p x v dp rv
    rcases hd with hd | hd
    · obtain ⟨bs, r2⟩ := Dp.reads I _ y u hd ru
      exact SeqAt.notIn_list_reads r2 r1 lx lp (in_units hu z) ⟨.bl _, H, I, rfl, e⟩
    · obtain ⟨bs, r2⟩ := Dp.reads I _ y u hd ru
      exact SeqAt.notIn_tuple_reads r2 r1 lx lp (in_units hu z) ⟨.bl _, H, I, rfl, e⟩
def cmOf : Cm → CmpOp
  | .eq => .Eq | .ne => .NotEq | .lt => .Lt | .le => .LtE | .gt => .Gt | .ge => .GtE | .is => .Is | .isnot => .IsNot | .in_ => .In | .notin => .NotIn
theorem cmp_all (hu : X.A.units + 64 < cLine) (o : Cm) : OpR X (compareOp (cmOf o)) (rOpB X.K (cmpOp o)) := by
  cases o
  · exact cmp_eq hu
  · exact cmp_ne hu
  · exact cmp_lt
  · exact cmp_le
  · exact cmp_gt
  · exact cmp_ge
  · exact cmp_is
  · exact cmp_isnot
  · exact cmp_in hu
  · exact cmp_notin hu
end
end Wk

end

section
set_option Elab.async false
set_option linter.all false
set_option maxRecDepth 100000
namespace Wk
open PySem PySem.Spec PyProof.Rows L2
def tyName : Ty → Option String
  | .int => some "int"
  | .bool => some "bool"
  | .str => some "str"
  | .tuple => some "tuple"
  | .list => some "list"
  | _ => none
section
variable {X : Cx}
theorem kit5 {K : PySem.W.Frag} {t : Ty} {T : String} (h : tyName t = some T) :
    PySem.W.kitOne K (.type "NoneType") (.type T) = some false ∧ PySem.W.kitOne K (.type "bool") (.type T) = some (decide (T = "bool") || decide (T = "int")) ∧ PySem.W.kitOne K (.type "int") (.type T) = some (decide (T = "int")) ∧
    PySem.W.kitOne K (.type "str") (.type T) = some (decide (T = "str")) ∧ PySem.W.kitOne K (.type "list") (.type T) = some (decide (T = "list")) ∧ PySem.W.kitOne K (.type "tuple") (.type T) = some (decide (T = "tuple")) := by
  cases t <;> cases h <;> refine ⟨kit_ty (by decide +kernel), kit_ty (by decide +kernel), kit_ty (by decide +kernel), kit_ty (by decide +kernel), kit_ty (by decide +kernel), kit_ty (by decide +kernel)⟩
theorem isi_ok {t : Ty} {T : String} (hT : tyName t = some T) : CallR X (.builtin "isinstance") (fun xs H Q => ∃ g st rx x, xs = [x, .ty T] ∧ VR X.K g H x rx ∧ SRep g H st ∧ Ent (isiOp rx t st) (fun b _ => Q (.bl b) H) NoE) := by
  intro pins s σ H xs us Q I rv h
  obtain ⟨g, st, rx, x, rfl, h1, hs, e⟩ := h
  obtain ⟨k0, kb, ki, ks, kl, kt⟩ := kit5 (K := X.K) hT
  have go : ∀ {ty : String} {b : Bool}, TyX X.K H x (.type ty) → PySem.W.kitOne X.K (.type ty) (.type T) = some b → Q (.bl b) H → wpAny (model X.prog X.w) X.A (call (.builtin "isinstance") us) (EP X pins σ Q) X.xe s := fun {ty b} a1 a2 a3 =>
    call_isi pins s σ H _ us Q I rv ⟨x, .ty T, .type ty, .type T, b, rfl, .ty T, a1, a2, a3⟩
  cases rx with
  | d p =>
    cases h1 with
    | non => refine go (.base .non) k0 ?_; cases t <;> cases hT <;> exact e
    | bl b => refine go (.base (.bl b)) kb ?_; cases t <;> cases hT <;> exact e
    | int i => refine go (.base (.int i)) ki ?_; cases t <;> cases hT <;> exact e
    | str z hz => refine go (.base (.str z)) ks ?_; cases t <;> cases hT <;> exact e
    | lst hl hr =>
      have e : Q (.bl (decide (T = "list"))) H := by cases t <;> cases hT <;> exact e
      rcases hl with ⟨o, hl⟩ | ⟨o, its, n, hk, hc, _⟩
      · exact go (.base (.frz hl)) kl e
      · exact go (.kList hk hc) kl e
    | tup hl hr => refine go (.base (.tup hl)) kt ?_; cases t <;> cases hT <;> exact e
  | own xs =>
    obtain ⟨a, vs, rfl, ha, na, ra⟩ := h1
    refine go (.base (.lst ha)) kl ?_
    cases t <;> cases hT <;> exact e
  | exc c => cases t <;> first | exact e.elim | cases hT
  | obj n => cases t <;> exact e.elim

/-! ### places and stretches -/
theorem RepAll.atI {K : PySem.W.Frag} {H : Hp} {vs : List V} {ps : List PyData} {i : Int} {p : PyData} (r : RepAll K H vs ps) (h : L2.atI ps i = some p) : ∃ v, L2.atI vs i = some v ∧ Rep K H v p := by
  unfold L2.atI at *
  rw [← r.length] at h
  cases q : ixN vs.length i with
  | none => rw [q] at h; cases h
  | some j =>
    rw [q] at h
    exact r.get h
/-- a sequence that is read -/
theorem VR.seq {K : PySem.W.Frag} {g : Gh} {H : Hp} {v : V} {r : Rv} {st : Sto} {α : Type} {f : List PyData → M α} {Q : α → Sto → Prop} {E : Nat → Sto → Prop} (h : VR K g H v r) (e : Ent ((seqOf r >>= f) st) Q E) :
    ∃ a vs ps, v = .ref a ∧ (SqL K H a vs ∨ (SqT K H a vs ∧ Rep K H (.ref a) (.tuple ps))) ∧ RepAll K H vs ps ∧ Ent (f ps st) Q E := by
  cases r with
  | d p =>
    cases p with
    | list xs =>
      obtain ⟨a, vs, rfl, h1, h2⟩ := Rep.lst_iff h
      exact ⟨a, vs, xs, rfl, .inl h1.sql, h2, e⟩
    | tuple xs =>
      obtain ⟨a, vs, rfl, h1, h2⟩ := Rep.tup_iff h
      exact ⟨a, vs, xs, rfl, .inr ⟨SqT.of h1, .tup h1 h2⟩, h2, e⟩
    | _ => exact e.elim
  | own xs =>
    obtain ⟨a, vs, rfl, h1, _, h2⟩ := h
    exact ⟨a, vs, xs, rfl, .inl (SqL.of h1), h2, e⟩
  | exc c => exact e.elim
  | obj n => exact e.elim
theorem strOk_one {s : Str} {i : Int} {c : Nat} (h : PyData.strOk s = true) (e : L2.atI s.cps.toList i = some c) : PyData.strOk ⟨#[c]⟩ = true := by
  unfold L2.atI at e
  cases q : ixN s.cps.toList.length i with
  | none => rw [q] at e; cases e
  | some j =>
    rw [q] at e
    have hm : c ∈ s.cps.toList := List.mem_of_getElem? e
    unfold PyData.strOk at *
    have := Array.all_eq_true_iff_forall_mem.mp h c (by simpa using hm)
    simpa using this
theorem ix_all : IxR X (rOp2 X.K idxOp) := by
  intro value slice pins s σ H x y v u Q I rv ru h hsub
  obtain ⟨g, st, rx, ry, h1, h2, hs, e⟩ := h
  match rx, ry, h1, h2, e with
  | .d (.list xs), .d (.int i), h1, h2, e =>
    cases h2.int_iff
    obtain ⟨a, vs, rfl, hl, hr⟩ := Rep.lst_iff h1
    have e : Ent ((match L2.atI xs i with | some p => pure (Rv.d p) | none => bad : M Rv) st) (Fin1 X.K g H true Q) NoE := e
    cases q : L2.atI xs i with
    | none => rw [q] at e; exact e.elim
    | some p =>
      rw [q] at e
      obtain ⟨w, hw, rw'⟩ := hr.atI q
      exact ix_list value slice pins s σ H _ _ v u Q I rv ru ⟨a, vs, i, w, rfl, rfl, hl.sql, hw, Fin1.same e hs rw'⟩ hsub
  | .own xs, .d (.int i), h1, h2, e =>
    cases h2.int_iff
    obtain ⟨a, vs, rfl, hl, _, hr⟩ := h1
    have e : Ent ((match L2.atI xs i with | some p => pure (Rv.d p) | none => bad : M Rv) st) (Fin1 X.K g H true Q) NoE := e
    cases q : L2.atI xs i with
    | none => rw [q] at e; exact e.elim
    | some p =>
      rw [q] at e
      obtain ⟨w, hw, rw'⟩ := hr.atI q
      exact ix_list value slice pins s σ H _ _ v u Q I rv ru ⟨a, vs, i, w, rfl, rfl, SqL.of hl, hw, Fin1.same e hs rw'⟩ hsub
  | .d (.tuple xs), .d (.int i), h1, h2, e =>
    cases h2.int_iff
    obtain ⟨a, vs, rfl, hl, hr⟩ := Rep.tup_iff h1
    have e : Ent ((match L2.atI xs i with | some p => pure (Rv.d p) | none => bad : M Rv) st) (Fin1 X.K g H true Q) NoE := e
    cases q : L2.atI xs i with
    | none => rw [q] at e; exact e.elim
    | some p =>
      rw [q] at e
      obtain ⟨w, hw, rw'⟩ := hr.atI q
      exact ix_tup value slice pins s σ H _ _ v u Q I rv ru ⟨a, vs, i, w, rfl, rfl, SqT.of hl, hw, Fin1.same e hs rw'⟩ hsub
  | .d (.str z), .d (.int i), h1, h2, e =>
    cases h2.int_iff
    obtain ⟨rfl, ho⟩ := Rep.str_iff h1
    have e : Ent ((match L2.atI z.cps.toList i with | some c => if okLen z.length then pure (Rv.str ⟨#[c]⟩) else bad | none => bad : M Rv) st) (Fin1 X.K g H true Q) NoE := e
    cases q : L2.atI z.cps.toList i with
    | none => rw [q] at e; exact e.elim
    | some c =>
      rw [q] at e
      obtain ⟨hz, e⟩ := Ent.ite e
      exact ix_str value slice pins s σ H _ _ v u Q I rv ru ⟨z, i, c, rfl, rfl, okLen_le hz, q, Fin1.same e hs (.str _ (strOk_one ho q))⟩ hsub
theorem RepAll.cut {K : PySem.W.Frag} {H : Hp} {vs : List V} {ps : List PyData} (lo hi : Option Int) (r : RepAll K H vs ps) : RepAll K H (cutV vs lo hi) (cutL ps lo hi) := by
  unfold cutV cutL
  rw [← r.length]
  exact (r.drop _).take _
theorem strOk_cut {s : Str} {lo hi : Option Int} (h : PyData.strOk s = true) : PyData.strOk (cutS s lo hi) = true := by
  unfold PyData.strOk cutS at *
  simp only [List.all_toArray]
  rw [List.all_eq_true]
  intro c hc
  have h1 := List.mem_of_mem_drop (List.mem_of_mem_take hc)
  exact Array.all_eq_true_iff_forall_mem.mp h c (by simpa using h1)
theorem cut_whole {xs : List PyData} {lo hi : Option Int} (h1 : HT.sIx xs.length 0 lo = 0) (h2 : HT.sIx xs.length xs.length hi = xs.length) : cutL xs lo hi = xs := by
  unfold cutL
  rw [h1, h2]
  simp
theorem sl_all : SlR X (fun x lo hi H Q => ∃ g st rx, VR X.K g H x rx ∧ SRep g H st ∧ Ent (cutOp rx lo hi st) (Fin1 X.K g H true Q) NoE) := by
  intro pins s σ H x v vl vu lo hi sl Q I rv hsl pl pu h
  obtain ⟨g, st, rx, h1, hs, e⟩ := h
  match rx, h1, e with
  | .d (.list xs), h1, e =>
    obtain ⟨a, vs, rfl, hl, hr⟩ := Rep.lst_iff h1
    exact sl_list pins s σ H _ v vl vu lo hi sl Q I rv hsl pl pu ⟨a, vs, rfl, hl.sql, fun p hp => Fin1.newL e hs hp (hr.cut lo hi)⟩
  | .own xs, h1, e =>
    obtain ⟨a, vs, rfl, hl, _, hr⟩ := h1
    exact sl_list pins s σ H _ v vl vu lo hi sl Q I rv hsl pl pu ⟨a, vs, rfl, SqL.of hl, fun p hp => Fin1.newL e hs hp (hr.cut lo hi)⟩
  | .d (.tuple xs), h1, e =>
    obtain ⟨a, vs, rfl, hl, hr⟩ := Rep.tup_iff h1
    refine sl_tupA pins s σ H _ v vl vu lo hi sl Q I rv hsl pl pu ⟨a, vs, rfl, SqT.of hl, fun hw => ?_, fun _ p hp => Fin1.newT e hs hp (hr.cut lo hi)⟩
    rw [hr.length] at hw
    have e : Fin1 X.K g H true Q (.d (.tuple (cutL xs lo hi))) st := e
    rw [cut_whole hw.1 hw.2] at e
    exact Fin1.same e hs h1
  | .d (.str z), h1, e =>
    obtain ⟨rfl, ho⟩ := Rep.str_iff h1
    obtain ⟨hz, e⟩ := Ent.ite e
    exact sl_str pins s σ H _ v vl vu lo hi sl Q I rv hsl pl pu ⟨z, rfl, okLen_le hz, Fin1.same e hs (.str _ (strOk_cut ho))⟩
end
end Wk

end

section
set_option Elab.async false
set_option linter.all false
set_option maxRecDepth 100000
namespace Wk
open PySem PySem.Spec PyProof.Rows L2
section
variable {X : Cx}
theorem VRs.one {K : PySem.W.Frag} {g : Gh} {H : Hp} {vs : List V} {r : Rv} (h : VRs K g H vs [r]) : ∃ v, vs = [v] ∧ VR K g H v r := by
  cases h with | cons a b => cases b; exact ⟨_, rfl, a⟩
theorem VRs.two {K : PySem.W.Frag} {g : Gh} {H : Hp} {vs : List V} {r r' : Rv} (h : VRs K g H vs [r, r']) : ∃ v v', vs = [v, v'] ∧ VR K g H v r ∧ VR K g H v' r' := by
  cases h with | cons a b => obtain ⟨v, rfl, h⟩ := b.one; exact ⟨_, _, rfl, a, h⟩
theorem bi_len : CallR X (.builtin "len") (rCall X.K (biOp .len)) := by
  intro pins s σ H xs us Q I rv h
  obtain ⟨g, st, rs, hv, hs, e⟩ := h
  match rs, hv, e with
  | [_, _], _, e => exact e.elim
  | _ :: _ :: _ :: _, _, e => exact e.elim
  | [r], hv, e =>
    obtain ⟨v, rfl, h1⟩ := hv.one
    by_cases hr : ∃ z, r = .d (.str z)
    · obtain ⟨z, rfl⟩ := hr
      obtain ⟨rfl, _⟩ := Rep.str_iff h1
      obtain ⟨hz, e⟩ := Ent.ite e
      exact call_len pins s σ H _ us Q I rv ⟨.str z, _, rfl, ⟨okLen_le hz, rfl⟩, Fin1.same e hs (.int _)⟩
    · have e : Ent ((seqOf r >>= fun xs => pure (Rv.int xs.length)) st) (Fin1 X.K g H true Q) NoE := by
        cases r with
        | d p => cases p <;> first | exact e | exact absurd ⟨_, rfl⟩ hr
        | _ => exact e
      obtain ⟨a, vs, ps, rfl, hq, hr2, e⟩ := h1.seq e
      refine call_len_seq pins s σ H _ us Q I rv ⟨a, vs, rfl, hq.imp id And.left, ?_⟩
      rw [hr2.length]
      exact Fin1.same e hs (.int _)
theorem bools_get : ∀ {ps : List PyData} {bs : List Bool}, boolsOf ps = some bs → ps = bs.map .bool
  | [], bs, h => by cases h; rfl
  | .bool b :: r, bs, h => by
    simp only [boolsOf] at h
    cases q : boolsOf r with
    | none => rw [q] at h; cases h
    | some bs' => rw [q] at h; cases h; rw [List.map_cons, bools_get q]
  | .none :: r, bs, h => by cases h
  | .int _ :: r, bs, h => by cases h
  | .str _ :: r, bs, h => by cases h
  | .list _ :: r, bs, h => by cases h
  | .tuple _ :: r, bs, h => by cases h
  | .dict _ :: r, bs, h => by cases h
theorem ints_get : ∀ {ps : List PyData} {bs : List Int}, intsOf ps = some bs → ps = bs.map .int
  | [], bs, h => by cases h; rfl
  | .int b :: r, bs, h => by
    simp only [intsOf] at h
    cases q : intsOf r with
    | none => rw [q] at h; cases h
    | some bs' => rw [q] at h; cases h; rw [List.map_cons, ints_get q]
  | .none :: r, bs, h => by cases h
  | .bool _ :: r, bs, h => by cases h
  | .str _ :: r, bs, h => by cases h
  | .list _ :: r, bs, h => by cases h
  | .tuple _ :: r, bs, h => by cases h
  | .dict _ :: r, bs, h => by cases h
theorem strs_get : ∀ {ps : List PyData} {bs : List Str}, strsOf ps = some bs → ps = bs.map .str
  | [], bs, h => by cases h; rfl
  | .str b :: r, bs, h => by
    simp only [strsOf] at h
    cases q : strsOf r with
    | none => rw [q] at h; cases h
    | some bs' => rw [q] at h; cases h; rw [List.map_cons, strs_get q]
  | .none :: r, bs, h => by cases h
  | .bool _ :: r, bs, h => by cases h
  | .int _ :: r, bs, h => by cases h
  | .list _ :: r, bs, h => by cases h
  | .tuple _ :: r, bs, h => by cases h
  | .dict _ :: r, bs, h => by cases h
theorem RepAll.bools {K : PySem.W.Frag} {H : Hp} : ∀ {vs : List V} {bs : List Bool}, RepAll K H vs (bs.map .bool) → vs = bs.map V.bl
  | _, [], .nil => rfl
  | _, b :: bs, .cons a r => by rw [Rep.bool_iff a, RepAll.bools r]; rfl
theorem RepAll.ints {K : PySem.W.Frag} {H : Hp} : ∀ {vs : List V} {bs : List Int}, RepAll K H vs (bs.map .int) → vs = bs.map V.int
  | _, [], .nil => rfl
  | _, b :: bs, .cons a r => by rw [Rep.int_iff a, RepAll.ints r]; rfl
theorem RepAll.strs {K : PySem.W.Frag} {H : Hp} : ∀ {vs : List V} {bs : List Str}, RepAll K H vs (bs.map .str) → vs = bs.map V.str ∧ ∀ b ∈ bs, PyData.strOk b = true
  | _, [], .nil => ⟨rfl, fun _ h => by cases h⟩
  | _, b :: bs, .cons a r => by
    obtain ⟨e1, e2⟩ := Rep.str_iff a
    obtain ⟨e3, e4⟩ := RepAll.strs r
    subst e1 e3
    refine ⟨rfl, fun c hc => ?_⟩
    rcases List.mem_cons.mp hc with rfl | hc
    · exact e2
    · exact e4 c hc
theorem vals_bools : ∀ {us : List Value} {bs : List Bool}, Vals (bs.map V.bl) us → us = bs.map Value.bool
  | _, [], .nil => rfl
  | _, b :: bs, .cons r t => by
    cases r
    rw [vals_bools t]; rfl
theorem all_range (bs : List Bool) : ((List.range bs.length).all fun i => (bs[i]?).getD false) = bs.all id := by
  rw [Bool.eq_iff_iff]
  simp only [List.all_eq_true, List.mem_range, id]
  constructor
  · intro h b hb
    obtain ⟨i, hi⟩ := List.mem_iff_getElem?.mp hb
    have := h i (List.getElem?_eq_some_iff.mp hi).1
    rw [hi] at this
    exact this
  · intro h i hi
    rw [List.getElem?_eq_getElem hi]
    exact h _ (List.getElem_mem hi)
theorem bi_allF (hc : X.calm = true) : CallR X (.builtin "all") (rCall X.K (biOp .all)) := by
  intro pins s σ H xs us Q I rv h
  obtain ⟨g, st, rs, hv, hs, e⟩ := h
  match rs, hv, e with
  | [_, _], _, e => exact e.elim
  | _ :: _ :: _ :: _, _, e => exact e.elim
  | [r], hv, e =>
    obtain ⟨v, rfl, h1⟩ := hv.one
    have e : Ent ((seqOf r >>= fun xs => match boolsOf xs with | some bs => pure (.bl (bs.all id)) | none => bad) st) (Fin1 X.K g H true Q) NoE := e
    obtain ⟨a, vs, ps, rfl, hq, hr, e⟩ := h1.seq e
    cases q : boolsOf ps with
    | none => rw [q] at e; exact e.elim
    | some bs =>
      rw [q] at e
      have e := Fin1.same (Ent.pure e) hs (.bl _)
      rw [bools_get q] at hr
      obtain rfl := hr.bools
      have hh := I.ok.hd hc
      cases rv with
      | cons r1 r2 =>
        cases r2
        cases r1
        have fin : ∀ (its : List Value) (h' : Heap) (tk : Nat) (I0 : Addr), Vals (bs.map V.bl) its → (∀ b o, b ∉ [I0] → s.heap.get? b = some o → h'.get? b = some o) → s.heap.get? I0 = none → EP X pins σ Q (.bool ((List.range its.toArray.size).all fun i => (bs[i]?).getD false)) { s with heap := h', toks := tk } := fun its h' tk I0 rr kk hn => by
          have hsz : its.toArray.size = bs.length := by rw [List.size_toArray, ← rr.length, List.length_map]
          rw [hsz, all_range]
          refine ⟨.bl _, H, I.kept (t' := tk) fun b o q => kk b o ?_ q, rfl, e⟩
          intro hb
          have : b = I0 := by simpa using hb
          rw [this, hn] at q; cases q
        have item : ∀ (its : List Value), Vals (bs.map V.bl) its → ∀ (A : Around) (i : Nat) (v : Value) (E' : Value → Shared → Prop) (s2 : Shared) (Q2 : Bool → Shared → Prop), its.toArray[i]? = some v → Q2 ((bs[i]?).getD false) s2 → wpAny (model X.prog X.w) A (truthy v) Q2 E' s2 := fun its rr A i v E' s2 Q2 hv q => by
          rw [vals_bools rr] at hv
          simp only [List.getElem?_toArray, List.getElem?_map] at hv
          cases qb : bs[i]? with
          | none => rw [qb] at hv; cases hv
          | some b =>
            rw [qb] at hv q
            cases hv
            exact wpAny_truthy_bool q
        have hfree : s.heap.get? s.heap.objs.size = none := Heap.get?_none_of_le (Nat.le_refl _)
        rcases hq.imp id And.left with hq | hq
        · obtain ⟨its, rr, pl, hz⟩ := I.list hq
          have hl : a < s.heap.objs.size := let ⟨_, _, e, _⟩ := pl; Heap.lt_size e
          refine call_all_walk (wpAny_pyIter_list pl.isList ?_)
          refine ⟨s.heap.objs.size, [s.heap.objs.size, a], [s.heap.objs.size], its.toArray.size, fun i v => its.toArray[i]? = some v, _, fun i => (bs[i]?).getD false, rfl,
            Walks.list (A := X.A.in1) (by simp [hh]) s.heap.objs.size a (Nat.ne_of_lt hl) its.toArray, ⟨⟨_, Heap.get?_push_size _ rfl, rfl, rfl⟩, pl.isList.push _⟩, fun i v s2 Q2 E' hv q => item its rr X.A.in1 i v E' s2 Q2 hv q, fun h' tk kk => ?_⟩
          exact fin its h' tk s.heap.objs.size rr (fun b o hb q => kk b o hb (Heap.get?_push_of_some _ q)) hfree
        · obtain ⟨its, rr, pl, hz⟩ := I.tuple hq
          have hl : a < s.heap.objs.size := pl.lt
          refine call_all_walk (wpAny_pyIter_tuple pl ?_)
          refine ⟨s.heap.objs.size, [s.heap.objs.size, a], [s.heap.objs.size], its.toArray.size, fun i v => its.toArray[i]? = some v, _, fun i => (bs[i]?).getD false, rfl,
            Walks.tuple (A := X.A.in1) (by simp [hh]) s.heap.objs.size a (Nat.ne_of_lt hl) its.toArray, ⟨⟨_, Heap.get?_push_size _ rfl, rfl, rfl⟩, pl.push _⟩, fun i v s2 Q2 E' hv q => item its rr X.A.in1 i v E' s2 Q2 hv q, fun h' tk kk => ?_⟩
          exact fin its h' tk s.heap.objs.size rr (fun b o hb q => kk b o hb (Heap.get?_push_of_some _ q)) hfree

theorem bi_tuple : CallR X (.type "tuple") (rCall X.K (biOp .tuple)) := by
  intro pins s σ H xs us Q I rv h
  obtain ⟨g, st, rs, hv, hs, e⟩ := h
  match rs, hv, e with
  | [_, _], _, e => exact e.elim
  | _ :: _ :: _ :: _, _, e => exact e.elim
  | [r], hv, e =>
    obtain ⟨v, rfl, h1⟩ := hv.one
    have e : Ent ((seqOf r >>= fun xs => pure (.d (.tuple xs))) st) (Fin1 X.K g H true Q) NoE := e
    obtain ⟨a, vs, ps, rfl, hq, hr, e⟩ := h1.seq e
    refine call_tuple_of pins s σ H _ us Q I rv ⟨a, vs, rfl, ?_⟩
    rcases hq with hq | ⟨hq, hp⟩
    · exact .inl ⟨hq, fun l hl => Fin1.newT e hs hl hr⟩
    · exact .inr ⟨hq, Fin1.same e hs hp⟩
theorem bi_list : CallR X (.type "list") (rCall X.K (biOp .list)) := by
  intro pins s σ H xs us Q I rv h
  obtain ⟨g, st, rs, hv, hs, e⟩ := h
  match rs, hv, e with
  | [_, _], _, e => exact e.elim
  | _ :: _ :: _ :: _, _, e => exact e.elim
  | [r], hv, e =>
    obtain ⟨v, rfl, h1⟩ := hv.one
    have e : Ent ((seqOf r >>= fun xs => pure (.own xs)) st) (Fin1 X.K g H true Q) NoE := e
    obtain ⟨a, vs, ps, rfl, hq, hr, e⟩ := h1.seq e
    exact call_list_of pins s σ H _ us Q I rv ⟨a, vs, rfl, hq.imp id And.left, fun l hl => Fin1.newL e hs hl hr⟩
theorem bi_int : CallR X (.type "int") (rCall X.K (biOp .int)) := by
  intro pins s σ H xs us Q I rv h
  obtain ⟨g, st, rs, hv, hs, e⟩ := h
  match rs, hv, e with
  | [_, _], _, e => exact e.elim
  | _ :: _ :: _ :: _, _, e => exact e.elim
  | [.d (.int i)], hv, e =>
    obtain ⟨v, rfl, h1⟩ := hv.one
    cases Rep.int_iff h1
    exact call_int1 pins s σ H _ us Q I rv (.inl ⟨i, rfl, Fin1.same (Ent.pure e) hs (.int _)⟩)
  | [.d (.bool b)], hv, e =>
    obtain ⟨v, rfl, h1⟩ := hv.one
    cases Rep.bool_iff h1
    exact call_int1 pins s σ H _ us Q I rv (.inr ⟨b, rfl, Fin1.same (Ent.pure e) hs (.int _)⟩)
  | [.d (.str z)], hv, e =>
    obtain ⟨v, rfl, h1⟩ := hv.one
    cases (Rep.str_iff h1).1
    have e : Ent ((match PySem.intText? z with | some n => if decide (z.length ≤ 640) then pure (Rv.int n) else bad | none => bad : M Rv) st) (Fin1 X.K g H true Q) NoE := e
    cases q : PySem.intText? z with
    | none => rw [q] at e; exact e.elim
    | some n =>
      rw [q] at e
      obtain ⟨hz, e⟩ := Ent.ite e
      exact call_int_str pins s σ H _ us Q I rv ⟨z, n, rfl, q, of_decide_eq_true hz, Fin1.same (Ent.pure e) hs (.int _)⟩
theorem strOk_num (i : Int) : PyData.strOk (Str.ofString (toString i)) = true := by
  rw [Str.ofString_eq_toList]
  unfold PyData.strOk
  simp only [List.all_toArray, List.all_eq_true, List.mem_map]
  rintro c ⟨d, _, rfl⟩
  have h := d.valid
  simp only [UInt32.isValidChar, Nat.isValidChar] at h
  have e : d.toNat = d.val.toNat := rfl
  simp only [decide_eq_true_eq]
  omega
theorem bi_str : CallR X (.type "str") (rCall X.K (biOp .str)) := by
  intro pins s σ H xs us Q I rv h
  obtain ⟨g, st, rs, hv, hs, e⟩ := h
  match rs, hv, e with
  | [_, _], _, e => exact e.elim
  | _ :: _ :: _ :: _, _, e => exact e.elim
  | [.d (.int i)], hv, e =>
    obtain ⟨v, rfl, h1⟩ := hv.one
    cases Rep.int_iff h1
    obtain ⟨hz, e⟩ := Ent.ite e
    exact call_str_int pins s σ H _ us Q I rv ⟨i, rfl, of_decide_eq_true hz, Fin1.same (Ent.pure e) hs (.str _ (strOk_num i))⟩
  | [.d (.str z)], hv, e =>
    obtain ⟨v, rfl, h1⟩ := hv.one
    obtain ⟨rfl, ho⟩ := Rep.str_iff h1
    exact SkE.call_str_str pins s σ H _ us Q I rv ⟨z, rfl, Fin1.same (Ent.pure e) hs (.str _ ho)⟩
theorem bi_abs : CallR X (.builtin "abs") (rCall X.K (biOp .abs)) := by
  intro pins s σ H xs us Q I rv h
  obtain ⟨g, st, rs, hv, hs, e⟩ := h
  match rs, hv, e with
  | [_, _], _, e => exact e.elim
  | _ :: _ :: _ :: _, _, e => exact e.elim
  | [.d (.int i)], hv, e =>
    obtain ⟨v, rfl, h1⟩ := hv.one
    cases Rep.int_iff h1
    exact call_abs pins s σ H _ us Q I rv ⟨i, rfl, Fin1.same (Ent.pure e) hs (.int _)⟩
theorem bi_max2 (hc : X.calm = true) : CallR X (.builtin "max") (rCall X.K (biOp .max2)) := by
  intro pins s σ H xs us Q I rv h
  obtain ⟨g, st, rs, hv, hs, e⟩ := h
  match rs, hv, e with
  | [_], _, e => exact e.elim
  | _ :: _ :: _ :: _, _, e => exact e.elim
  | [r, r'], hv, e =>
    obtain ⟨v, w, rfl, h1, h2⟩ := hv.two
    have e : Ent (bi2 .max2 r r' st) (Fin1 X.K g H true Q) NoE := e
    match r, r', h1, h2, e with
    | .d (.int i), .d (.int j), h1, h2, e =>
    cases Rep.int_iff h1
    cases Rep.int_iff h2
    exact call_max2 hc pins s σ H _ us Q I rv ⟨i, j, rfl, Fin1.same (Ent.pure e) hs (.int _)⟩
theorem bi_min2 (hc : X.calm = true) : CallR X (.builtin "min") (rCall X.K (biOp .min2)) := by
  intro pins s σ H xs us Q I rv h
  obtain ⟨g, st, rs, hv, hs, e⟩ := h
  match rs, hv, e with
  | [_], _, e => exact e.elim
  | _ :: _ :: _ :: _, _, e => exact e.elim
  | [r, r'], hv, e =>
    obtain ⟨v, w, rfl, h1, h2⟩ := hv.two
    have e : Ent (bi2 .min2 r r' st) (Fin1 X.K g H true Q) NoE := e
    match r, r', h1, h2, e with
    | .d (.int i), .d (.int j), h1, h2, e =>
    cases Rep.int_iff h1
    cases Rep.int_iff h2
    exact call_min2 hc pins s σ H _ us Q I rv ⟨i, j, rfl, Fin1.same (Ent.pure e) hs (.int _)⟩
theorem VR.asList {K : PySem.W.Frag} {g : Gh} {H : Hp} {v : V} {r : Rv} {st : Sto} {α : Type} {f : List PyData → M α} {Q : α → Sto → Prop} {E : Nat → Sto → Prop} (h : VR K g H v r) (e : Ent ((listOf r >>= f) st) Q E) :
    ∃ a vs ps, v = .ref a ∧ SqL K H a vs ∧ RepAll K H vs ps ∧ Ent (f ps st) Q E := by
  match r, h, e with
  | .d (.list xs), h, e =>
    obtain ⟨a, vs, rfl, h1, h2⟩ := Rep.lst_iff h
    exact ⟨a, vs, xs, rfl, h1.sql, h2, e⟩
  | .own xs, h, e =>
    obtain ⟨a, vs, rfl, h1, _, h2⟩ := h
    exact ⟨a, vs, xs, rfl, SqL.of h1, h2, e⟩
theorem bi_sum (hc : X.calm = true) : CallR X (.builtin "sum") (rCall X.K (biOp .sum)) := by
  intro pins s σ H xs us Q I rv h
  obtain ⟨g, st, rs, hv, hs, e⟩ := h
  match rs, hv, e with
  | [_, _], _, e => exact e.elim
  | _ :: _ :: _ :: _, _, e => exact e.elim
  | [r], hv, e =>
    obtain ⟨v, rfl, h1⟩ := hv.one
    have e : Ent ((listOf r >>= fun xs => match intsOf xs with | some is => pure (.int is.sum) | none => bad) st) (Fin1 X.K g H true Q) NoE := e
    obtain ⟨a, vs, ps, rfl, hq, hr, e⟩ := h1.asList e
    cases q : intsOf ps with
    | none => rw [q] at e; exact e.elim
    | some is =>
      rw [q] at e
      rw [ints_get q] at hr
      obtain rfl := hr.ints
      exact cr_sum hc pins s σ H _ us Q I rv ⟨a, is, rfl, hq, Fin1.same (Ent.pure e) hs (.int _)⟩
theorem maxI_le : ∀ (is : List Int) (i : Int), i ≤ maxI i is ∧ (∀ j ∈ is, j ≤ maxI i is) ∧ (maxI i is = i ∨ maxI i is ∈ is)
  | [], i => ⟨Int.le_refl _, (fun _ h => nomatch h), .inl rfl⟩
  | x :: xs, i => by
    obtain ⟨h1, h2, h3⟩ := maxI_le xs (if i < x then x else i)
    show i ≤ maxI (if i < x then x else i) xs ∧ (∀ j ∈ x :: xs, j ≤ maxI (if i < x then x else i) xs) ∧ (maxI (if i < x then x else i) xs = i ∨ maxI (if i < x then x else i) xs ∈ x :: xs)
    by_cases hx : i < x
    · rw [if_pos hx] at h1 h2 h3 ⊢
      refine ⟨by omega, fun j hj => ?_, .inr ?_⟩
      · rcases List.mem_cons.mp hj with rfl | hj
        · exact h1
        · exact h2 j hj
      · rcases h3 with h3 | h3
        · rw [h3]; exact List.mem_cons_self
        · exact List.mem_cons_of_mem _ h3
    · rw [if_neg hx] at h1 h2 h3 ⊢
      refine ⟨h1, fun j hj => ?_, ?_⟩
      · rcases List.mem_cons.mp hj with rfl | hj
        · omega
        · exact h2 j hj
      · rcases h3 with h3 | h3
        · exact .inl h3
        · exact .inr (List.mem_cons_of_mem _ h3)
theorem minI_le : ∀ (is : List Int) (i : Int), minI i is ≤ i ∧ (∀ j ∈ is, minI i is ≤ j) ∧ (minI i is = i ∨ minI i is ∈ is)
  | [], i => ⟨Int.le_refl _, (fun _ h => nomatch h), .inl rfl⟩
  | x :: xs, i => by
    obtain ⟨h1, h2, h3⟩ := minI_le xs (if x < i then x else i)
    show minI (if x < i then x else i) xs ≤ i ∧ (∀ j ∈ x :: xs, minI (if x < i then x else i) xs ≤ j) ∧ (minI (if x < i then x else i) xs = i ∨ minI (if x < i then x else i) xs ∈ x :: xs)
    by_cases hx : x < i
    · rw [if_pos hx] at h1 h2 h3 ⊢
      refine ⟨by omega, fun j hj => ?_, .inr ?_⟩
      · rcases List.mem_cons.mp hj with rfl | hj
        · exact h1
        · exact h2 j hj
      · rcases h3 with h3 | h3
        · rw [h3]; exact List.mem_cons_self
        · exact List.mem_cons_of_mem _ h3
    · rw [if_neg hx] at h1 h2 h3 ⊢
      refine ⟨h1, fun j hj => ?_, ?_⟩
      · rcases List.mem_cons.mp hj with rfl | hj
        · omega
        · exact h2 j hj
      · rcases h3 with h3 | h3
        · exact .inl h3
        · exact .inr (List.mem_cons_of_mem _ h3)
theorem bi_max1 (hc : X.calm = true) : CallR X (.builtin "max") (rCall X.K (biOp .max1)) := by
  intro pins s σ H xs us Q I rv h
  obtain ⟨g, st, rs, hv, hs, e⟩ := h
  match rs, hv, e with
  | [_, _], _, e => exact e.elim
  | _ :: _ :: _ :: _, _, e => exact e.elim
  | [r], hv, e =>
    obtain ⟨v, rfl, h1⟩ := hv.one
    have e : Ent ((listOf r >>= fun xs => match intsOf xs with | some (i :: is) => pure (.int (maxI i is)) | _ => bad) st) (Fin1 X.K g H true Q) NoE := e
    obtain ⟨a, vs, ps, rfl, hq, hr, e⟩ := h1.asList e
    cases q : intsOf ps with
    | none => rw [q] at e; exact e.elim
    | some is =>
      rw [q] at e
      cases is with
      | nil => exact e.elim
      | cons i is =>
        rw [ints_get q] at hr
        obtain rfl := hr.ints
        have e := Fin1.same (Ent.pure e) hs (.int _)
        refine cr_max hc pins s σ H _ us Q I rv ⟨a, i :: is, rfl, hq, by simp, fun m h1 h2 => ?_⟩
        obtain ⟨k1, k2, k3⟩ := maxI_le is i
        have hm : m = maxI i is := by
          refine Int.le_antisymm ?_ (h2 _ ?_)
          · rcases List.mem_cons.mp h1 with rfl | h1
            · exact k1
            · exact k2 _ h1
          · rcases k3 with k3 | k3
            · rw [k3]; exact List.mem_cons_self
            · exact List.mem_cons_of_mem _ k3
        rw [hm]; exact e
theorem bi_min1 (hc : X.calm = true) : CallR X (.builtin "min") (rCall X.K (biOp .min1)) := by
  intro pins s σ H xs us Q I rv h
  obtain ⟨g, st, rs, hv, hs, e⟩ := h
  match rs, hv, e with
  | [_, _], _, e => exact e.elim
  | _ :: _ :: _ :: _, _, e => exact e.elim
  | [r], hv, e =>
    obtain ⟨v, rfl, h1⟩ := hv.one
    have e : Ent ((listOf r >>= fun xs => match intsOf xs with | some (i :: is) => pure (.int (minI i is)) | _ => bad) st) (Fin1 X.K g H true Q) NoE := e
    obtain ⟨a, vs, ps, rfl, hq, hr, e⟩ := h1.asList e
    cases q : intsOf ps with
    | none => rw [q] at e; exact e.elim
    | some is =>
      rw [q] at e
      cases is with
      | nil => exact e.elim
      | cons i is =>
        rw [ints_get q] at hr
        obtain rfl := hr.ints
        have e := Fin1.same (Ent.pure e) hs (.int _)
        refine cr_min hc pins s σ H _ us Q I rv ⟨a, i :: is, rfl, hq, by simp, fun m h1 h2 => ?_⟩
        obtain ⟨k1, k2, k3⟩ := minI_le is i
        have hm : m = minI i is := by
          refine Int.le_antisymm (h2 _ ?_) ?_
          · rcases k3 with k3 | k3
            · rw [k3]; exact List.mem_cons_self
            · exact List.mem_cons_of_mem _ k3
          · rcases List.mem_cons.mp h1 with rfl | h1
            · exact k1
            · exact k2 _ h1
        rw [hm]; exact e
theorem sortI_of {ns ns' : List Int} (p : ns'.Perm ns) (h : ns'.Pairwise (· ≤ ·)) : ns' = sortI ns := by
  refine List.Perm.eq_of_pairwise (le := fun a b : Int => a ≤ b) (fun a b _ _ x y => Int.le_antisymm x y) h ?_ (p.trans (List.mergeSort_perm ns _).symm)
  have := List.pairwise_mergeSort (le := fun a b : Int => decide (a ≤ b)) (fun a b c x y => by simp at *; omega) (fun a b => by simp; omega) ns
  exact this.imp fun z => of_decide_eq_true z
theorem ints_rep {K : PySem.W.Frag} {H : Hp} : ∀ is : List Int, RepAll K H (is.map V.int) (is.map PyData.int)
  | [] => .nil
  | i :: is => .cons (.int i) (ints_rep is)
theorem strs_rep {K : PySem.W.Frag} {H : Hp} : ∀ ss : List Str, (∀ s ∈ ss, PyData.strOk s = true) → RepAll K H (ss.map V.str) (ss.map PyData.str)
  | [], _ => .nil
  | s :: ss, h => .cons (.str s (h s List.mem_cons_self)) (strs_rep ss fun t ht => h t (List.mem_cons_of_mem _ ht))
theorem rising_pair : ∀ (r : List Str) (x : Str), risingS x r = true → (x :: r).Pairwise fun a b => ¬ b.cps.toList < a.cps.toList
  | [], x, _ => by simp
  | y :: r, x, h => by
    rw [risingS, Bool.and_eq_true, Bool.not_eq_true'] at h
    have ih := rising_pair r y h.2
    have h1 : ¬ y.cps.toList < x.cps.toList := by
      have := h.1
      rw [← PyProof.Rows.lt_meets] at this
      exact of_decide_eq_false this
    refine List.pairwise_cons.mpr ⟨fun z hz => ?_, ih⟩
    rcases List.mem_cons.mp hz with rfl | hz
    · exact h1
    · have h2 := (List.pairwise_cons.mp ih).1 z hz
      exact fun q => h2 (Std.lt_of_lt_of_le q (List.not_lt.mp h1))
theorem sortS_of {ns ns' : List Str} (p : ns'.Perm ns) (h : sortedS ns' = true) : ns' = sortS ns := by
  have h1 : ns'.Pairwise fun a b => ¬ b.cps.toList < a.cps.toList := by
    cases ns' with
    | nil => exact .nil
    | cons x r => exact rising_pair r x h
  refine List.Perm.eq_of_pairwise (le := fun a b : Str => ¬ b.cps.toList < a.cps.toList) (fun a b _ _ x y => ?_) h1 ?_ (p.trans (List.mergeSort_perm ns _).symm)
  · have := List.le_antisymm (List.not_lt.mp x) (List.not_lt.mp y)
    cases a; cases b
    simp at this
    simp [this]
  · have := List.pairwise_mergeSort (le := fun a b : Str => !decide (b.cps.toList < a.cps.toList)) (fun a b c x y => by
      simp only [Bool.not_eq_true', decide_eq_false_iff_not] at *
      exact fun q => y (Std.lt_of_lt_of_le q (List.not_lt.mp x))) (fun a b => by
      by_cases q : b.cps.toList < a.cps.toList
      · have : ¬ a.cps.toList < b.cps.toList := List.lt_asymm q
        simp [this]
      · simp [q]) ns
    exact this.imp fun z => by simpa using z
theorem bi_sorted : CallR X (.builtin "sorted") (rCall X.K (biOp .sorted)) := by
  intro pins s σ H xs us Q I rv h
  obtain ⟨g, st, rs, hv, hs, e⟩ := h
  match rs, hv, e with
  | [_, _], _, e => exact e.elim
  | _ :: _ :: _ :: _, _, e => exact e.elim
  | [r], hv, e =>
    obtain ⟨v, rfl, h1⟩ := hv.one
    have e : Ent ((listOf r >>= fun xs => match intsOf xs with
      | some is => pure (.own ((sortI is).map .int))
      | none => match strsOf xs with
        | some ss => if decide (ss.length < 64) then pure (.own ((sortS ss).map .str)) else bad
        | none => bad) st) (Fin1 X.K g H true Q) NoE := e
    obtain ⟨a, vs, ps, rfl, hq, hr, e⟩ := h1.asList e
    cases q : intsOf ps with
    | some is =>
      rw [q] at e
      have e := Ent.pure e
      rw [ints_get q] at hr
      obtain rfl := hr.ints
      refine cr_sortedI pins s σ H _ us Q I rv ⟨a, is, rfl, hq, fun ns' p h1 h2 hp => ?_⟩
      rw [sortI_of h1 h2]
      exact Fin1.newL e hs hp (ints_rep _)
    | none =>
      rw [q] at e
      cases q2 : strsOf ps with
      | none => rw [q2] at e; exact e.elim
      | some ss =>
        rw [q2] at e
        obtain ⟨z, e⟩ := Ent.ite e
        have e := Ent.pure e
        rw [strs_get q2] at hr
        obtain ⟨rfl, ho⟩ := hr.strs
        refine cr_sortedS pins s σ H _ us Q I rv ⟨a, ss, rfl, hq, of_decide_eq_true z, fun ys p h1 h2 hp => ?_⟩
        have hy : ys = sortS ss := sortS_of h1 h2
        rw [hy]
        exact Fin1.newL e hs hp (strs_rep _ fun t ht => ho t (by
          have := (List.mergeSort_perm ss _).mem_iff.mp ht
          exact this))
/-- isinstance of a caught exception -/
theorem isi_exc {t : Ty} {C : V} {Cv : Value} (hC : ∀ u, RelV C u → u = Cv) (hk : ∀ (D : Addr) (c : Nat), ExKit X.K D c → ∃ b, PySem.W.kitOne X.K (.ref D) Cv = some b ∧ ∀ (st : Sto) (R : Bool → Sto → Prop), Ent (isiOp (.exc c) t st) R NoE → R b st)
    (hd : ∀ (p : PyData) (st : Sto) (R : Bool → Sto → Prop), ¬ Ent (isiOp (.d p) t st) R NoE) (ho : ∀ (p : List PyData) (st : Sto) (R : Bool → Sto → Prop), ¬ Ent (isiOp (.own p) t st) R NoE) (hj : ∀ (p : Nat) (st : Sto) (R : Bool → Sto → Prop), ¬ Ent (isiOp (.obj p) t st) R NoE) :
    CallR X (.builtin "isinstance") (fun xs H Q => ∃ g st rx x, xs = [x, C] ∧ VR X.K g H x rx ∧ SRep g H st ∧ Ent (isiOp rx t st) (fun b _ => Q (.bl b) H) NoE) := by
  intro pins s σ H xs us Q I r h
  obtain ⟨g, st, rx, x, rfl, h1, hs, e⟩ := h
  cases rx with
  | d p => exact absurd e (hd _ _ _)
  | own p => exact absurd e (ho _ _ _)
  | obj p => exact absurd e (hj _ _ _)
  | exc c =>
    obtain ⟨a, D, rfl, h2, h3, h4⟩ := h1
    obtain ⟨b, e1, e2⟩ := hk D c h4
    have q := e2 _ _ e
    cases r with
    | cons rx rr =>
      cases rr with
      | cons rt rr =>
        cases rr
        cases rx
        have ec := hC _ rt
        subst ec
        obtain ⟨⟨oe, vs, ho, hz, hv⟩, _, _⟩ := I.hok a _ h2
        have J : PySem.W.InstAt s.heap a oe D none := by
          obtain ⟨oc, od, oda, osl⟩ := oe
          obtain ⟨h1, h2⟩ := hz
          dsimp only at h1 h2 hv
          subst h1 h2 hv
          exact ⟨ho, rfl, rfl, trivial⟩
        have C := h4.ex
        exact PySem.W.kia_one (PySem.W.handS_kitx_exc C.hg C.hk C.hs C.hd C.ha C.hn C.ht C.hm) I.kIn J e1 (fun z => nomatch z) fun tk => ⟨.bl b, H, I.kept (t' := tk) fun _ _ z => z, rfl, q⟩
end
end Wk

end

section
set_option Elab.async false
set_option linter.all false
set_option maxRecDepth 100000
/-! Weakening, freezing; what an expression's reading is. -/
namespace Wk
open PySem PySem.Spec PyProof.Rows L2
section
variable {X : Cx}
theorem PE.mono {e : Expr} {t t' : TE} (h : PE X e t) (i : ∀ σ H Q, t' σ H Q → t σ H Q) : PE X e t' := ⟨fun pins s σ H Q I hq => h.run pins s σ H Q I (i σ H Q hq)⟩
theorem PT.mono {e : Expr} {t t' : TT} (h : PT X e t) (i : ∀ σ H Q, t' σ H Q → t σ H Q) : PT X e t' := ⟨fun pins s σ H Q I hq => h.run pins s σ H Q I (i σ H Q hq)⟩
theorem PA.mono {es : List Expr} {t t' : TA} (h : PA X es t) (i : ∀ σ H Q, t' σ H Q → t σ H Q) : PA X es t' := ⟨fun pos pins s σ H Q I hq => h.run pos pins s σ H Q I (i σ H Q hq)⟩
theorem PS.mono {st : Stmt} {t t' : TS} (h : PS X st t) (i : ∀ D σ H, t' D σ H → t D σ H) : PS X st t' := ⟨fun pins s σ H D I hq => h.run pins s σ H D I (i D σ H hq)⟩
theorem PSs.mono {st : List Stmt} {t t' : TS} (h : PSs X st t) (i : ∀ D σ H, t' D σ H → t D σ H) : PSs X st t' := ⟨fun pins s σ H D I hq => h.run pins s σ H D I (i D σ H hq)⟩

/-- a list that is known is locked: a new look at the same state -/
theorem Inv.freeze {pins : List (Addr × Obj)} {σ : L2.St} {H : Hp} {s : Shared} {a : Addr} {xs : List V} {o : Obj} (I : L2.Inv X pins σ H s) (h : H a = some (.lst xs)) (ho : s.heap.get? a = some o) :
    L2.Inv X pins σ (upd H a (.frz o (.lst xs))) s := by
  have ne : ∀ {b : Addr} {u : Option HO}, H b = u → u ≠ some (.lst xs) → b ≠ a := fun {b u} e n z => by subst z; rw [h] at e; exact n e.symm
  refine ⟨I.ok, I.os, I.bare, ⟨I.base.keep, I.base.slot, fun b ob e n hx => ?_, I.base.there, fun b ys e => ?_, fun b ob u e => ?_, fun b ps e => ?_⟩, I.loc, I.cell, ?_, fun x c e => ?_, fun p hp => ?_, fun b u e => ?_, I.len⟩
  · have q := I.base.free b ob e n hx
    rw [upd_ne (ne q (by simp))]; exact q
  · have q := I.base.tups b ys e
    rw [upd_ne (ne q (by simp))]; exact q
  · have q := I.base.frzs b ob u e
    rw [upd_ne (ne q (by simp))]; exact q
  · obtain ⟨m, q⟩ := I.base.tbls b ps e
    exact ⟨m, by rw [upd_ne (ne q (by simp))]; exact q⟩
  · have q := I.free
    rw [upd_ne (ne q (by simp))]; exact q
  · have q := I.freeC x c e
    rw [upd_ne (ne q (by simp))]; exact q
  · obtain ⟨q1, q2, q3⟩ := I.pin p hp
    exact ⟨q1, by rw [upd_ne (ne q2 (by simp))]; exact q2, q3⟩
  · by_cases hb : b = a
    · subst hb
      rw [upd_same] at e
      cases e
      exact ⟨ho, I.hok b _ h⟩
    · rw [upd_ne hb] at e
      refine (I.hok b u e).stay (fun c v _ q => q) (fun c q => ?_) fun c ys q => ?_
      · rw [upd_ne (ne q (by simp))]; exact q
      · rw [upd_ne (ne q (by simp))]; exact q
theorem Inv.lst_there {pins : List (Addr × Obj)} {σ : L2.St} {H : Hp} {s : Shared} {a : Addr} {xs : List V} (I : L2.Inv X pins σ H s) (h : H a = some (.lst xs)) : ∃ o, s.heap.get? a = some o := by
  obtain ⟨_, its, n, _, e⟩ := I.hok a _ h
  exact ⟨_, e⟩
/-- .. at an expression's end -/
def FzV (Q : VK) : VK := fun v H => Q v H ∨ ∃ a xs, v = .ref a ∧ H a = some (.lst xs) ∧ ∀ o, Q v (upd H a (.frz o (.lst xs)))
theorem PE.fz {e : Expr} {t : TE} (h : PE X e t) : PE X e (fun σ H Q => t σ H (FzV Q)) := by
  refine ⟨fun pins s σ H Q I hq => ?_⟩
  refine thn (h.run pins s σ H _ I hq) fun u s1 ⟨v, H1, I1, r, q⟩ => ?_
  rcases q with q | ⟨a, xs, rfl, ha, q⟩
  · exact ⟨v, H1, I1, r, q⟩
  · obtain ⟨o, ho⟩ := Inv.lst_there I1 ha
    exact ⟨_, _, Inv.freeze I1 ha ho, r, q o⟩
/-- .. ahead of a statement -/
theorem PSs.pre {sts : List Stmt} {t t' : TS} (h : PSs X sts t) (i : ∀ D σ H pins s, L2.Inv X pins σ H s → t' D σ H → ∃ H', L2.Inv X pins σ H' s ∧ t D σ H') : PSs X sts t' :=
  ⟨fun pins s σ H D I hq => let ⟨H', I', q⟩ := i D σ H pins s I hq; h.run pins s σ H' D I' q⟩
end

section
variable (K : PySem.W.Frag) (cv : Nat → Value) (F : Nat → List Rv → M Rv) (W : WX)
/-- what is wanted of an exception of an expression -/
def ExcK (g : Gh) (H : Hp) (σV : L2.St) : Nat → Sto → Prop := fun c st' => ∀ g' H', Frm g H g' H' → SRep g' H' st' → W (cv c) none σV H'
def fresh : Tm → Bool
  | .bor _ => false
  | _ => true
def tE (tm : Tm) : TE := fun σV H Q => ∃ g st σ, EnvR K g H σV σ ∧ SRep g H st ∧ Ent (evE F σ tm st) (Fin1 K g H (fresh tm) Q) (ExcK cv W g H σV)
/-- as a test -/
def tT (tm : Tm) : TT := fun σV H Q => ∃ g st σ, EnvR K g H σV σ ∧ SRep g H st ∧ Ent ((evE F σ tm >>= toB) st) (fun b st' => ∀ g' H', Frm g H g' H' → SRep g' H' st' → Q b H') (ExcK cv W g H σV)
/-- arguments: handed on -/
def FinA (g : Gh) (H : Hp) (Q : List V → Hp → Prop) : List Rv → Sto → Prop := fun rs st' => ∀ vs g' H', Frm g H g' H' → SRep g' H' st' → VRs K g' H' vs rs → (∀ r ∈ rs, ∀ xs, r ≠ .own xs) → Q vs H'
def FinB (g : Gh) (H : Hp) (Q : List V → Hp → Prop) : List Rv → Sto → Prop := fun rs st' => ∀ vs g' H', Frm g H g' H' → SRep g' H' st' → VRs K g' H' vs rs → Q vs H'
def tA (as : Tms) : TA := fun σV H Q => ∃ g st σ, EnvR K g H σV σ ∧ SRep g H st ∧ Ent (evA F σ as st) (FinA K g H Q) (ExcK cv W g H σV)
/-- .. looked at -/
def tB' (as : Tms) : TA := fun σV H Q => ∃ g st σ, EnvR K g H σV σ ∧ SRep g H st ∧ Ent (evB F σ as st) (FinB K g H Q) (ExcK cv W g H σV)
end
section
variable {K : PySem.W.Frag} {cv : Nat → Value} {F : Nat → List Rv → M Rv} {W : WX} {g g' : Gh} {H H' : Hp} {σV : L2.St}
theorem ExcK.mono (f : Frm g H g' H') {c : Nat} {st : Sto} (h : ExcK cv W g H σV c st) : ExcK cv W g' H' σV c st := fun g2 H2 f2 s2 => h g2 H2 (f.trans f2) s2
theorem Fin1.mono (f : Frm g H g' H') {b : Bool} {Q : VK} {r : Rv} {st : Sto} (h : Fin1 K g H b Q r st) : Fin1 K g' H' b Q r st := fun v g2 H2 f2 s2 hv hf => h v g2 H2 (f.trans f2) s2 hv fun hb xs a e1 e2 => f.live a (hf hb xs a e1 e2)
end
end Wk

end

section
set_option Elab.async false
set_option linter.all false
set_option maxRecDepth 100000
/-! A look that a piece of the text is what a term of ours says. -/
namespace Wk
open PySem PySem.Spec PyProof.Rows L2

/-- what the look has to know of a law's text -/
structure Wd where
  nm : Nat → Str
  fns : List Nat
  cn : List (Nat × Str × Lit)
  cl : List (Str × Nat)
  /-- classes that are asked of, names in except clauses -/
  ck : List (Str × Nat)
  tr : List Str
  /-- within an except suite; frames to spare -/
  hot : Bool
  slk : Nat
  /-- defs that are handed a lambda; what they hand a refusal to -/
  td : List (Str × Nat)

def nameOk (x : Str) : Bool := !(x == ("__debug__" : Str)) && !(x == ("__classdict__" : Str))
def visB (sc : Scope) (x : Str) : Bool := match sc.names.lookup x with
  | some .local => true
  | some .cell => true
  | some .free => true
  | _ => false
def glB (sc : Scope) (x : Str) : Bool := match sc.names.lookup x with
  | some .globalImplicit => true
  | _ => false
def locB (sc : Scope) (x : Str) : Bool := match sc.names.lookup x with
  | some .local => true
  | some .cell => true
  | _ => false
def litB : Lit → Const → Bool
  | .non, .none => true
  | .bl b, .bool c => b == c
  | .int i, .int j => i == j
  | .str s, .str t => s == t && PyData.strOk s
  | _, _ => false
def litOk : Lit → Bool
  | .str s => PyData.strOk s
  | _ => true
def biName : Bi → Str
  | .len => "len" | .all => "all" | .sum => "sum" | .tuple => "tuple" | .list => "list" | .int => "int" | .str => "str" | .abs => "abs"
  | .max1 => "max" | .max2 => "max" | .max3 => "max" | .min1 => "min" | .min2 => "min" | .sorted => "sorted" | .setlen => "len" | .sortedset => "sorted" | .range1 => "list" | .range2 => "list"
def tyStr : Ty → Str
  | .int => "int" | .bool => "bool" | .str => "str" | .tuple => "tuple" | .list => "list" | .value => "ValueError" | .cls _ => ""
def meName : Me → Str
  | .join => "join" | .index => "index" | .count => "count" | .split => "split" | .partition => "partition"
/-- the built-in names that are asked -/
def biNames : List Str := ["len", "all", "sum", "tuple", "list", "int", "str", "abs", "max", "min", "sorted", "set", "range", "zip", "enumerate", "isinstance", "bool", "ValueError"]
/-- the built-ins whose calls have a rule -/
def bi0 : Bi → Bool
  | .len | .all | .tuple | .list | .int | .str | .abs | .max2 | .min2 | .sum | .max1 | .min1 | .sorted => true
  | _ => false
def notSl : Expr → Bool
  | .Slice .. => false
  | .Tuple .. => false
  | _ => true
def notStar : Expr → Bool
  | .Starred .. => false
  | _ => true
/-- no super() -/
def plainO : Expr → Bool
  | .Call .. => false
  | _ => true
def notSet : Expr → Bool
  | .Set .. => false
  | _ => true
def tgB (c : Str → Bool) (N : List Str) (sc : Scope) : Tg → Expr → Bool
  | .one i, .Name x _ => decide (N[i]? = some x) && (decide (sc.names.lookup x = some .local) || (c x && decide (sc.names.lookup x = some .cell)))
  | _, _ => false
def tgsB (c : Str → Bool) (N : List Str) (sc : Scope) : List Nat → List Expr → Bool
  | [], [] => true
  | i :: is, e :: es => tgB c N sc (.one i) e && tgsB c N sc is es
  | _, _ => false
def tgAll (c : Str → Bool) (N : List Str) (sc : Scope) : Tg → Expr → Bool
  | .one i, e => tgB c N sc (.one i) e
  | .many is, .Tuple es _ _ => tgsB c N sc is es && decide (is.length = es.length) && es.all notStar && decide (2 ≤ is.length)
  | _, _ => false
def ownOk (N : List Str) : List Nat → List (Str × Nat)
  | [] => []
  | i :: is => (N.getD i "", i) :: ownOk N is
def tgIn (own : List Nat) : Tg → Bool
  | .one i => own.contains i
  | .many is => is.all own.contains
def isIt (x : Str) (e : Expr) : Bool := match e with
  | .Name y _ => x == y
  | _ => false

def isTup : Expr → Bool
  | .Tuple .. => true
  | _ => false
/-- the methods whose calls have a rule -/
def me0 : Me → Bool
  | .join => true
  | .split => true
  | .index => true
  | .count => true
  | _ => false
def compB (N : List Str) (sc scope : Scope) (own : List Nat) (g : Tg) (tg it : Expr) : Bool := blkC N sc scope (ownOk N own) && tgAll (fun x => scope.names.lookup x == some .cell) N (relS scope sc) g tg && tgIn own g && notSet it
/-- a lambda without parameters -/
def noArgs (a : Arguments) : Bool := a.posonlyargs.isEmpty && a.args.isEmpty && a.kwonlyargs.isEmpty && a.vararg.isNone && a.kwarg.isNone && a.defaults.isEmpty && a.kw_defaults.isEmpty
/-- terms that never give a list of one's own -/
def isFr : Tm → Bool
  | .var _ => true
  | .fr _ => true
  | .idx _ _ => true
  | .no => true
  | .lit _ => true
  | .tup _ => true
  | _ => false
def isFrK (k : Ik) (a b : Tm) : Bool := match k with
  | .seq => isFr a
  | .enum => isFr a
  | .zip => isFr a && isFr b
  | .range1 => true
  | .range2 => true
def plainV : Expr → Bool
  | .List .. => true
  | .Call .. => true
  | .Subscript .. => true
  | .Name .. => true
  | .ListComp .. => true
  | .BinOp .. => true
  | _ => false
def isNo : Tm → Bool
  | .no => true
  | _ => false
/-- what is walked, in the text; the looks at its parts -/
def srcB (sc : Scope) (k : Ik) (b : Tm) (oka okb : Expr → Bool) (tg it : Expr) : Bool := match k with
  | .seq => isNo b && oka it
  | .zip => (match it with | .Call (.Name x _) [e1, e2] [] _ => x == ("zip" : Str) && glB sc x && oka e1 && okb e2 && notStar e1 && notStar e2 | _ => false) && isTup tg
  | .enum => isNo b && (match it with | .Call (.Name x _) [e1] [] _ => x == ("enumerate" : Str) && glB sc x && oka e1 && notStar e1 | _ => false) && isTup tg
  | .range1 => isNo b && (match it with | .Call (.Name x _) [e1] [] _ => x == ("range" : Str) && glB sc x && oka e1 && notStar e1 | _ => false)
  | .range2 => match it with | .Call (.Name x _) [e1, e2] [] _ => x == ("range" : Str) && glB sc x && oka e1 && okb e2 && notStar e1 && notStar e2 | _ => false
/-- the class that isinstance is asked with -/
def tyB (W : Wd) (t : Ty) (y : Str) : Bool := match t with
  | .cls k => W.ck.contains (y, k) && nameOk y
  | .value => y == ("ValueError" : Str)
  | t => y == tyStr t && (tyName t).isSome
def isRange2 : Bi → Bool
  | .range2 => true
  | _ => false
section
mutual
def okE (W : Wd) (N : List Str) (sc : Scope) (t : Tm) (e : Expr) : Bool := match t with
  | .var i => match e with | .Name x _ => decide (N[i]? = some x) && visB sc x && nameOk x | _ => false
  | .bor i => match e with | .Name x _ => decide (N[i]? = some x) && visB sc x && nameOk x | _ => false
  | .glob j l => match e with | .Name y _ => glB sc y && nameOk y && W.cn.contains (j, y, l) && litOk l | _ => false
  | .lit l => match e with | .Constant c _ _ => litB l c | _ => false
  | .bin o a b => match e with | .BinOp l op r _ => decide (opOf o = op) && okE W N sc a l && okE W N sc b r | _ => false
  | .neg a => match e with | .UnaryOp .USub x _ => okE W N sc a x | _ => false
  | .not a => match e with | .UnaryOp .Not x _ => okE W N sc a x | _ => false
  | .and a b => match e with
    | .BoolOp .And [x, y] _ => okE W N sc a x && fresh a && fresh b && okE W N sc b y
    | .BoolOp .And (x :: y :: z :: xs) pos => okE W N sc a x && fresh a && fresh b && okE W N sc b (.BoolOp .And (y :: z :: xs) pos)
    | _ => false
  | .or a b => match e with
    | .BoolOp .Or [x, y] _ => okE W N sc a x && fresh a && fresh b && okE W N sc b y
    | .BoolOp .Or (x :: y :: z :: xs) pos => okE W N sc a x && fresh a && fresh b && okE W N sc b (.BoolOp .Or (y :: z :: xs) pos)
    | _ => false
  | .cmp o a b => match e with | .Compare l [op] [r] _ => decide (cmOf o = op) && okE W N sc a l && okE W N sc b r && !behindInMarks op r | _ => false
  | .chain o o' a b c => match e with | .Compare l [op, op'] [m, r] _ => decide (cmOf o = op) && decide (cmOf o' = op') && okE W N sc a l && okE W N sc b m && okE W N sc c r && !lastMarks [op, op'] [m, r] | _ => false
  | .ite c a b => match e with | .IfExp t x y _ => okE W N sc c t && okE W N sc a x && okE W N sc b y && fresh a && fresh b | _ => false
  | .call f as => match e with | .Call (.Name x _) (e :: es) [] _ => x == W.nm f && W.fns.contains f && glB sc x && nameOk x && okA W N sc as (e :: es) && !W.hot | _ => false
  | .bi b as => match e with
    | .Call (.Name x _) [.Call (.Name y p1) [e1, e2] [] p2] [] _ => (isRange2 b && x == ("list" : Str) && y == ("range" : Str) && glB sc x && glB sc y && okB W N sc as [e1, e2] && !W.hot) || (x == biName b && bi0 b && glB sc x && okB W N sc as [.Call (.Name y p1) [e1, e2] [] p2] && !W.hot)
    | .Call (.Name x _) (e :: es) [] _ => x == biName b && bi0 b && glB sc x && okB W N sc as (e :: es) && !W.hot
    | _ => false
  | .setlen a => match e with | .Call (.Name x _) [.Call (.Name y _) [e2] [] _] [] _ => x == ("len" : Str) && glB sc x && y == ("set" : Str) && glB sc y && okE W N sc a e2 && notStar e2 && !W.hot | _ => false
  | .isi a t => match e with | .Call (.Name x _) [e, .Name y _] [] _ => x == ("isinstance" : Str) && glB sc x && tyB W t y && glB sc y && okE W N sc a e && notStar e | _ => false
  | .idx a i => match e with | .Subscript x s _ => okE W N sc a x && okE W N sc i s && notSl s | _ => false
  | .slice a lo hi => match e with
    | .Subscript x (.Slice none none none _) _ => okE W N sc a x && isNo lo && isNo hi
    | .Subscript x (.Slice (some l) none none _) _ => okE W N sc a x && okE W N sc lo l && !isNo lo && isNo hi
    | .Subscript x (.Slice none (some h) none _) _ => okE W N sc a x && isNo lo && okE W N sc hi h && !isNo hi
    | .Subscript x (.Slice (some l) (some h) none _) _ => okE W N sc a x && okE W N sc lo l && !isNo lo && okE W N sc hi h && !isNo hi
    | _ => false
  | .rev a => match e with | .Subscript x (.Slice none none (some (.UnaryOp .USub (.Constant (.int 1) _ _) _)) _) _ => okE W N sc a x | _ => false
  | .tup as => match e with | .Tuple es _ _ => okA W N sc as es | _ => false
  | .lst as => match e with | .List es _ => okA W N sc as es | _ => false
  | .comp elt g k a b own cond => match e with
    | .ListComp e [⟨tg, it, [], 0⟩] scope _ => !W.hot && compB N sc scope own g tg it && fresh elt && (match cond with | .lit (.bl true) => true | _ => false) && okE W N (relS scope sc) elt e && srcB sc k b (fun z => okE W N sc a z) (fun z => okE W N sc b z) tg it
    | .ListComp e [⟨tg, it, [c], 0⟩] scope _ => !W.hot && compB N sc scope own g tg it && fresh elt && okE W N (relS scope sc) cond c && okE W N (relS scope sc) elt e && srcB sc k b (fun z => okE W N sc a z) (fun z => okE W N sc b z) tg it
    | _ => false
  | .meth m o as => match e with | .Call (.Attribute ob name apos) [e1] [] cpos => name == meName m && (apos.endLine == cpos.line) && plainO ob && okE W N sc o ob && okB W N sc as [e1] && me0 m && notStar e1 | _ => false
  | .fr a => okE W N sc a e && fresh a
  | .no => false
  | .told f cs a => match e with
    | .Call (.Name x _) [.Lambda params body scope _] [] _ => W.td.contains (x, f) && glB sc x && nameOk x && decide (W.slk = 1) && !W.hot && noArgs params && LamX.lamSB sc scope && okE { W with slk := 0 } N scope a body && fresh a && cs.all (fun c => W.cl.any fun p => p.2 == c)
    | _ => false
  | .opq => true
/-- arguments that are handed on -/
def okA (W : Wd) (N : List Str) (sc : Scope) (t : Tms) (es : List Expr) : Bool := match t with
  | .nil => es.isEmpty
  | .cons a r => match es with | e :: es => okE W N sc a e && fresh a && notStar e && okA W N sc r es | _ => false
/-- .. looked at -/
def okB (W : Wd) (N : List Str) (sc : Scope) (t : Tms) (es : List Expr) : Bool := match t with
  | .nil => es.isEmpty
  | .cons a r => match es with | e :: es => okE W N sc a e && notStar e && okB W N sc r es | _ => false
end
end
end Wk

end

section
set_option Elab.async false
set_option linter.all false
set_option maxRecDepth 100000
set_option maxHeartbeats 1000000
/-! Expressions: what the look passes has the evaluator's reading. -/
namespace Wk
open PySem PySem.Spec PyProof.Rows L2

/-- a def's promise, from the evaluator -/
def spF (K : PySem.W.Frag) (cv : Nat → Value) (T : Nat → Option Fn) (n f : Nat) : Sp := fun vs H Q E => ∃ g st rs, g.tb = tabsK K ∧ VRs K g H vs rs ∧ (∀ r ∈ rs, ∀ xs, r ≠ .own xs) ∧ SRep g H st ∧ Ent (callF T n f rs st) (Fin1 K g H true Q) (fun c st' => ∀ g' H', Frm g H g' H' → SRep g' H' st' → E (cv c) none H')
def litV : Lit → V
  | .non => .non
  | .bl b => .bl b
  | .int i => .int i
  | .str s => .str s
/-- what is known of the context of the law's body: its code object, its table, room for two frames more -/
structure LamX1 (n : Nat) (X : Cx) : Prop where
  tab : ∃ c P, lawTab X.K = some (c, P) ∧ X.env.code = .ref c ∧ LamX.TabB X.base X.mg c P
  qual : X.env.qual ++ "<lambda>" = lamQ
  room : Room (n + 2) X.A
/-- told(lambda: a): the def's promise -/
def ToldR (P : Program) (w : World) (K : PySem.W.Frag) (mg : Str → Option Value) (base : Heap) (cv : Nat → Value) (T : Nat → Option Fn) (n : Nat) (cl : List (Str × Nat)) (x : Str) (fc : Nat) : Prop :=
  ∀ (X : Cx) (W' : WX) (params : Arguments) (body : Expr) (scope : Scope) (a : Tm) (cs : List Nat) (lpos p pos : Pos), X.prog = P → X.w = w → X.K = K → X.mg = mg → X.base = base → LamX1 n X → Gl X x → noArgs params = true → LamX.LamS X.env.scope scope → fresh a = true → (∀ c ∈ cs, ∃ p ∈ cl, p.2 = c) →
    (∀ (A : Around) (outer : List Env) (s : Shared) (H : Hp) (E : XK) (f c' : Addr), Room n (A.deeper (LamX.lamEnv X scope s.heap.objs.size f c')) → PE (LamX.lamCx X A outer s H E scope f c') body (tE X.K cv (callF T n) (fun cls d _ H => E cls d H) a)) →
    PE X (.Call (.Name x p) [.Lambda params body scope lpos] [] pos) (tE X.K cv (callF T n) W' (.told fc cs a))
structure Cxt (W : Wd) (cv : Nat → Value) (T : Nat → Option Fn) (n : Nat) (N : List Str) (sc : Scope) (X : Cx) : Prop where
  hN : X.N = N
  nd : N.Nodup
  hsc : X.env.scope = sc
  calm : W.hot = false → X.calm = true
  roomH : L2H.RoomH (n + W.slk) X.A
  hd : W.hot = false → X.A.handled = none
  fns : ∀ f ∈ W.fns, ∃ (a : Addr) (fd : FuncData) (ps : List Str), FnOk X.prog X.w X.K X.mg X.base (L2.CX X.prog X.w) n a fd ps (spF X.K cv T n f) ∧ X.mg (W.nm f) = some (.ref a) ∧ PySem.W.keepIn X.K (.ref a) = true ∧ Binds X.K fd ps []
  cns : ∀ p ∈ W.cn, ∃ u, X.mg p.2.1 = some u ∧ RelV (litV p.2.2) u
  bis : ∀ x ∈ biNames, X.mg x = none
  kits : W.tr ≠ [] → ∀ p ∈ W.cl, ∃ D, cv p.2 = .ref D ∧ ExKit X.K D p.2
  cks : ∀ q ∈ W.ck, q ∈ excTab ∧ ∃ C, X.mg q.1 = some (.ref C) ∧ PySem.W.nsIn X.K mainGlobals q.1 = some (some (.ref C))
  tries : ∀ x ∈ W.tr, ∃ C, X.mg x = some (.ref C) ∧ ∀ p ∈ W.cl, PySem.W.exmOne X.K (cv p.2) (.ref C) = some true
  tolds : W.slk = 1 → ∀ q ∈ W.td, ToldR X.prog X.w X.K X.mg X.base cv T n W.cl q.1 q.2
  lam : W.slk = 1 → LamX1 n X
  cls : ∀ p ∈ W.cl, ∃ (C : Addr) (bmB : List Value) (B newId initId : String), PySem.ExcBaseFacts B newId initId bmB ∧ PySem.W.excIn X.K C bmB newId = true ∧ X.mg p.1 = some (.ref C) ∧ PySem.W.keepIn X.K (.ref C) = true ∧ PySem.W.subIn X.K (.ref C) (.type "BaseException") = some true ∧ PySem.W.typeIn X.K (.ref C) = some (.type "type") ∧ cv p.2 = .ref C

section
variable {W : Wd} {cv : Nat → Value} {T : Nat → Option Fn} {n : Nat} {N : List Str} {sc : Scope} {X : Cx} {e : Expr} {W' : WX}
/-- within the lambda -/
theorem Cxt.lamC (C : Cxt W cv T n N sc X) (hh : W.hot = false) {scope : Scope} (A : Around) (outer : List Env) (s : Shared) (H : Hp) (E : XK) (f c' : Addr) (hr : Room n (A.deeper (LamX.lamEnv X scope s.heap.objs.size f c'))) : Cxt { W with slk := 0 } cv T n N scope (LamX.lamCx X A outer s H E scope f c') where
  hN := C.hN
  nd := C.nd
  hsc := rfl
  calm := fun _ => rfl
  roomH := ⟨hr.dp, hr.un⟩
  hd := fun _ => hr.hd
  fns := C.fns
  cns := C.cns
  bis := C.bis
  kits := C.kits
  cks := C.cks
  tries := C.tries
  tolds := fun z => nomatch z
  lam := fun z => nomatch z
  cls := C.cls
theorem lam_takes {A : Around} {outer : List Env} {s : Shared} {H : Hp} {E : XK} {scope : Scope} {f c' : Addr} : Takes (LamX.lamCx X A outer s H E scope f c') (fun cls d _ H => E cls d H) := takes_of rfl rfl rfl rfl
theorem Cxt.room (C : Cxt W cv T n N sc X) (h : W.hot = false) : Room n X.A := ⟨C.hd h, by have := C.roomH.dp; omega, by have := C.roomH.un; omega⟩
theorem Cxt.units (C : Cxt W cv T n N sc X) : X.A.units + 64 < cLine := by have := C.roomH.un; omega
theorem vis_of (C : Cxt W cv T n N sc X) {x : Str} (h : visB sc x = true) : Vis X.env.scope x := by
  rw [C.hsc]
  unfold visB at h
  split at h
  · exact .inl (by assumption)
  · exact .inr (.inl (by assumption))
  · exact .inr (.inr (by assumption))
  · cases h
theorem gl_of (C : Cxt W cv T n N sc X) {x : Str} (h : glB sc x = true) : Gl X x := by
  show X.env.scope.names.lookup x = _
  rw [C.hsc]
  unfold glB at h
  split at h
  · assumption
  · cases h
theorem star_of {e : Expr} {es : List Expr} {env : Env} (h : notStar e = true) : starEach (e :: es) env = (false, eval e env) :: starEach es env := by
  cases e <;> first | rfl | cases h
theorem stars_of {env : Env} {pos : Pos} : ∀ {es : List Expr}, es.all notStar = true → (backTo pos (starEach es env)).any (·.1) = false
  | [], _ => rfl
  | e :: es, h => by
    simp only [List.all_cons, Bool.and_eq_true] at h
    rw [star_of h.1]
    have ih := stars_of (env := env) (pos := pos) h.2
    unfold backTo at *
    simpa using ih
theorem plain_of {b : Expr} (h : notSl b = true) : PlainIx b := by
  cases b <;> first | exact fun _ _ => rfl | cases h
theorem base_of {o : Expr} {m : Str} {env : Env} (h : plainO o = true) : attributeBase o m env (eval o env) = eval o env := by
  cases o <;> first | rfl | cases h
theorem names_of {x : Str} (h : nameOk x = true) : (x == ("__debug__" : Str)) = false ∧ (x == ("__classdict__" : Str)) = false := by
  unfold nameOk at h
  simpa [Bool.and_eq_true] using h
theorem lit_rep {K : PySem.W.Frag} {H : Hp} {l : Lit} (h : ∀ s, l = .str s → PyData.strOk s = true) : Rep K H (litV l) l.val := by
  cases l with
  | non => exact .non
  | bl b => exact .bl b
  | int i => exact .int i
  | str s => exact .str s (h s rfl)
/-- a value that is told, ahead of what is wanted -/
theorem fin_same {K : PySem.W.Frag} {g : Gh} {H : Hp} {Q : VK} {b : Bool} {v : V} {r : Rv} {st : Sto} (hs : SRep g H st) (hv : VR K g H v r) (h : Fin1 K g H b Q r st) (hf : b = true → ∀ xs, r ≠ .own xs) : Q v H :=
  h v g H .refl hs hv fun hb xs a e _ => absurd e (hf hb xs)


theorem snd_var (C : Cxt W cv T n N sc X) {i : Nat} (h : okE W N sc (.var i) e = true) : PE X e (tE X.K cv (callF T n) W' (.var i)) := by
  cases e with
  | Name x pos =>
    have h : (decide (N[i]? = some x) && visB sc x && nameOk x) = true := h
    simp only [Bool.and_eq_true, decide_eq_true_eq] at h
    obtain ⟨⟨h1, h2⟩, h3⟩ := h
    refine PE.mono (pe_var (by rw [C.hN]; exact h1) (vis_of C h2) (names_of h3).1 (names_of h3).2) fun σV H Q hq => ?_
    obtain ⟨g, st, σ, hE, hS, hev⟩ := hq
    have hev : Ent (getV σ i st) (Fin1 X.K g H true Q) _ := hev
    unfold getV at hev
    cases q : σ[i]? with
    | none => rw [q] at hev; exact hev.elim
    | some o =>
      cases o with
      | none => rw [q] at hev; exact hev.elim
      | some r =>
        obtain ⟨v, e1, e2⟩ := hE.get i r q
        rw [q] at hev
        cases r with
        | own xs => exact hev.elim
        | _ => exact ⟨v, e1, fin_same hS e2 hev fun _ _ z => nomatch z⟩
  | _ => cases h
theorem snd_bor (C : Cxt W cv T n N sc X) {i : Nat} (h : okE W N sc (.bor i) e = true) : PE X e (tE X.K cv (callF T n) W' (.bor i)) := by
  cases e with
  | Name x pos =>
    have h : (decide (N[i]? = some x) && visB sc x && nameOk x) = true := h
    simp only [Bool.and_eq_true, decide_eq_true_eq] at h
    obtain ⟨⟨h1, h2⟩, h3⟩ := h
    refine PE.mono (pe_var (by rw [C.hN]; exact h1) (vis_of C h2) (names_of h3).1 (names_of h3).2) fun σV H Q hq => ?_
    obtain ⟨g, st, σ, hE, hS, hev⟩ := hq
    have hev : Ent (getR σ i st) (Fin1 X.K g H false Q) _ := hev
    unfold getR at hev
    cases q : σ[i]? with
    | none => rw [q] at hev; exact hev.elim
    | some o =>
      cases o with
      | none => rw [q] at hev; exact hev.elim
      | some r =>
        obtain ⟨v, e1, e2⟩ := hE.get i r q
        rw [q] at hev
        exact ⟨v, e1, fin_same hS e2 hev fun z => nomatch z⟩
  | _ => cases h
theorem snd_glob (C : Cxt W cv T n N sc X) {j : Nat} {l : Lit} (h : okE W N sc (.glob j l) e = true) : PE X e (tE X.K cv (callF T n) W' (.glob j l)) := by
  cases e with
  | Name y pos =>
    have h : (glB sc y && nameOk y && W.cn.contains (j, y, l) && litOk l) = true := h
    simp only [Bool.and_eq_true, List.contains_iff_mem] at h
    obtain ⟨⟨⟨h2, h3⟩, h4⟩, h5⟩ := h
    obtain ⟨u, m1, m2⟩ := C.cns _ h4
    refine PE.mono (pe_glob (gl_of C h2) m1 m2 (names_of h3).1) fun σV H Q hq => ?_
    obtain ⟨g, st, σ, hE, hS, hev⟩ := hq
    exact Fin1.same (Ent.pure hev) hS (lit_rep fun s z => by subst z; exact h5)
  | _ => cases h
theorem snd_lit {l : Lit} (h : okE W N sc (.lit l) e = true) : PE X e (tE X.K cv (callF T n) W' (.lit l)) := by
  cases e with
  | Constant c k pos =>
    have h : litB l c = true := h
    have fin : ∀ {v : V}, (∀ K H, Rep K H v l.val) → ∀ σV H Q, tE X.K cv (callF T n) W' (.lit l) σV H Q → tC v σV H Q := fun hv σV H Q hq => by
      obtain ⟨g, st, σ, hE, hS, hev⟩ := hq
      exact Fin1.same (Ent.pure hev) hS (hv _ _)
    cases l with
    | non =>
      cases c with
      | none => exact PE.mono pe_non (fin fun _ _ => .non)
      | _ => cases h
    | bl b =>
      cases c with
      | bool b' => obtain rfl := (beq_iff_eq.mp h); exact PE.mono pe_bl (fin fun _ _ => .bl _)
      | _ => cases h
    | int i =>
      cases c with
      | int b' => obtain rfl := (beq_iff_eq.mp h); exact PE.mono pe_int (fin fun _ _ => .int _)
      | _ => cases h
    | str s =>
      cases c with
      | str b' =>
        have k : (s == b' && PyData.strOk s) = true := h
        simp only [Bool.and_eq_true, beq_iff_eq] at k
        obtain ⟨rfl, k2⟩ := k
        exact PE.mono pe_str (fin fun _ _ => .str _ k2)
      | _ => cases h
  | _ => cases h
/-- two expressions in a row, then an operation by values -/
theorem two_in_row {K : PySem.W.Frag} {F : Nat → List Rv → M Rv} {a b : Tm} {f : Rv → Rv → M Rv} {σV : L2.St} {H : Hp} {Q : VK} {g : Gh} {st : Sto} {σ : En} {bb : Bool} (hE : EnvR K g H σV σ) (hS : SRep g H st)
    (hev : Ent ((evE F σ a >>= fun x => evE F σ b >>= fun y => f x y) st) (Fin1 K g H bb Q) (ExcK cv W' g H σV)) {R : V → V → Hp → Prop}
    (hR : ∀ v1 v2 g2 H2 st2 r1 r2, Frm g H g2 H2 → SRep g2 H2 st2 → VR K g2 H2 v1 r1 → VR K g2 H2 v2 r2 → Ent (f r1 r2 st2) (Fin1 K g2 H2 bb Q) (ExcK cv W' g2 H2 σV) → R v1 v2 H2) :
    tE K cv F W' a σV H fun x H1 => tE K cv F W' b σV H1 fun y H2 => R x y H2 := by
  refine ⟨g, st, σ, hE, hS, (Ent.bind hev).mono (fun r1 st1 h1 v1 g1 H1 f1 s1 hv1 _ => ?_) fun c st1 h1 => h1⟩
  refine ⟨g1, st1, σ, hE.mono f1, s1, (Ent.bind h1).mono (fun r2 st2 h2 v2 g2 H2 f2 s2 hv2 _ => ?_) fun c st2 h2 => ExcK.mono f1 h2⟩
  exact hR v1 v2 g2 H2 st2 r1 r2 (f1.trans f2) s2 (hv1.mono f2) hv2 (h2.mono (fun _ _ q => Fin1.mono (f1.trans f2) q) fun _ _ q => ExcK.mono (f1.trans f2) q)
/-- what never raises -/
def NoX {α : Type} (m : M α) : Prop := ∀ {st : Sto} {Q : α → Sto → Prop} {E : Nat → Sto → Prop}, Ent (m st) Q E → Ent (m st) Q NoE
theorem NoX.pure {α : Type} {a : α} : NoX (pure a : M α) := fun h => h
theorem NoX.bad {α : Type} : NoX (Wk.bad : M α) := fun h => h
theorem NoX.ite {α : Type} {c : Prop} [Decidable c] {m m' : M α} (h1 : NoX m) (h2 : NoX m') : NoX (if c then m else m') := by
  by_cases hc : c
  · rw [if_pos hc]; exact h1
  · rw [if_neg hc]; exact h2
theorem NoX.bind {α β : Type} {m : M α} {f : α → M β} (h1 : NoX m) (h2 : ∀ a, NoX (f a)) : NoX (m >>= f) := fun {st Q E} h => by
  have h := h1 (Ent.bind h)
  have e : (m >>= f) st = M.bind m f st := rfl
  unfold M.bind at e
  rw [e]
  cases q : m st with
  | ok a s' => rw [q] at h; exact h2 a h
  | exc c s' => rw [q] at h; exact h.elim
  | bad => rw [q] at h; exact h.elim
theorem NoX.toP {r : Rv} : NoX (toP r) := by
  unfold Wk.toP; split <;> first | exact NoX.pure | exact NoX.bad
theorem NoX.seqOf {r : Rv} : NoX (seqOf r) := by
  unfold Wk.seqOf; split <;> first | exact NoX.pure | exact NoX.bad
theorem NoX.items {r : Rv} : NoX (items r) := by
  unfold Wk.items; split <;> first | exact NoX.pure | exact NoX.bad | exact NoX.ite NoX.pure NoX.bad
theorem NoX.lstOf {r : Rv} : NoX (lstOf r) := by
  unfold Wk.lstOf; split <;> first | exact NoX.pure | exact NoX.bad
theorem NoX.listOf {r : Rv} : NoX (listOf r) := by
  unfold Wk.listOf; split <;> first | exact NoX.pure | exact NoX.bad
theorem NoX.ownOf {r : Rv} : NoX (ownOf r) := by
  unfold Wk.ownOf; split <;> first | exact NoX.pure | exact NoX.bad
theorem NoX.toB {r : Rv} : NoX (toB r) := by
  unfold Wk.toB; split <;> first | exact NoX.pure | exact NoX.bad
theorem NoX.allP : ∀ {rs : List Rv}, NoX (allP rs)
  | [] => NoX.pure
  | r :: rs => NoX.bind NoX.toP fun p => NoX.bind (NoX.allP (rs := rs)) fun ps => NoX.pure
theorem NoX.mkL {xs : List PyData} : NoX (mkL xs) := NoX.ite NoX.pure NoX.bad
theorem NoX.mkT {xs : List PyData} : NoX (mkT xs) := NoX.ite NoX.pure NoX.bad
theorem NoX.eqP {p q : PyData} : NoX (eqP p q) := NoX.ite NoX.pure NoX.bad
theorem NoX.inP {p : PyData} {q : List PyData} : NoX (inP p q) := NoX.ite NoX.pure NoX.bad
theorem NoX.inR {p : PyData} {r : Rv} : NoX (inR p r) := by
  unfold Wk.inR; split <;> first | exact NoX.pure | exact NoX.inP | exact NoX.bad
theorem NoX.binOp {o : Op2} {r1 r2 : Rv} : NoX (binOp o r1 r2) := by
  unfold Wk.binOp; split <;> first | exact NoX.pure | exact NoX.ite NoX.pure NoX.bad | exact NoX.ite NoX.bad NoX.pure | exact NoX.mkT | exact NoX.mkL | exact NoX.bad
theorem NoX.cmpOp {o : Cm} {r1 r2 : Rv} : NoX (cmpOp o r1 r2) := by
  unfold Wk.cmpOp; split <;> first
    | exact NoX.pure
    | exact NoX.bad
    | exact NoX.bind NoX.toP fun _ => NoX.bind NoX.toP fun _ => NoX.eqP
    | exact NoX.bind NoX.toP fun _ => NoX.bind NoX.toP fun _ => NoX.bind NoX.eqP fun _ => NoX.pure
    | exact NoX.bind NoX.toP fun _ => NoX.inR
    | exact NoX.bind NoX.toP fun _ => NoX.bind NoX.inR fun _ => NoX.pure
theorem NoX.isiOp {r : Rv} {t : Ty} : NoX (isiOp r t) := by
  unfold Wk.isiOp; split <;> first | exact NoX.pure | exact NoX.bad
theorem NoX.idxOp {r1 r2 : Rv} : NoX (idxOp r1 r2) := by
  unfold Wk.idxOp; split <;> (try split) <;> first | exact NoX.pure | exact NoX.bad | exact NoX.ite NoX.pure NoX.bad
theorem NoX.bndOf {a : Tm} {r : Rv} : NoX (bndOf a r) := by
  unfold Wk.bndOf; split <;> first | exact NoX.pure | exact NoX.bad
theorem NoX.cutOp {r : Rv} {lo hi : Option Int} : NoX (cutOp r lo hi) := by
  unfold Wk.cutOp; split <;> first | exact NoX.pure | exact NoX.bad | exact NoX.ite NoX.pure NoX.bad
theorem NoX.revOp {r : Rv} : NoX (revOp r) := by
  unfold Wk.revOp; split <;> first | exact NoX.pure | exact NoX.bad | exact NoX.ite NoX.pure NoX.bad
theorem NoX.walk {k : Ik} {r1 r2 : Rv} : NoX (walk k r1 r2) := by
  unfold Wk.walk; split <;> first | exact NoX.items | exact NoX.bind NoX.lstOf fun _ => NoX.bind NoX.lstOf fun _ => NoX.ite NoX.pure NoX.bad | exact NoX.bind NoX.lstOf fun _ => NoX.pure | exact NoX.ite NoX.pure NoX.bad | exact NoX.bad
theorem NoX.biOp {b : Bi} {rs : List Rv} : NoX (biOp b rs) := by
  unfold Wk.biOp; split
  · unfold bi1; split <;> first
      | exact NoX.pure | exact NoX.bad | exact NoX.ite NoX.pure NoX.bad | exact NoX.bind NoX.seqOf fun _ => NoX.pure
      | (refine NoX.bind NoX.seqOf fun _ => ?_; split <;> first | exact NoX.pure | exact NoX.bad | (split <;> first | exact NoX.pure | exact NoX.bad | exact NoX.ite NoX.pure NoX.bad))
      | (refine NoX.bind NoX.listOf fun _ => ?_; split <;> first | exact NoX.pure | exact NoX.bad | (split <;> first | exact NoX.pure | exact NoX.bad | exact NoX.ite NoX.pure NoX.bad))
      | (split <;> first | exact NoX.pure | exact NoX.bad | exact NoX.ite NoX.pure NoX.bad)
  · unfold bi2; split <;> first | exact NoX.pure | exact NoX.bad | exact NoX.ite NoX.pure NoX.bad
  · exact NoX.bad
theorem NoX.meOp {m : Me} {r : Rv} {rs : List Rv} : NoX (meOp m r rs) := by
  unfold Wk.meOp; split <;> first
    | exact NoX.pure | exact NoX.bad | exact NoX.ite NoX.pure NoX.bad | exact NoX.ite NoX.bad (NoX.ite NoX.pure NoX.bad)
    | (refine NoX.bind NoX.seqOf fun _ => ?_; split <;> first | exact NoX.ite NoX.pure NoX.bad | exact NoX.bad)
    | exact NoX.bind NoX.listOf fun _ => NoX.bind NoX.toP fun _ => NoX.ite NoX.pure NoX.bad
    | (refine NoX.bind NoX.listOf fun _ => NoX.bind NoX.toP fun _ => ?_; split <;> first | exact NoX.ite NoX.pure NoX.bad | exact NoX.bad)
theorem snd_bin {l r : Expr} {o : Op2} {a b : Tm} {pos : Pos} (ha : PE X l (tE X.K cv (callF T n) W' a)) (hb : PE X r (tE X.K cv (callF T n) W' b)) : PE X (.BinOp l (opOf o) r pos) (tE X.K cv (callF T n) W' (.bin o a b)) := by
  refine PE.mono (pe_op (bin_all o) ha hb) fun σV H Q hq => ?_
  obtain ⟨g, st, σ, hE, hS, hev⟩ := hq
  exact two_in_row hE hS hev fun v1 v2 g2 H2 st2 r1 r2 _ s2 x1 x2 h => ⟨g2, st2, r1, r2, x1, x2, s2, NoX.binOp h⟩

/-- one expression, then an operation on its value -/
theorem one_then {K : PySem.W.Frag} {F : Nat → List Rv → M Rv} {a : Tm} {f : Rv → M Rv} {σV : L2.St} {H : Hp} {Q : VK} {g : Gh} {st : Sto} {σ : En} {bb : Bool} (hE : EnvR K g H σV σ) (hS : SRep g H st)
    (hev : Ent ((evE F σ a >>= fun x => f x) st) (Fin1 K g H bb Q) (ExcK cv W' g H σV)) {R : V → Hp → Prop}
    (hR : ∀ v1 g1 H1 st1 r1, Frm g H g1 H1 → SRep g1 H1 st1 → VR K g1 H1 v1 r1 → (fresh a = true → ∀ xs p, r1 = .own xs → v1 = .ref p → H p = none) → Ent (f r1 st1) (Fin1 K g1 H1 bb Q) (ExcK cv W' g1 H1 σV) → R v1 H1) :
    tE K cv F W' a σV H R := by
  refine ⟨g, st, σ, hE, hS, (Ent.bind hev).mono (fun r1 st1 h1 v1 g1 H1 f1 s1 hv1 hf => ?_) fun c st1 h1 => h1⟩
  exact hR v1 g1 H1 st1 r1 f1 s1 hv1 hf (h1.mono (fun _ _ q => Fin1.mono f1 q) fun _ _ q => ExcK.mono f1 q)
theorem toB_get {K : PySem.W.Frag} {g : Gh} {H : Hp} {v : V} {r : Rv} {st : Sto} {α : Type} {f : Bool → M α} {Q : α → Sto → Prop} {E : Nat → Sto → Prop} (hv : VR K g H v r) (h : Ent ((toB r >>= f) st) Q E) : ∃ b, v = .bl b ∧ r = .d (.bool b) ∧ Ent (f b st) Q E := by
  cases r with
  | d p =>
    cases p with
    | bool b => exact ⟨b, Rep.bool_iff hv, rfl, h⟩
    | _ => exact h.elim
  | _ => exact h.elim
theorem snd_neg {x : Expr} {a : Tm} {pos : Pos} (ha : PE X x (tE X.K cv (callF T n) W' a)) : PE X (.UnaryOp .USub x pos) (tE X.K cv (callF T n) W' (.neg a)) := by
  refine PE.mono (pe_un un_neg ha) fun σV H Q hq => ?_
  obtain ⟨g, st, σ, hE, hS, hev⟩ := hq
  refine one_then hE hS hev fun v1 g1 H1 st1 r1 _ s1 x1 _ h => ?_
  cases r1 with
  | d p =>
    cases p with
    | int i => cases Rep.int_iff x1; exact ⟨i, rfl, Fin1.same (Ent.pure h) s1 (.int _)⟩
    | _ => exact h.elim
  | _ => exact h.elim
theorem snd_not {x : Expr} {a : Tm} {pos : Pos} (ha : PE X x (tE X.K cv (callF T n) W' a)) : PE X (.UnaryOp .Not x pos) (tE X.K cv (callF T n) W' (.not a)) := by
  refine PE.mono (pe_not ha) fun σV H Q hq => ?_
  obtain ⟨g, st, σ, hE, hS, hev⟩ := hq
  refine one_then hE hS hev fun v1 g1 H1 st1 r1 _ s1 x1 _ h => ?_
  obtain ⟨b, rfl, rfl, h⟩ := toB_get x1 h
  exact ⟨b, rfl, Fin1.same (Ent.pure h) s1 (.bl _)⟩
theorem Fin1.up {K : PySem.W.Frag} {g : Gh} {H : Hp} {Q : VK} {r : Rv} {st : Sto} (h : Fin1 K g H true Q r st) (b : Bool) : (fun r' st' => Fin1 K g H true Q r' st') r st := h
theorem snd_and {x : Expr} {y : Expr} {ys : List Expr} {a b : Tm} {pos : Pos} (fb : fresh b = true) (ha : PE X x (tE X.K cv (callF T n) W' a)) (hb : PE X (.BoolOp .And (y :: ys) pos) (tE X.K cv (callF T n) W' b)) :
    PE X (.BoolOp .And (x :: y :: ys) pos) (tE X.K cv (callF T n) W' (.and a b)) := by
  refine PE.mono (pe_and ha hb) fun σV H Q hq => ?_
  obtain ⟨g, st, σ, hE, hS, hev⟩ := hq
  refine one_then hE hS hev fun v1 g1 H1 st1 r1 f1 s1 x1 _ h => ?_
  obtain ⟨k, rfl, rfl, h⟩ := toB_get x1 h
  refine ⟨k, rfl, ?_⟩
  cases k with
  | true => exact ⟨g1, st1, σ, hE.mono f1, s1, by rw [fb]; exact h⟩
  | false => exact Fin1.same (Ent.pure h) s1 (.bl _)
theorem snd_or {x : Expr} {y : Expr} {ys : List Expr} {a b : Tm} {pos : Pos} (fb : fresh b = true) (ha : PE X x (tE X.K cv (callF T n) W' a)) (hb : PE X (.BoolOp .Or (y :: ys) pos) (tE X.K cv (callF T n) W' b)) :
    PE X (.BoolOp .Or (x :: y :: ys) pos) (tE X.K cv (callF T n) W' (.or a b)) := by
  refine PE.mono (pe_or ha hb) fun σV H Q hq => ?_
  obtain ⟨g, st, σ, hE, hS, hev⟩ := hq
  refine one_then hE hS hev fun v1 g1 H1 st1 r1 f1 s1 x1 _ h => ?_
  obtain ⟨k, rfl, rfl, h⟩ := toB_get x1 h
  refine ⟨k, rfl, ?_⟩
  cases k with
  | false => exact ⟨g1, st1, σ, hE.mono f1, s1, by rw [fb]; exact h⟩
  | true => exact Fin1.same (Ent.pure h) s1 (.bl _)
theorem bool_end {K : PySem.W.Frag} {g : Gh} {H : Hp} {Q : VK} {bb : Bool} {m : M Bool} {st : Sto} {E : Nat → Sto → Prop} (hS : SRep g H st) (hn : NoX m) (hst : ∀ b st', m st = .ok b st' → st' = st)
    (h : Ent ((m >>= fun k => pure (.bl k)) st) (Fin1 K g H bb Q) E) : Ent (m st) (fun b _ => Q (.bl b) H) NoE := by
  have h2 := hn (Ent.bind h)
  cases q : m st with
  | ok b st' =>
    rw [q] at h2
    have e := hst b st' q
    subst e
    exact Fin1.same (show Fin1 K g H bb Q (.d (.bool b)) st' from h2) hS (.bl _)
  | exc c s' => rw [q] at h2; exact h2.elim
  | bad => rw [q] at h2; exact h2.elim
/-- the store stays -/
def Keeps {α : Type} (m : M α) : Prop := ∀ st a st', m st = .ok a st' → st' = st
theorem Keeps.pure {α : Type} {a : α} : Keeps (pure a : M α) := fun st b st' h => by cases h; rfl
theorem Keeps.bad {α : Type} : Keeps (Wk.bad : M α) := fun st b st' h => by cases h
theorem Keeps.ite {α : Type} {c : Prop} [Decidable c] {m m' : M α} (h1 : Keeps m) (h2 : Keeps m') : Keeps (if c then m else m') := by
  by_cases hc : c
  · rw [if_pos hc]; exact h1
  · rw [if_neg hc]; exact h2
theorem Keeps.bind {α β : Type} {m : M α} {f : α → M β} (h1 : Keeps m) (h2 : ∀ a, Keeps (f a)) : Keeps (m >>= f) := fun st b st' h => by
  have e : (m >>= f) st = M.bind m f st := rfl
  rw [e] at h
  unfold M.bind at h
  cases q : m st with
  | ok a s' =>
    rw [q] at h
    obtain rfl := h1 st a s' q
    exact h2 a _ _ _ h
  | exc c s' => rw [q] at h; cases h
  | bad => rw [q] at h; cases h
theorem Keeps.toP {r : Rv} : Keeps (toP r) := by
  unfold Wk.toP; split <;> first | exact Keeps.pure | exact Keeps.bad
theorem Keeps.eqP {p q : PyData} : Keeps (eqP p q) := Keeps.ite Keeps.pure Keeps.bad
theorem Keeps.inR {p : PyData} {r : Rv} : Keeps (inR p r) := by
  unfold Wk.inR; split <;> first | exact Keeps.pure | exact Keeps.ite Keeps.pure Keeps.bad | exact Keeps.bad
theorem Keeps.cmpOp {o : Cm} {r1 r2 : Rv} : Keeps (cmpOp o r1 r2) := by
  unfold Wk.cmpOp; split <;> first
    | exact Keeps.pure
    | exact Keeps.bad
    | exact Keeps.bind Keeps.toP fun _ => Keeps.bind Keeps.toP fun _ => Keeps.eqP
    | exact Keeps.bind Keeps.toP fun _ => Keeps.bind Keeps.toP fun _ => Keeps.bind Keeps.eqP fun _ => Keeps.pure
    | exact Keeps.bind Keeps.toP fun _ => Keeps.inR
    | exact Keeps.bind Keeps.toP fun _ => Keeps.bind Keeps.inR fun _ => Keeps.pure
theorem Keeps.isiOp {r : Rv} {t : Ty} : Keeps (isiOp r t) := by
  unfold Wk.isiOp; split <;> first | exact Keeps.pure | exact Keeps.bad
theorem snd_cmp (C : Cxt W cv T n N sc X) {l r : Expr} {o : Cm} {a b : Tm} {pos : Pos} (hm : behindInMarks (cmOf o) r = false) (ha : PE X l (tE X.K cv (callF T n) W' a)) (hb : PE X r (tE X.K cv (callF T n) W' b)) :
    PE X (.Compare l [cmOf o] [r] pos) (tE X.K cv (callF T n) W' (.cmp o a b)) := by
  refine PE.mono (pe_cmpR (cmp_all C.units o) ha hb hm) fun σV H Q hq => ?_
  obtain ⟨g, st, σ, hE, hS, hev⟩ := hq
  exact two_in_row (f := fun x y => cmpOp o x y >>= fun k => pure (.bl k)) hE hS hev fun v1 v2 g2 H2 st2 r1 r2 _ s2 x1 x2 h => ⟨g2, st2, r1, r2, x1, x2, s2, bool_end s2 NoX.cmpOp (Keeps.cmpOp _) h⟩

theorem Keeps.ent {α : Type} {m : M α} (hk : Keeps m) (hn : NoX m) {st : Sto} {Q : α → Sto → Prop} {E : Nat → Sto → Prop} (h : Ent (m st) Q E) : ∃ a, m st = .ok a st ∧ Q a st := by
  have h2 := hn h
  cases q : m st with
  | ok a st' =>
    rw [q] at h2
    have e := hk _ _ _ q
    subst e
    exact ⟨a, rfl, h2⟩
  | exc c s' => rw [q] at h2; exact h2.elim
  | bad => rw [q] at h2; exact h2.elim
theorem snd_chain (C : Cxt W cv T n N sc X) {l m r : Expr} {o o' : Cm} {a b c : Tm} {pos : Pos} (hm : lastMarks [cmOf o, cmOf o'] [m, r] = false) (ha : PE X l (tE X.K cv (callF T n) W' a)) (hb : PE X m (tE X.K cv (callF T n) W' b)) (hc : PE X r (tE X.K cv (callF T n) W' c)) :
    PE X (.Compare l [cmOf o, cmOf o'] [m, r] pos) (tE X.K cv (callF T n) W' (.chain o o' a b c)) := by
  refine PE.mono (pe_chain (cmp_all C.units o) (cmp_all C.units o') ha hb hc hm) fun σV H Q hq => ?_
  obtain ⟨g, st, σ, hE, hS, hev⟩ := hq
  refine two_in_row (f := fun x y => cmpOp o x y >>= fun k => if k then (do let z ← evE (callF T n) σ c; let k' ← cmpOp o' y z; pure (.bl k')) else pure (.bl false)) hE hS hev fun v1 v2 g2 H2 st2 r1 r2 f2 s2 x1 x2 h => ?_
  obtain ⟨k, hk, h⟩ := Keeps.ent Keeps.cmpOp NoX.cmpOp (Ent.bind h)
  refine ⟨g2, st2, r1, r2, x1, x2, s2, ?_⟩
  rw [hk]
  refine ⟨k, rfl, ?_⟩
  cases k with
  | false => exact Fin1.same (Ent.pure h) s2 (.bl _)
  | true =>
    rw [if_pos rfl] at h ⊢
    refine one_then (hE.mono f2) s2 h fun v3 g3 H3 st3 r3 f3 s3 x3 _ h => ?_
    exact ⟨g3, st3, r2, r3, x2.mono f3, x3, s3, bool_end s3 NoX.cmpOp (Keeps.cmpOp _) h⟩
theorem pt_not' {x : Expr} {a : Tm} {pos : Pos} (ha : PT X x (tT X.K cv (callF T n) W' a)) : PT X (.UnaryOp .Not x pos) (tT X.K cv (callF T n) W' (.not a)) := by
  refine PT.mono (pt_not ha) fun σV H Q hq => ?_
  obtain ⟨g, st, σ, hE, hS, hev⟩ := hq
  have hev : Ent ((evE (callF T n) σ a >>= fun x => toB x >>= fun b => pure !b) st) (fun b st' => ∀ g' H', Frm g H g' H' → SRep g' H' st' → Q b H') (ExcK cv W' g H σV) := by
    have e : (evE (callF T n) σ (.not a) >>= toB) = (evE (callF T n) σ a >>= fun x => toB x >>= fun b => pure !b) := by
      show ((evE (callF T n) σ a >>= fun x => toB x >>= fun b => pure (.bl !b)) >>= toB) = _
      rw [bind_assoc']
      congr 1; funext x
      rw [bind_assoc']; rfl
    rw [← e]; exact hev
  have hev2 : Ent ((((evE (callF T n) σ a >>= toB)) >>= fun b => pure !b) st) (fun b st' => ∀ g' H', Frm g H g' H' → SRep g' H' st' → Q b H') (ExcK cv W' g H σV) := by rw [bind_assoc']; exact hev
  exact ⟨g, st, σ, hE, hS, (Ent.bind hev2).mono (fun b st1 h1 => h1) fun c st1 h1 => h1⟩
theorem tT_and {K : PySem.W.Frag} {F : Nat → List Rv → M Rv} {a b : Tm} {σV : L2.St} {H : Hp} {Q : Bool → Hp → Prop} (h : tT K cv F W' (.and a b) σV H Q) : tAnd (tT K cv F W' a) (tT K cv F W' b) σV H Q := by
  obtain ⟨g, st, σ, hE, hS, hev⟩ := h
  have e : (evE F σ (.and a b) >>= toB) = ((evE F σ a >>= toB) >>= fun k => if k then (evE F σ b >>= toB) else pure false) := by
    show ((evE F σ a >>= fun x => toB x >>= fun k => if k then evE F σ b else pure (.bl false)) >>= toB) = _
    rw [bind_assoc', bind_assoc']
    congr 1; funext x
    rw [bind_assoc']
    congr 1; funext k
    cases k <;> rfl
  rw [e] at hev
  refine ⟨g, st, σ, hE, hS, (Ent.bind hev).mono (fun k st1 h1 g1 H1 f1 s1 => ?_) fun c st1 h1 => h1⟩
  cases k with
  | true => exact ⟨g1, st1, σ, hE.mono f1, s1, Ent.mono h1 (fun b s2 q g2 H2 f2 s3 => q g2 H2 (f1.trans f2) s3) fun c s2 q => ExcK.mono f1 q⟩
  | false => exact Ent.pure h1 g1 H1 f1 s1
theorem tT_or {K : PySem.W.Frag} {F : Nat → List Rv → M Rv} {a b : Tm} {σV : L2.St} {H : Hp} {Q : Bool → Hp → Prop} (h : tT K cv F W' (.or a b) σV H Q) : tOr (tT K cv F W' a) (tT K cv F W' b) σV H Q := by
  obtain ⟨g, st, σ, hE, hS, hev⟩ := h
  have e : (evE F σ (.or a b) >>= toB) = ((evE F σ a >>= toB) >>= fun k => if k then pure true else (evE F σ b >>= toB)) := by
    show ((evE F σ a >>= fun x => toB x >>= fun k => if k then pure (.bl true) else evE F σ b) >>= toB) = _
    rw [bind_assoc', bind_assoc']
    congr 1; funext x
    rw [bind_assoc']
    congr 1; funext k
    cases k <;> rfl
  rw [e] at hev
  refine ⟨g, st, σ, hE, hS, (Ent.bind hev).mono (fun k st1 h1 g1 H1 f1 s1 => ?_) fun c st1 h1 => h1⟩
  cases k with
  | false => exact ⟨g1, st1, σ, hE.mono f1, s1, Ent.mono h1 (fun b s2 q g2 H2 f2 s3 => q g2 H2 (f1.trans f2) s3) fun c s2 q => ExcK.mono f1 q⟩
  | true => exact Ent.pure h1 g1 H1 f1 s1
/-- a value that is a bool, as a test -/
theorem pt_of {x : Expr} {a : Tm} (ha : PE X x (tE X.K cv (callF T n) W' a)) (h : PE X x (tE X.K cv (callF T n) W' a) → ∀ {t : TE}, PE X x t → PT X x (tB t)) : PT X x (tT X.K cv (callF T n) W' a) := by
  refine PT.mono (h ha ha) fun σV H Q hq => ?_
  obtain ⟨g, st, σ, hE, hS, hev⟩ := hq
  refine ⟨g, st, σ, hE, hS, (Ent.bind hev).mono (fun r1 st1 h1 v1 g1 H1 f1 s1 hv1 _ => ?_) fun c st1 h1 => h1⟩
  have h1' : Ent ((toB r1 >>= fun b => pure b) st1) (fun b st' => ∀ g' H', Frm g H g' H' → SRep g' H' st' → Q b H') (ExcK cv W' g H σV) := by rw [bind_pure']; exact h1
  obtain ⟨b, rfl, rfl, h2⟩ := toB_get hv1 h1'
  exact ⟨b, rfl, Ent.pure h2 g1 H1 f1 s1⟩
theorem snd_ite {t x y : Expr} {c a b : Tm} {pos : Pos} (fa : fresh a = true) (fb : fresh b = true) (hc : PT X t (tT X.K cv (callF T n) W' c)) (ha : PE X x (tE X.K cv (callF T n) W' a)) (hb : PE X y (tE X.K cv (callF T n) W' b)) :
    PE X (.IfExp t x y pos) (tE X.K cv (callF T n) W' (.ite c a b)) := by
  refine PE.mono (pe_ifExp hc ha hb) fun σV H Q hq => ?_
  obtain ⟨g, st, σ, hE, hS, hev⟩ := hq
  have e : evE (callF T n) σ (.ite c a b) = ((evE (callF T n) σ c >>= toB) >>= fun k => if k then evE (callF T n) σ a else evE (callF T n) σ b) := by rw [bind_assoc']; rfl
  rw [e] at hev
  refine ⟨g, st, σ, hE, hS, (Ent.bind hev).mono (fun k st1 h1 g1 H1 f1 s1 => ?_) fun c st1 h1 => h1⟩
  cases k with
  | true => exact ⟨g1, st1, σ, hE.mono f1, s1, Ent.mono h1 (fun r s2 q => by rw [fa]; exact Fin1.mono f1 q) fun c s2 q => ExcK.mono f1 q⟩
  | false => exact ⟨g1, st1, σ, hE.mono f1, s1, Ent.mono h1 (fun r s2 q => by rw [fb]; exact Fin1.mono f1 q) fun c s2 q => ExcK.mono f1 q⟩
theorem snd_idx {x s : Expr} {a i : Tm} {pos : Pos} (hs : notSl s = true) (ha : PE X x (tE X.K cv (callF T n) W' a)) (hb : PE X s (tE X.K cv (callF T n) W' i)) : PE X (.Subscript x s pos) (tE X.K cv (callF T n) W' (.idx a i)) := by
  refine PE.mono (pe_ix ix_all ha hb (plain_of hs)) fun σV H Q hq => ?_
  obtain ⟨g, st, σ, hE, hS, hev⟩ := hq
  exact two_in_row hE hS hev fun v1 v2 g2 H2 st2 r1 r2 _ s2 x1 x2 h => ⟨g2, st2, r1, r2, x1, x2, s2, NoX.idxOp h⟩
theorem snd_isi (C : Cxt W cv T n N sc X) {x : Expr} {a : Tm} {t : Ty} {y : Str} {p p2 pos : Pos} (h1 : glB sc "isinstance" = true) (h2 : glB sc y = true) (h3 : tyB W t y = true) (hn : notStar x = true) (ha : PE X x (tE X.K cv (callF T n) W' a)) :
    PE X (.Call (.Name "isinstance" p) [x, .Name y p2] [] pos) (tE X.K cv (callF T n) W' (.isi a t)) := by
  have go : ∀ {CV : V}, PE X (.Name y p2) (tC CV) → CallR X (.builtin "isinstance") (fun xs H Q => ∃ g st rx x, xs = [x, CV] ∧ VR X.K g H x rx ∧ SRep g H st ∧ Ent (isiOp rx t st) (fun b _ => Q (.bl b) H) NoE) → PE X (.Call (.Name "isinstance" p) [x, .Name y p2] [] pos) (tE X.K cv (callF T n) W' (.isi a t)) := fun {CV} hT hR => by
    refine PE.mono (pe_callB hR (gl_of C h1) (C.bis _ (by decide +kernel)) (by decide +kernel) (pa_cons ha (pa_cons hT pa_nil) (star_of hn)) (he := star_of hn)) fun σV H Q hq => ?_
    obtain ⟨g, st, σ, hE, hS, hev⟩ := hq
    exact one_then (f := fun x => isiOp x t >>= fun k => pure (.bl k)) hE hS hev fun v1 g1 H1 st1 r1 f1 s1 x1 _ h => ⟨g1, st1, r1, v1, rfl, x1, s1, bool_end s1 NoX.isiOp (Keeps.isiOp _) h⟩
  have plain : ∀ {t' : Ty}, t' = t → (y == tyStr t' && (tyName t').isSome) = true → PE X (.Call (.Name "isinstance" p) [x, .Name y p2] [] pos) (tE X.K cv (callF T n) W' (.isi a t)) := fun {t'} et h => by
    subst et
    simp only [Bool.and_eq_true, beq_iff_eq] at h
    obtain ⟨rfl, h4⟩ := h
    obtain ⟨nm, hnm⟩ := Option.isSome_iff_exists.mp h4
    have hT : PE X (.Name (tyStr t') p2) (tC (.ty nm)) := by
      cases t' with
      | int => cases hnm; exact pe_bltn (gl_of C h2) (C.bis _ (by decide +kernel)) (v := .ty "int") (u := .type "int") (by decide +kernel) rfl
      | bool => cases hnm; exact pe_bltn (gl_of C h2) (C.bis _ (by decide +kernel)) (v := .ty "bool") (u := .type "bool") (by decide +kernel) rfl
      | str => cases hnm; exact pe_bltn (gl_of C h2) (C.bis _ (by decide +kernel)) (v := .ty "str") (u := .type "str") (by decide +kernel) rfl
      | tuple => cases hnm; exact pe_bltn (gl_of C h2) (C.bis _ (by decide +kernel)) (v := .ty "tuple") (u := .type "tuple") (by decide +kernel) rfl
      | list => cases hnm; exact pe_bltn (gl_of C h2) (C.bis _ (by decide +kernel)) (v := .ty "list") (u := .type "list") (by decide +kernel) rfl
      | value => cases hnm
      | cls c => cases hnm
    exact go hT (isi_ok hnm)
  cases t with
  | cls k =>
    have h : (W.ck.contains (y, k) && nameOk y) = true := h3
    simp only [Bool.and_eq_true, List.contains_iff_mem] at h
    obtain ⟨m1, Cc, m2, m3⟩ := C.cks _ h.1
    refine go (pe_glob (v := .ref Cc) (gl_of C h2) m2 rfl (names_of h.2).1) (isi_exc (Cv := .ref Cc) (fun u h => h) (fun D c K1 => ⟨_, K1.kit _ m1 Cc m3, fun st R e => e⟩) (fun p st R e => by cases p <;> exact e) (fun p st R e => e) (fun p st R e => e))
  | value =>
    have h : (y == ("ValueError" : Str)) = true := h3
    obtain rfl := beq_iff_eq.mp h
    exact go (pe_bltn (gl_of C h2) (C.bis _ (by decide +kernel)) (v := .ty "ValueError") (u := .type "ValueError") (by decide +kernel) rfl) (isi_exc (Cv := .type "ValueError") (fun u h => h) (fun D c K1 => ⟨_, K1.val, fun st R e => e⟩) (fun p st R e => by cases p <;> exact e) (fun p st R e => e) (fun p st R e => e))
  | int => exact plain rfl h3
  | bool => exact plain rfl h3
  | str => exact plain rfl h3
  | tuple => exact plain rfl h3
  | list => exact plain rfl h3
end
end Wk

end

section
set_option Elab.async false
set_option linter.all false
set_option maxRecDepth 100000
set_option maxHeartbeats 1000000
namespace Wk
open PySem PySem.Spec PyProof.Rows L2
section
variable {K : PySem.W.Frag} {g g1 g2 : Gh} {H H1 H2 : Hp} {Q : VK} {v : V} {r : Rv} {st : Sto}
theorem Frm.frzNew {a : Addr} {vs : List V} {o : Obj} (f : Frm g H g1 H1) (hn : H a = none) (ha : H1 a = some (.lst vs)) : Frm g H g1 (upd H1 a (.frz o (.lst vs))) where
  keep := fun c u e n t => by rw [upd_ne (ne_of_none e hn)]; exact f.keep c u e n t
  tb := f.tb
  still := f.still.trans (Still.upd fun u e s => by rw [ha] at e; cases e; exact s)
  new := f.new
  pa := f.pa
  live := fun c e => by
    by_cases hc : c = a
    · subst hc; exact hn
    · rw [upd_ne hc] at e; exact f.live c e
/-- a new value is shared from now on -/
theorem freeze_new (f : Frm g H g1 H1) (s : SRep g1 H1 st) (hv : VR K g1 H1 v r) (hf : ∀ xs p, r = .own xs → v = .ref p → H p = none) (k : ∀ H2, Frm g H g1 H2 → SRep g1 H2 st → VR K g1 H2 v (frz r) → Q v H2) : FzV Q v H1 := by
  cases r with
  | own xs =>
    obtain ⟨a, vs, rfl, ha, na, hr⟩ := hv
    have nS : ∀ u, H1 a = some u → ¬ Fix u := fun u e s => by rw [ha] at e; cases e; exact s
    exact .inr ⟨a, vs, rfl, ha, fun o => k _ (f.frzNew (hf xs a rfl rfl) ha) (s.upd na nS) (.lst (.inl ⟨o, upd_same⟩) (hr.still (Still.upd nS)))⟩
  | d p => exact .inl (k H1 f s hv)
  | exc c => exact .inl (k H1 f s hv)
  | obj n => exact .inl (k H1 f s hv)
theorem frz_not : ∀ xs, frz r ≠ .own xs := by
  intro xs; cases r <;> simp [frz]
theorem allP_get {α : Type} {Q : α → Sto → Prop} {E : Nat → Sto → Prop} : ∀ {vs : List V} {rs : List Rv} {f : List PyData → M α}, VRs K g H vs rs → (∀ r ∈ rs, ∀ xs, r ≠ .own xs) → Ent ((allP rs >>= f) st) Q E → ∃ ps, RepAll K H vs ps ∧ Ent (f ps st) Q E
  | _, _, f, .nil, _, h => ⟨[], .nil, h⟩
  | _, _, f, .cons (r := r) (rs := rs) a b, hn, h => by
    have h : Ent ((toP r >>= fun p => allP rs >>= fun ps => f (p :: ps)) st) Q E := by
      have e : (allP (r :: rs) >>= f) = (toP r >>= fun p => allP rs >>= fun ps => f (p :: ps)) := by
        show ((toP r >>= fun p => allP rs >>= fun ps => pure (p :: ps)) >>= f) = _
        rw [bind_assoc']
        congr 1; funext p
        rw [bind_assoc']; rfl
      rw [← e]; exact h
    cases r with
    | d p =>
      obtain ⟨ps, h1, h2⟩ := allP_get b (fun r hr => hn r (List.mem_cons_of_mem _ hr)) (show Ent ((allP rs >>= fun ps => f (p :: ps)) st) Q E from h)
      exact ⟨p :: ps, .cons a h1, h2⟩
    | own xs => exact absurd rfl (hn _ List.mem_cons_self xs)
    | exc c => exact h.elim
    | obj n => exact h.elim
end
section
variable {W : Wd} {cv : Nat → Value} {T : Nat → Option Fn} {n : Nat} {N : List Str} {sc : Scope} {X : Cx} {e : Expr} {W' : WX}
theorem snA_nil : PA X [] (tA X.K cv (callF T n) W' .nil) := by
  refine PA.mono pa_nil fun σV H Q hq => ?_
  obtain ⟨g, st, σ, hE, hS, hev⟩ := hq
  exact Ent.pure hev [] g H .refl hS .nil fun r hr => by cases hr
theorem snA_cons {es : List Expr} {a : Tm} {r : Tms} (fa : fresh a = true) (hn : notStar e = true) (ha : PE X e (tE X.K cv (callF T n) W' a)) (hr : PA X es (tA X.K cv (callF T n) W' r)) : PA X (e :: es) (tA X.K cv (callF T n) W' (.cons a r)) := by
  refine PA.mono (pa_cons (PE.fz ha) hr (star_of hn)) fun σV H Q hq => ?_
  obtain ⟨g, st, σ, hE, hS, hev⟩ := hq
  have hev : Ent ((evE (callF T n) σ a >>= fun x => evA (callF T n) σ r >>= fun xs => pure (frz x :: xs)) st) (FinA X.K g H Q) (ExcK cv W' g H σV) := hev
  refine ⟨g, st, σ, hE, hS, (Ent.bind hev).mono (fun r1 st1 h1 v1 g1 H1 f1 s1 hv1 hf => ?_) fun c st1 h1 => h1⟩
  rw [fa] at hf
  refine freeze_new f1 s1 hv1 (hf rfl) fun H2 f2 s2 hv2 => ?_
  refine ⟨g1, st1, σ, hE.mono f2, s2, (Ent.bind h1).mono (fun rs st2 h2 vs g3 H3 f3 s3 hvs hno => ?_) fun c st2 h2 => ExcK.mono f2 h2⟩
  refine Ent.pure h2 (v1 :: vs) g3 H3 (f2.trans f3) s3 (.cons (hv2.mono f3) hvs) fun q hq => ?_
  rcases List.mem_cons.mp hq with rfl | hq
  · exact frz_not
  · exact hno q hq
theorem snB_nil : PA X [] (tB' X.K cv (callF T n) W' .nil) := by
  refine PA.mono pa_nil fun σV H Q hq => ?_
  obtain ⟨g, st, σ, hE, hS, hev⟩ := hq
  exact Ent.pure hev [] g H .refl hS .nil
theorem snB_cons {es : List Expr} {a : Tm} {r : Tms} (hn : notStar e = true) (ha : PE X e (tE X.K cv (callF T n) W' a)) (hr : PA X es (tB' X.K cv (callF T n) W' r)) : PA X (e :: es) (tB' X.K cv (callF T n) W' (.cons a r)) := by
  refine PA.mono (pa_cons ha hr (star_of hn)) fun σV H Q hq => ?_
  obtain ⟨g, st, σ, hE, hS, hev⟩ := hq
  have hev : Ent ((evE (callF T n) σ a >>= fun x => evB (callF T n) σ r >>= fun xs => pure (x :: xs)) st) (FinB X.K g H Q) (ExcK cv W' g H σV) := hev
  refine ⟨g, st, σ, hE, hS, (Ent.bind hev).mono (fun r1 st1 h1 v1 g1 H1 f1 s1 hv1 hf => ?_) fun c st1 h1 => h1⟩
  refine ⟨g1, st1, σ, hE.mono f1, s1, (Ent.bind h1).mono (fun rs st2 h2 vs g3 H3 f3 s3 hvs => ?_) fun c st2 h2 => ExcK.mono f1 h2⟩
  exact Ent.pure h2 (v1 :: vs) g3 H3 (f1.trans f3) s3 (.cons (hv1.mono f3) hvs)
theorem hot_no {W : Wd} (h : (!W.hot) = true) : W.hot = false := by simpa using h
theorem snd_call (C : Cxt W cv T n N sc X) (hh : W.hot = false) (tk : Takes X W') {f : Nat} {as : Tms} {es : List Expr} {p pos : Pos} (hf : f ∈ W.fns) (hg : glB sc (W.nm f) = true) (hnm : nameOk (W.nm f) = true) (hn : (e :: es).all notStar = true) (ha : PA X (e :: es) (tA X.K cv (callF T n) W' as)) :
    PE X (.Call (.Name (W.nm f) p) (e :: es) [] pos) (tE X.K cv (callF T n) W' (.call f as)) := by
  obtain ⟨a, fd, ps, F, hm, hk, hb⟩ := C.fns f hf
  have hn' := hn
  simp only [List.all_cons, Bool.and_eq_true] at hn'
  refine PE.mono (pe_callS (E := WE W') F (C.room hh) (gl_of C hg) hm hk hb (fun σ => passAt tk σ) ha (names_of hnm).1 (star_of hn'.1) (stars_of hn'.2)) fun σV H Q hq => ?_
  obtain ⟨g, st, σ, hE, hS, hev⟩ := hq
  have hev : Ent ((evA (callF T n) σ as >>= fun xs => callF T n f xs) st) (Fin1 X.K g H true Q) (ExcK cv W' g H σV) := hev
  refine ⟨g, st, σ, hE, hS, (Ent.bind hev).mono (fun rs st1 h1 vs g1 H1 f1 s1 hv1 hno => ?_) fun c st1 h1 => h1⟩
  exact ⟨g1, st1, rs, f1.tb.trans hE.tb, hv1, hno, s1, h1.mono (fun r st2 q => Fin1.mono f1 q) fun c st2 q g2 H2 f2 s2 => q g2 H2 (f1.trans f2) s2⟩
theorem snd_tup {as : Tms} {es : List Expr} {k : Nat} {pos : Pos} (ha : PA X es (tA X.K cv (callF T n) W' as)) : PE X (.Tuple es k pos) (tE X.K cv (callF T n) W' (.tup as)) := by
  refine PE.mono (pe_tup ha) fun σV H Q hq => ?_
  obtain ⟨g, st, σ, hE, hS, hev⟩ := hq
  have hev : Ent ((evA (callF T n) σ as >>= fun xs => allP xs >>= fun ps => mkT ps) st) (Fin1 X.K g H true Q) (ExcK cv W' g H σV) := hev
  refine ⟨g, st, σ, hE, hS, (Ent.bind hev).mono (fun rs st1 h1 vs g1 H1 f1 s1 hv1 hno => ?_) fun c st1 h1 => h1⟩
  obtain ⟨ps, hr, h2⟩ := allP_get (f := mkT) hv1 hno h1
  obtain ⟨z, h2⟩ := Ent.ite h2
  have z := okLen_le z
  rw [← hr.length] at z
  exact ⟨z, fun p hp => Fin1.newT (Fin1.mono f1 (Ent.pure h2)) s1 hp hr⟩
theorem snd_lst {as : Tms} {es : List Expr} {pos : Pos} (ha : PA X es (tA X.K cv (callF T n) W' as)) : PE X (.List es pos) (tE X.K cv (callF T n) W' (.lst as)) := by
  refine PE.mono (pe_lst ha) fun σV H Q hq => ?_
  obtain ⟨g, st, σ, hE, hS, hev⟩ := hq
  have hev : Ent ((evA (callF T n) σ as >>= fun xs => allP xs >>= fun ps => mkL ps) st) (Fin1 X.K g H true Q) (ExcK cv W' g H σV) := hev
  refine ⟨g, st, σ, hE, hS, (Ent.bind hev).mono (fun rs st1 h1 vs g1 H1 f1 s1 hv1 hno => ?_) fun c st1 h1 => h1⟩
  obtain ⟨ps, hr, h2⟩ := allP_get (f := mkL) hv1 hno h1
  obtain ⟨z, h2⟩ := Ent.ite h2
  have z := okLen_le z
  rw [← hr.length] at z
  exact ⟨z, fun p hp => Fin1.newL (Fin1.mono f1 (Ent.pure h2)) s1 hp hr⟩
/-- a built-in that is called with values -/
theorem bi_reading {b : Bi} {as : Tms} {σV : L2.St} {H : Hp} {Q : VK} (hq : tE X.K cv (callF T n) W' (.bi b as) σV H Q) : tCB (rCall X.K (biOp b)) (tB' X.K cv (callF T n) W' as) σV H Q := by
  obtain ⟨g, st, σ, hE, hS, hev⟩ := hq
  have hev : Ent ((evB (callF T n) σ as >>= fun xs => biOp b xs) st) (Fin1 X.K g H true Q) (ExcK cv W' g H σV) := hev
  refine ⟨g, st, σ, hE, hS, (Ent.bind hev).mono (fun rs st1 h1 vs g1 H1 f1 s1 hv1 => ?_) fun c st1 h1 => h1⟩
  exact ⟨g1, st1, rs, hv1, s1, (NoX.biOp h1).mono (fun r st2 q => Fin1.mono f1 q) fun c st2 q => q⟩
theorem snd_bi (C : Cxt W cv T n N sc X) (hh : W.hot = false) {b : Bi} {as : Tms} {es : List Expr} {p pos : Pos} (hb : bi0 b = true) (hg : glB sc (biName b) = true) (hn : (e :: es).all notStar = true) (ha : PA X (e :: es) (tB' X.K cv (callF T n) W' as)) :
    PE X (.Call (.Name (biName b) p) (e :: es) [] pos) (tE X.K cv (callF T n) W' (.bi b as)) := by
  have hn' := hn
  simp only [List.all_cons, Bool.and_eq_true] at hn'
  have s1 := star_of (env := X.env) (es := es) hn'.1
  have s2 := stars_of (env := X.env) (pos := pos) hn'.2
  have hm : X.mg (biName b) = none := C.bis _ (by cases b <;> decide +kernel)
  have hG := gl_of C hg
  cases b <;> first
    | (exact absurd (show false = true from hb) (by decide))
    | (exact PE.mono (pe_callB bi_len hG hm (by decide +kernel) ha (he := s1) (hpl := s2)) fun _ _ _ q => bi_reading q)
    | (exact PE.mono (pe_callB (bi_allF (C.calm hh)) hG hm (by decide +kernel) ha (he := s1) (hpl := s2)) fun _ _ _ q => bi_reading q)
    | (exact PE.mono (pe_callB (bi_sum (C.calm hh)) hG hm (by decide +kernel) ha (he := s1) (hpl := s2)) fun _ _ _ q => bi_reading q)
    | (exact PE.mono (pe_callB (bi_max1 (C.calm hh)) hG hm (by decide +kernel) ha (he := s1) (hpl := s2)) fun _ _ _ q => bi_reading q)
    | (exact PE.mono (pe_callB (bi_min1 (C.calm hh)) hG hm (by decide +kernel) ha (he := s1) (hpl := s2)) fun _ _ _ q => bi_reading q)
    | (exact PE.mono (pe_callB bi_sorted hG hm (by decide +kernel) ha (he := s1) (hpl := s2)) fun _ _ _ q => bi_reading q)
    | (exact PE.mono (pe_callB bi_abs hG hm (by decide +kernel) ha (he := s1) (hpl := s2)) fun _ _ _ q => bi_reading q)
    | (exact PE.mono (pe_callB (bi_max2 (C.calm hh)) hG hm (by decide +kernel) ha (he := s1) (hpl := s2)) fun _ _ _ q => bi_reading q)
    | (exact PE.mono (pe_callB (bi_min2 (C.calm hh)) hG hm (by decide +kernel) ha (he := s1) (hpl := s2)) fun _ _ _ q => bi_reading q)
    | (exact PE.mono (pe_callTy bi_tuple hG hm (by decide +kernel) ha (he := s1) (hpl := s2)) fun _ _ _ q => bi_reading q)
    | (exact PE.mono (pe_callTy bi_list hG hm (by decide +kernel) ha (he := s1) (hpl := s2)) fun _ _ _ q => bi_reading q)
    | (exact PE.mono (pe_callTy bi_int hG hm (by decide +kernel) ha (he := s1) (hpl := s2)) fun _ _ _ q => bi_reading q)
    | (exact PE.mono (pe_callTy bi_str hG hm (by decide +kernel) ha (he := s1) (hpl := s2)) fun _ _ _ q => bi_reading q)
theorem rg_rep {K : PySem.W.Frag} {H : Hp} (i : Int) : ∀ (l : List Nat), RepAll K H (l.map fun k => V.int (i + (k : Nat))) (l.map fun (k : Nat) => PyData.int (i + (k : Int)))
  | [] => .nil
  | k :: l => .cons (.int _) (rg_rep i l)
/-- list(range(a, b)) -/
theorem snd_range2 (C : Cxt W cv T n N sc X) (hh : W.hot = false) {a b : Tm} {e1 e2 : Expr} {p p1 p2 pos : Pos} (hg : glB sc "list" = true) (hg2 : glB sc "range" = true) (n1 : notStar e1 = true) (n2 : notStar e2 = true) (ha : PE X e1 (tE X.K cv (callF T n) W' a)) (hb : PE X e2 (tE X.K cv (callF T n) W' b)) :
    PE X (.Call (.Name "list" p) [.Call (.Name "range" p1) [e1, e2] [] p2] [] pos) (tE X.K cv (callF T n) W' (.bi .range2 (.cons a (.cons b .nil)))) := by
  refine PE.mono (pe_listRg (C.calm hh) (gl_of C hg) (C.bis _ (by decide +kernel)) (prg_2 (gl_of C hg2) (C.bis _ (by decide +kernel)) ha hb (star_of n1) (star_of n2) (by rw [star_of n2]; rfl))) fun σV H Q hq => ?_
  obtain ⟨g, st, σ, hE, hS, hev⟩ := hq
  have e : evE (callF T n) σ (.bi .range2 (.cons a (.cons b .nil))) = (evE (callF T n) σ a >>= fun x => evE (callF T n) σ b >>= fun y => biOp .range2 [x, y]) := by
    show ((evE (callF T n) σ a >>= fun x => (evE (callF T n) σ b >>= fun y => pure [] >>= fun xs => pure (y :: xs)) >>= fun xs => pure (x :: xs)) >>= fun xs => biOp .range2 xs) = _
    simp only [bind_assoc', pure_bind']
  rw [e] at hev
  refine two_in_row (f := fun x y => biOp .range2 [x, y]) hE hS hev fun v1 v2 g2 H2 st2 r1 r2 _ s2 x1 x2 h => ?_
  match r1, r2, x1, x2, h with
  | .d (.int i), .d (.int j), x1, x2, h =>
    obtain ⟨z, h⟩ := Ent.ite h
    unfold okRange at z
    simp only [Bool.and_eq_true, decide_eq_true_eq] at z
    obtain ⟨⟨⟨⟨z1, z2⟩, z3⟩, z4⟩, z5⟩ := z
    have z5 := okLen_le z5
    rw [sizeLine_eq] at z5
    refine ⟨i, j, Rep.int_iff x1, Rep.int_iff x2, ⟨z1, z2, z3, z4, z5⟩, fun q hq => ?_⟩
    exact Fin1.newL (Ent.pure h) s2 hq (rg_rep i _)
end
end Wk

end

section
set_option Elab.async false
set_option linter.all false
set_option maxRecDepth 100000
set_option maxHeartbeats 1000000
namespace Wk
open PySem PySem.Spec PyProof.Rows L2
section
variable {W : Wd} {cv : Nat → Value} {T : Nat → Option Fn} {n : Nat} {N : List Str} {sc : Scope} {X : Cx} {e : Expr} {W' : WX}
/-- a bound of a slice -/
def tO (K : PySem.W.Frag) (cv : Nat → Value) (F : Nat → List Rv → M Rv) (W : WX) (lo : Tm) : TO := fun σV H Q => ∃ g st σ, EnvR K g H σV σ ∧ SRep g H st ∧
  Ent ((evE F σ lo >>= bndOf lo) st) (fun o st' => ∀ g' H', Frm g H g' H' → SRep g' H' st' → Q o H') (ExcK cv W g H σV)
theorem po_no : PO X none (tO X.K cv (callF T n) W' .no) := by
  refine ⟨fun pins s σ H Q I h => po_none.run pins s σ H Q I ?_⟩
  obtain ⟨g, st, σ, hE, hS, hev⟩ := h
  exact hev g H .refl hS
theorem bndOf_int {lo : Tm} {r : Rv} {st : Sto} {Q : Option Int → Sto → Prop} {E : Nat → Sto → Prop} (hn : isNo lo = false) (h : Ent (bndOf lo r st) Q E) : ∃ i, r = .d (.int i) ∧ Q (some i) st := by
  unfold bndOf at h
  split at h
  · cases hn
  · exact ⟨_, rfl, h⟩
  · exact h.elim
theorem po_yes {lo : Tm} (hn : isNo lo = false) (ha : PE X e (tE X.K cv (callF T n) W' lo)) : PO X (some e) (tO X.K cv (callF T n) W' lo) := by
  refine ⟨fun pins s σ H Q I h => (po_some ha).run pins s σ H Q I ?_⟩
  obtain ⟨g, st, σ, hE, hS, hev⟩ := h
  refine ⟨g, st, σ, hE, hS, (Ent.bind hev).mono (fun r1 st1 h1 v1 g1 H1 f1 s1 hv1 _ => ?_) fun c st1 h1 => h1⟩
  obtain ⟨i, rfl, h2⟩ := bndOf_int hn h1
  exact ⟨i, Rep.int_iff hv1, h2 g1 H1 f1 s1⟩
theorem snd_slice {x : Expr} {l h : Option Expr} {a lo hi : Tm} {p2 pos : Pos} (ha : PE X x (tE X.K cv (callF T n) W' a)) (hl : PO X l (tO X.K cv (callF T n) W' lo)) (hh : PO X h (tO X.K cv (callF T n) W' hi)) :
    PE X (.Subscript x (.Slice l h none p2) pos) (tE X.K cv (callF T n) W' (.slice a lo hi)) := by
  refine PE.mono (pe_slice sl_all ha hl hh) fun σV H Q hq => ?_
  obtain ⟨g, st, σ, hE, hS, hev⟩ := hq
  have hev : Ent ((evE (callF T n) σ a >>= fun x => (evE (callF T n) σ lo >>= bndOf lo) >>= fun l' => (evE (callF T n) σ hi >>= bndOf hi) >>= fun h' => cutOp x l' h') st) (Fin1 X.K g H true Q) (ExcK cv W' g H σV) := by
    have e : evE (callF T n) σ (.slice a lo hi) = (evE (callF T n) σ a >>= fun x => (evE (callF T n) σ lo >>= bndOf lo) >>= fun l' => (evE (callF T n) σ hi >>= bndOf hi) >>= fun h' => cutOp x l' h') := by
      show (evE (callF T n) σ a >>= fun x => evE (callF T n) σ lo >>= fun l => bndOf lo l >>= fun l' => evE (callF T n) σ hi >>= fun h => bndOf hi h >>= fun h' => cutOp x l' h') = _
      congr 1; funext x
      rw [bind_assoc']
      congr 1; funext l
      congr 1; funext l'
      rw [bind_assoc']
    rw [← e]; exact hev
  refine ⟨g, st, σ, hE, hS, (Ent.bind hev).mono (fun r1 st1 h1 v1 g1 H1 f1 s1 hv1 _ => ?_) fun c st1 h1 => h1⟩
  refine ⟨g1, st1, σ, hE.mono f1, s1, (Ent.bind h1).mono (fun o2 st2 h2 g2 H2 f2 s2 => ?_) fun c st2 h2 => ExcK.mono f1 h2⟩
  refine ⟨g2, st2, σ, hE.mono (f1.trans f2), s2, (Ent.bind h2).mono (fun o3 st3 h3 g3 H3 f3 s3 => ?_) fun c st3 h3 => ExcK.mono (f1.trans f2) h3⟩
  exact ⟨g3, st3, r1, hv1.mono (f2.trans f3), s3, (NoX.cutOp h3).mono (fun _ _ q => Fin1.mono ((f1.trans f2).trans f3) q) fun _ _ q => q⟩
theorem snd_rev {x : Expr} {a : Tm} {k : Nat} {p1 p2 p3 pos : Pos} (ha : PE X x (tE X.K cv (callF T n) W' a)) : PE X (.Subscript x (.Slice none none (some (.UnaryOp .USub (.Constant (.int 1) k p1) p2)) p3) pos) (tE X.K cv (callF T n) W' (.rev a)) := by
  refine PE.mono (pe_revL ha) fun σV H Q hq => ?_
  obtain ⟨g, st, σ, hE, hS, hev⟩ := hq
  refine one_then (f := revOp) hE hS hev fun v1 g1 H1 st1 r1 f1 s1 x1 _ h => ?_
  match r1, x1, h with
  | .d (.list xs), x1, h =>
    obtain ⟨p, vs, rfl, hl, hr⟩ := Rep.lst_iff x1
    exact ⟨p, vs, rfl, hl.sql, fun q hq => Fin1.newL (Ent.pure h) s1 hq hr.reverse⟩
  | .own xs, x1, h =>
    obtain ⟨p, vs, rfl, hl, _, hr⟩ := x1
    exact ⟨p, vs, rfl, SqL.of hl, fun q hq => Fin1.newL (Ent.pure h) s1 hq hr.reverse⟩

/-! ### len(set(xs)) -/
theorem keys_get {K : PySem.W.Frag} {H : Hp} : ∀ {ps : List PyData} {vs : List V} {ks : List Key} {us : List Value}, keysOf ps = some ks → RepAll K H vs ps → Vals vs us → ks.length = us.length ∧ ∀ (i : Nat) (u : Value), us[i]? = some u → ∃ k, ks[i]? = some k ∧ keyIs k u = true ∧ u.scannable = true
  | [], _, _, _, h, .nil, .nil => by cases h; exact ⟨rfl, fun i u z => by simp at z⟩
  | .int j :: ps, _, ks, _, h, .cons a r, .cons (b := u) t ts => by
    simp only [keysOf] at h
    cases q : keysOf ps with
    | none => rw [q] at h; cases h
    | some ks' =>
      rw [q] at h; cases h
      obtain ⟨l, ih⟩ := keys_get q r ts
      cases Rep.int_iff a
      obtain ⟨tk, rfl⟩ := t
      refine ⟨by simp [l], fun i w hw => ?_⟩
      cases i with
      | zero => simp at hw; subst hw; exact ⟨_, rfl, keyIs_int _ _, rfl⟩
      | succ i => obtain ⟨k, h1, h2⟩ := ih i w (by simpa using hw); exact ⟨k, by simpa using h1, h2⟩
  | .str j :: ps, _, ks, _, h, .cons a r, .cons (b := u) t ts => by
    simp only [keysOf] at h
    cases q : keysOf ps with
    | none => rw [q] at h; cases h
    | some ks' =>
      rw [q] at h; cases h
      obtain ⟨l, ih⟩ := keys_get q r ts
      cases (Rep.str_iff a).1
      obtain ⟨tk, rfl⟩ := t
      refine ⟨by simp [l], fun i w hw => ?_⟩
      cases i with
      | zero => simp at hw; subst hw; exact ⟨_, rfl, keyIs_str _ _, rfl⟩
      | succ i => obtain ⟨k, h1, h2⟩ := ih i w (by simpa using hw); exact ⟨k, by simpa using h1, h2⟩
  | .none :: ps, _, ks, _, h, _, _ => by cases h
  | .bool _ :: ps, _, ks, _, h, _, _ => by cases h
  | .list _ :: ps, _, ks, _, h, _, _ => by cases h
  | .tuple _ :: ps, _, ks, _, h, _, _ => by cases h
  | .dict _ :: ps, _, ks, _, h, _, _ => by cases h
theorem snd_setlen (C : Cxt W cv T n N sc X) (hh : W.hot = false) {x : Expr} {a : Tm} {p p2 q pos : Pos} (h1 : glB sc "len" = true) (h2 : glB sc "set" = true) (hn : notStar x = true) (ha : PE X x (tE X.K cv (callF T n) W' a)) :
    PE X (.Call (.Name "len" p) [.Call (.Name "set" p2) [x] [] q] [] pos) (tE X.K cv (callF T n) W' (.setlen a)) := by
  have hG1 := gl_of C h1
  have hG2 := gl_of C h2
  have m1 : X.mg "len" = none := C.bis _ (by decide +kernel)
  have m2 : X.mg "set" = none := C.bis _ (by decide +kernel)
  refine ⟨fun pins s σV H Q I hq => ?_⟩
  obtain ⟨g, st, σ, hE, hS, hev⟩ := hq
  have hev : Ent ((evE (callF T n) σ a >>= fun x => biOp .setlen [x]) st) (Fin1 X.K g H true Q) (ExcK cv W' g H σV) := hev
  refine Call_ (ld_blt I hG1 m1 boot_len ?_)
  refine PyProof.Rows.callWith_builtin1 (PyProof.Rows.args_cons ?_ rfl) rfl rfl
  refine Call_ (ld_blt I hG2 m2 boot_set ?_)
  have hR : tE X.K cv (callF T n) W' a σV H (fun v H1 => ∃ g1 st1 xs, SRep g1 H1 st1 ∧ VR X.K g1 H1 v (.own xs) ∧ Ent (bi1 .setlen (.own xs) st1) (Fin1 X.K g1 H1 true Q) NoE) := by
    refine one_then (f := fun x => biOp .setlen [x]) hE hS hev fun v1 g1 H1 st1 r1 f1 s1 x1 _ h => ?_
    have h := NoX.biOp h
    cases r1 with
    | own xs => exact ⟨g1, st1, xs, s1, x1, h⟩
    | d p => exact h.elim
    | exc c => exact h.elim
    | obj n => exact h.elim
  refine PyProof.Rows.callWith_type1 (PyProof.Rows.args_cons (thn (ha.run pins s σV H _ I hR) fun v s1 ⟨y, H1, I1, r1, q1⟩ => PyProof.Rows.args_nil ?_) (star_of hn)) (star_of hn) rfl
  obtain ⟨g1, st1, xs, s1', hv, h⟩ := q1
  obtain ⟨l, vs, rfl, hl, _, hr⟩ := hv
  cases r1
  have h : Ent ((match keysOf xs with | some ks => if decide (ks.length ≤ 4000) then pure (Rv.int (firstK ks ks.length).length) else bad | none => bad : M Rv) st1) (Fin1 X.K g1 H1 true Q) NoE := h
  cases qk : keysOf xs with
  | none => rw [qk] at h; exact h.elim
  | some ks =>
    rw [qk] at h
    obtain ⟨z, h⟩ := Ent.ite h
    have z := of_decide_eq_true z
    obtain ⟨its, rv, pl, hz⟩ := I1.list (SqL.of hl)
    obtain ⟨e1, e2⟩ := keys_get (us := its) qk hr rv
    have hsz : its.toArray.size = ks.length := by rw [List.size_toArray, e1]
    refine set_of_list (knd := mixKind X.prog X.w) (I1.ok.hd (C.calm hh)) pl.isList hsz.symm (fun i u hu => e2 i u (by simpa using hu)) (by rw [hsz]; unfold scanBound; omega) fun h' tk hset hk => ?_
    refine PyProof.Rows.args_nil ?_
    rw [hsz] at hset
    obtain ⟨o, es, ep, t, ho, hex, hd, _, _, _, hf, hn⟩ := hset
    have I2 : L2.Inv X pins σV H1 { s1 with heap := h', toks := tk } := I1.kept fun b o e => hk b o (Heap.lt_size e) e
    have hle := firstK_le ks ks.length
    exact call_len_set ho hex hd hf (by rw [hn] <;> omega) ⟨.int (firstK ks ks.length).length, H1, I2.tok _, ⟨_, by rw [hn]⟩, Fin1.same (Ent.pure h) s1' (.int _)⟩
end
end Wk

end

section
set_option Elab.async false
set_option linter.all false
set_option maxRecDepth 100000
set_option maxHeartbeats 1000000
/-! A list and a tuple walked in step. -/
namespace Wk
open PySem PySem.Spec PyProof.Rows L2
/-- the list at a, the tuple at b -/
def ItzM (K : PySem.W.Frag) (a b : Addr) : It where
  go := fun i H => ∃ vs ws : List V, (SqL K H a vs ∧ SqT K H b ws) ∧ i < vs.length ∧ i < ws.length
  yld := fun i H v H' => ∃ (t : Addr) (x y : V), v = .ref t ∧ H t = none ∧ H' = upd H t (.tup [x, y]) ∧ (∀ vs, SqL K H a vs → vs[i]? = some x) ∧ (∀ ws, SqT K H b ws → ws[i]? = some y)
  stop := fun i H => ∃ vs ws : List V, (SqL K H a vs ∧ SqT K H b ws) ∧ i ≤ vs.length ∧ i ≤ ws.length ∧ (i = vs.length ∨ i = ws.length)
/-- the five cells of such a zip, laid from n on, at turn i -/
structure StM (n a b : Addr) (i : Nat) (h : Heap) : Prop where
  zip : IsZip h (n + 4) (n + 2) (n + 3) .none
  its : IsTupOf2 h (n + 2) (.ref n) (.ref (n + 1))
  out : ∃ x y, IsTupOf2 h (n + 3) x y
  one : h.IsListIter n a i
  two : h.IsTupleIter (n + 1) b i
abbrev cellsM (n : Nat) : List Addr := [n + 4, n + 2, n + 3, n, n + 1]
theorem cellsM_mem {n c : Nat} (h : c ∈ cellsM n) : c = n + 4 ∨ c = n + 2 ∨ c = n + 3 ∨ c = n ∨ c = n + 1 := by simpa using h
theorem cellsM_not {n c : Nat} (h : c ∉ cellsM n) : c ≠ n + 4 ∧ c ≠ n + 2 ∧ c ≠ n + 3 ∧ c ≠ n ∧ c ≠ n + 1 := by simpa using h
theorem neA {x y : Nat} (h : x ≠ y) : @Ne Addr x y := h
theorem noA {c x y : Nat} (h1 : c ≠ x) (h2 : c ≠ y) : @Not (@Membership.mem Addr (List Addr) _ [x, y] c) := fun h => by
  rcases List.mem_cons.mp h with h | h
  · exact h1 h
  · exact h2 (List.mem_singleton.mp h)
theorem sepM {n a b : Nat} (ha : a < n) (hb : b < n) : ZipSep2 (n + 4) (n + 2) (n + 3) n (n + 1) [n, a] [n + 1, b] where
  TIz := neA (by omega)
  TOz := neA (by omega)
  TITO := neA (by omega)
  TIi1 := neA (by omega)
  mem1 := List.mem_cons_self
  zf1 := noA (by omega) (by omega)
  Tf1 := noA (by omega) (by omega)
  TIi2 := neA (by omega)
  mem2 := List.mem_cons_self
  zf2 := noA (by omega) (by omega)
  Tf2 := noA (by omega) (by omega)
  sep1_2 := noA (by omega) (by omega)
  sep2_1 := noA (by omega) (by omega)
theorem turnM {P : Program} {w : World} {K : PySem.W.Frag} {es : List Expr} {kk : Nat} {tp : Pos} {a b n : Nat} (ha : a < n) (hb : b < n) : Turn P w K (.Tuple es kk tp) (ItzM K a b) (cellsM n) (n + 4) (StM n a b) where
  mem := List.mem_cons_self
  obj := fun i h st c hc => by
    obtain ⟨c1, c2, ⟨x, y, c3⟩, ⟨o1, e1, _, d1⟩, ⟨o2, e2, _, d2⟩⟩ := st
    rcases cellsM_mem hc with rfl | rfl | rfl | rfl | rfl
    · exact ⟨_, c1, nofun⟩
    · exact ⟨_, c2, nofun⟩
    · exact ⟨_, c3, nofun⟩
    · refine ⟨o1, e1, fun v z => ?_⟩
      rw [d1] at z; cases z
    · refine ⟨o2, e2, fun v z => ?_⟩
      rw [d2] at z; cases z
  keep := fun i h h' st k => by
    obtain ⟨c1, c2, ⟨x, y, c3⟩, c4, c5⟩ := st
    exact ⟨k _ (by simp) _ c1, k _ (by simp) _ c2, ⟨x, y, k _ (by simp) _ c3⟩, c4.at fun o => k _ (by simp) o, c5.at fun o => k _ (by simp) o⟩
  item := by
    intro X hP hw hK hc i pins s σ H E I hf st hg
    subst hP hw hK
    obtain ⟨c1, c2, ⟨x0, y0, c3⟩, c4, c5⟩ := st
    obtain ⟨vs, ws, ⟨q1, q2⟩, l1, l2⟩ := hg
    obtain ⟨us, r1, p1, _⟩ := I.list q1
    obtain ⟨us2, r2, p2, _⟩ := I.tuple q2
    obtain ⟨u, hu, ru⟩ := r1.get (List.getElem?_eq_getElem l1)
    obtain ⟨u2, hu2, ru2⟩ := r2.get (List.getElem?_eq_getElem l2)
    have m1 := r1.length
    have m2 := r2.length
    have hd := I.ok.hd hc
    have D1 := Draws.list (prog := X.prog) (w := X.w) (A := X.A.in1) hd n a (neA (by omega)) us.toArray
    have D2 := Draws.tuple (prog := X.prog) (w := X.w) (A := X.A.in1) hd (n + 1) b (neA (by omega)) us2.toArray
    have hz4 : n + 4 < s.heap.objs.size := Heap.lt_size c1
    refine wpAny_pyNext_zipD2_item (sepM ha hb) D1 D2 c1 c2 c3 ⟨c4, p1.isList⟩ ⟨c5, p2⟩ (by simp; omega) (by simp; omega) fun x1 x2 h1 tk e1 e2 z1 o1 t1 t2 hT hs hk => ?_
    have e1 : x1 = u := by
      have e1 : us.toArray[i]? = some x1 := e1
      rw [List.getElem?_toArray, hu] at e1; cases e1; rfl
    have e2 : x2 = u2 := by
      have e2 : us2.toArray[i]? = some x2 := e2
      rw [List.getElem?_toArray, hu2] at e2; cases e2; rfl
    subst e1 e2
    refine ⟨_, rfl, wpAny_letOwnedTupleGo_zip (s := ⟨h1, s.gens, s.drawn, tk, s.os⟩) z1 fun h2 z2 sb => ?_⟩
    have far : ∀ c, c ≠ n + 4 → h2.get? c = h1.get? c := sb.2
    have hT2 := (far s.heap.objs.size (neA (by omega))).trans hT
    have old : ∀ c o, c ∉ cellsM n → s.heap.get? c = some o → h2.get? c = some o := fun c o hc e => by
      obtain ⟨k1, k2, k3, k4, k5⟩ := cellsM_not hc
      rw [far c k1]; exact hk c o k1 k3 k4 k5 e
    have I1 : Inv X pins σ (upd H s.heap.objs.size (.tup [vs[i], ws[i]])) ⟨h2, s.gens, s.drawn, tk, s.os⟩ :=
      Inv.turnedNew (h' := h2) (t' := tk) (ch := cellsM n) I old hf (Nat.le_refl _) ⟨by show 2 ≤ sizeLine; decide, [x1, x2], .cons ru (.cons ru2 .nil), ⟨_, hT2, rfl, _, rfl⟩⟩
    refine ⟨.ref s.heap.objs.size, _, I1, rfl, ⟨_, vs[i], ws[i], rfl, I.hok.fresh (Nat.le_refl _), rfl, fun l hl => ?_, fun l hl => ?_⟩, ⟨z2, ?_, ⟨x1, x2, ?_⟩, ?_, ?_⟩, fun c hcm => ?_⟩
    · rw [I.list_inj hl q1]; exact List.getElem?_eq_getElem l1
    · rw [I.tuple_inj hl q2]; exact List.getElem?_eq_getElem l2
    · exact (far _ (neA (by omega))).trans (hk _ _ (neA (by omega)) (neA (by omega)) (neA (by omega)) (neA (by omega)) c2)
    · exact (far _ (neA (by omega))).trans o1
    · exact t1.1.at fun o z => (far _ (neA (by omega))).trans z
    · exact t2.1.at fun o z => (far _ (neA (by omega))).trans z
    · have hlt : @LT.lt Nat _ c s.heap.objs.size := by
        rcases cellsM_mem hcm with z | z | z | z | z <;> rw [z] <;> first | exact hz4 | exact Nat.lt_of_le_of_lt (by omega) hz4
      rw [upd_ne (Nat.ne_of_lt hlt)]
      exact (hf c hcm).1
  done := by
    intro X hP hw hK hc i pins s σ H E I hf st hg
    subst hP hw hK
    obtain ⟨c1, c2, ⟨x0, y0, c3⟩, c4, c5⟩ := st
    obtain ⟨vs, ws, ⟨q1, q2⟩, l1, l2, hend⟩ := hg
    obtain ⟨us, r1, p1, _⟩ := I.list q1
    obtain ⟨us2, r2, p2, _⟩ := I.tuple q2
    have m1 := r1.length
    have m2 := r2.length
    have hd := I.ok.hd hc
    have D1 := Draws.list (prog := X.prog) (w := X.w) (A := X.A.in1) hd n a (neA (by omega)) us.toArray
    have D2 := Draws.tuple (prog := X.prog) (w := X.w) (A := X.A.in1) hd (n + 1) b (neA (by omega)) us2.toArray
    refine wpAny_pyNext_zipD2_end (sepM ha hb) D1 D2 c1 c2 c3 ⟨c4, p1.isList⟩ ⟨c5, p2⟩ (by simp; omega) (by simp; omega) (by simp; omega) fun h1 tk hk => ⟨rfl, ?_⟩
    refine Inv.turnedL (h' := h1) (t' := tk) (ch := cellsM n) I (fun c o hc e => ?_) hf
    obtain ⟨k1, k2, k3, k4, k5⟩ := cellsM_not hc
    exact hk c o k1 k3 k4 k5 e
  self := fun A i s Q E st h => wpAny_pyIter_zip st.zip h
/-- what zip's two are -/
inductive ZipOf (K : PySem.W.Frag) (H : Hp) (R : It → Hp → Prop) (a b : Addr) (vs ws : List V) : Prop where
  | ll (h1 : SqL K H a vs) (h2 : SqL K H b ws) (h : R (Itz K a b) H)
  | tt (h1 : SqT K H a vs) (h2 : SqT K H b ws) (h : R (RZ.ItzT K a b) H)
  | lt (h1 : SqL K H a vs) (h2 : SqT K H b ws) (h : R (ItzM K a b) H)
def iZipM (K : PySem.W.Frag) (ta : TA) : TI := fun σ H R => ta σ H fun us H1 => ∃ a b vs ws, us = [.ref a, .ref b] ∧ ZipOf K H1 R a b vs ws
theorem zip_call {X : Cx} {e e2 : Expr} {ta : TA} {p pos tp : Pos} {es : List Expr} {kk : Nat} (hg : Gl X "zip") (hm : X.mg "zip" = none) (ha : PA X [e, e2] ta) (hs : starEach [e, e2] X.env = (false, eval e X.env) :: starEach [e2] X.env)
    (hpl : (backTo pos (starEach [e2] X.env)).any (·.1) = false) : PI X (.Tuple es kk tp) (.Call (.Name "zip" p) [e, e2] [] pos) (iZipM X.K ta) := by
  refine ⟨fun pins s σ H R I h => ?_⟩
  refine Call_ (ld_blt I hg hm PyProof.Rows.boot_zip (PyProof.Rows.callWith_type1 (thn (ha.run pos pins s σ H _ I h) ?_) hs hpl))
  rintro us s1 ⟨vs, H1, I1, r1, a, b, xs, ys, rfl, q⟩
  match us, r1 with
  | [_, _], .cons rfl (.cons rfl .nil) =>
    have new : ∀ c, c ∈ cellsM s1.heap.objs.size → FpOk X pins H1 c := fun c hcm => by
      have hle : s1.heap.objs.size ≤ c := by
        rcases cellsM_mem hcm with z | z | z | z | z <;> omega
      exact I1.fpOk hle (I1.hok.fresh hle)
    match q with
    | .ll h1 h2 q =>
      obtain ⟨_, _, p1, _⟩ := I1.list h1
      obtain ⟨_, _, p2, _⟩ := I1.list h2
      refine call_zip_2 p1.isList p2.isList fun h' k1 k2 k3 k4 k5 _ hk => wpAny_pyIter_zip k1 ?_
      exact ⟨_, _, _, _, H1, rfl, I1.kept (t' := s1.toks) hk, turn_zip (PySem.W.ktu_apart s1.heap.objs.size a b p1.lt p2.lt), ⟨k1, k2, ⟨_, _, k3⟩, k4, k5⟩, new, q⟩
    | .tt h1 h2 q =>
      obtain ⟨_, _, p1, _⟩ := I1.tuple h1
      obtain ⟨_, _, p2, _⟩ := I1.tuple h2
      refine RZ.call_zipT p1 p2 fun h' k1 k2 k3 k4 k5 _ hk => wpAny_pyIter_zip k1 ?_
      obtain ⟨_, g1, _⟩ := id p1
      obtain ⟨_, g2, _⟩ := id p2
      exact ⟨_, _, _, _, H1, rfl, I1.kept (t' := s1.toks) hk, RZ.turn_zipT (PySem.W.ktu_apart s1.heap.objs.size a b (Heap.lt_size g1) (Heap.lt_size g2)), ⟨k1, k2, ⟨_, _, k3⟩, k4, k5⟩, new, q⟩
    | .lt h1 h2 q =>
      obtain ⟨u1, _, p1, _⟩ := I1.list h1
      obtain ⟨u2, _, p2, _⟩ := I1.tuple h2
      refine zip_begins2 (begins_list a u1.toArray) (begins_tuple b u2.toArray) p1.isList p2 fun h' k1 k2 k3 k4 k5 _ hk => wpAny_pyIter_zip k1 ?_
      obtain ⟨_, g2, _⟩ := id p2
      exact ⟨_, _, _, _, H1, rfl, I1.kept (t' := s1.toks) hk, turnM p1.lt (Heap.lt_size g2), ⟨k1, k2, ⟨_, _, k3⟩, ⟨_, k4, rfl, rfl⟩, ⟨_, k5, rfl, rfl⟩⟩, new, q⟩
end Wk

end

section
set_option Elab.async false
set_option linter.all false
set_option maxRecDepth 100000
set_option maxHeartbeats 1000000
/-! A tuple walked with its places. -/
namespace Wk
open PySem PySem.Spec PyProof.Rows L2
/-- the tuple at a, each item in a new pair with its place -/
def IteT (K : PySem.W.Frag) (a : Addr) : It where
  go := fun i H => ∃ vs : List V, SqT K H a vs ∧ i < vs.length
  yld := fun i H v H' => ∃ (t : Addr) (x : V), v = .ref t ∧ H t = none ∧ H' = upd H t (.tup [.int (i : Nat), x]) ∧ (∀ vs, SqT K H a vs → vs[i]? = some x)
  stop := fun i H => ∃ vs : List V, SqT K H a vs ∧ i = vs.length
/-- its two cells, laid from n on, at turn i -/
structure StE (n a : Addr) (i : Nat) (h : Heap) : Prop where
  enm : ∃ old, IsEnum h (n + 1) n ((i : Nat) : Int) old
  one : h.IsTupleIter n a i
abbrev cellsE (n : Nat) : List Addr := [n + 1, n]
theorem cellsE_mem {n c : Nat} (h : c ∈ cellsE n) : c = n + 1 ∨ c = n := by simpa using h
theorem cellsE_not {n c : Nat} (h : c ∉ cellsE n) : c ≠ n + 1 ∧ c ≠ n := by simpa using h
theorem turnE {P : Program} {w : World} {K : PySem.W.Frag} {es : List Expr} {kk : Nat} {tp : Pos} {a n : Nat} (ha : a < n) : Turn P w K (.Tuple es kk tp) (IteT K a) (cellsE n) (n + 1) (StE n a) where
  mem := List.mem_cons_self
  obj := fun i h st c hc => by
    obtain ⟨⟨old, c1⟩, ⟨o1, e1, _, d1⟩⟩ := st
    rcases cellsE_mem hc with rfl | rfl
    · exact ⟨_, c1, nofun⟩
    · refine ⟨o1, e1, fun v z => ?_⟩
      rw [d1] at z; cases z
  keep := fun i h h' st k => by
    obtain ⟨⟨old, c1⟩, c2⟩ := st
    exact ⟨⟨old, k _ (by simp) _ c1⟩, c2.at fun o => k _ (by simp) o⟩
  item := by
    intro X hP hw hK hc i pins s σ H E I hf st hg
    subst hP hw hK
    obtain ⟨⟨old, c1⟩, c2⟩ := st
    obtain ⟨vs, q1, l1⟩ := hg
    obtain ⟨us, r1, p1, _⟩ := I.tuple q1
    obtain ⟨u, hu, ru⟩ := r1.get (List.getElem?_eq_getElem l1)
    have m1 := r1.length
    have D1 := Draws.tuple (prog := X.prog) (w := X.w) (A := X.A.in1) (I.ok.hd hc) n a (neA (by omega)) us.toArray
    have hz1 : n + 1 < s.heap.objs.size := Heap.lt_size c1
    refine wpAny_pyNext_enum_itemD D1 c1 ⟨c2, p1⟩ (by simp; omega) (neA (by omega)) (noA (by omega) (by omega)) fun x1 h1 tk e1 o1 t1 hT hs hk => ?_
    have e1 : x1 = u := by
      have e1 : us.toArray[i]? = some x1 := e1
      rw [List.getElem?_toArray, hu] at e1; cases e1; rfl
    subst e1
    refine ⟨_, rfl, wpAny_letOwnedTupleGo_enum (s := ⟨h1, s.gens, s.drawn, tk + 1, s.os⟩) o1 fun h2 z2 sb => ?_⟩
    have far : ∀ c, c ≠ n + 1 → h2.get? c = h1.get? c := sb.2
    have hT2 := (far s.heap.objs.size (neA (by omega))).trans hT
    have old : ∀ c o, c ∉ cellsE n → s.heap.get? c = some o → h2.get? c = some o := fun c o hc e => by
      obtain ⟨k1, k2⟩ := cellsE_not hc
      rw [far c k1]; exact hk c o k1 k2 e
    have I1 : Inv X pins σ (upd H s.heap.objs.size (.tup [.int (i : Nat), vs[i]])) ⟨h2, s.gens, s.drawn, tk + 1, s.os⟩ :=
      Inv.turnedNew (h' := h2) (t' := tk + 1) (ch := cellsE n) I old hf (Nat.le_refl _) ⟨by show 2 ≤ sizeLine; decide, [.int i tk, x1], .cons ⟨_, rfl⟩ (.cons ru .nil), ⟨_, hT2, rfl, _, rfl⟩⟩
    refine ⟨.ref s.heap.objs.size, _, I1, rfl, ⟨_, vs[i], rfl, I.hok.fresh (Nat.le_refl _), rfl, fun l hl => ?_⟩, ⟨⟨x1, ?_⟩, ?_⟩, fun c hcm => ?_⟩
    · rw [I.tuple_inj hl q1]; exact List.getElem?_eq_getElem l1
    · rw [Int.natCast_add]; exact z2
    · exact t1.1.at fun o z => (far _ (neA (by omega))).trans z
    · have hlt : @LT.lt Nat _ c s.heap.objs.size := by
        rcases cellsE_mem hcm with z | z <;> rw [z] <;> first | exact hz1 | exact Nat.lt_of_le_of_lt (by omega) hz1
      rw [upd_ne (Nat.ne_of_lt hlt)]
      exact (hf c hcm).1
  done := by
    intro X hP hw hK hc i pins s σ H E I hf st hg
    subst hP hw hK
    obtain ⟨⟨old, c1⟩, c2⟩ := st
    obtain ⟨vs, q1, rfl⟩ := hg
    obtain ⟨us, r1, p1, _⟩ := I.tuple q1
    have m1 := r1.length
    have D1 := Draws.tuple (prog := X.prog) (w := X.w) (A := X.A.in1) (I.ok.hd hc) n a (neA (by omega)) us.toArray
    have st2 : s.heap.IsTupleIter n a us.toArray.size := by
      have e : us.toArray.size = vs.length := by simp [m1]
      rw [e]; exact c2
    refine wpAny_pyNext_enum_endD D1 c1 ⟨st2, p1⟩ fun h1 hk => ⟨rfl, ?_⟩
    refine Inv.turnedL (h' := h1) (t' := s.toks) (ch := cellsE n) I (fun c o hc e => ?_) hf
    exact hk c o (cellsE_not hc).2 e
  self := fun A i s Q E st h => by
    obtain ⟨⟨_, c1⟩, _⟩ := st
    exact wpAny_pyIter_enum c1 h
abbrev newE1 (h : Heap) (o : Obj) : Heap := h.push o
abbrev newE2 (h : Heap) (o : Obj) : Heap := (newE1 h o).push { cls := .type "enumerate", data := .fields #[.none, .bool false, .ref h.objs.size, rawInt 0, .none, .none] }
set_option maxHeartbeats 4000000 in
theorem enum_makes {v : Value} {o : Obj} {P : Heap → Prop} (B : Begins v o P) :
    Meets (Builtin.«enumerate.__new__» ⟨[.type "enumerate", v], []⟩) (fun _ R s => P s.heap ∧ R (.ok (.ret (.ref (newE1 s.heap o).objs.size))) { s with heap := newE2 s.heap o }) :=
  .of_wp fun prog w A R s h => by
    obtain ⟨hp, gn, dr, tks, os⟩ := s
    obtain ⟨hP, h⟩ := h
    have hsub := sub_enumerate
    have it : ∀ {A' : Around} {E : Value → Shared → Prop} {Q : Value → Shared → Prop}, Q (.ref hp.objs.size) ⟨hp.push o, gn, dr, tks, os⟩ → wpAny (model prog w) A' (pyIter v) Q E ⟨hp, gn, dr, tks, os⟩ := fun q => B.iter prog w _ _ ⟨hp, gn, dr, tks, os⟩ _ hP q
    wp_walk using it
    refine wpAny_stack_any fun st => wpAny_pure ?_
    split
    · rename_i c _ _ _ _ _
      cases (c == Value.type "enumerate") <;> wp_walk using it <;> exact ⟨_, rfl, h⟩
    · wp_walk using it
      exact ⟨_, rfl, h⟩
theorem enum_call {prog : Program} {w : World} {A : Around} {E : Value → Shared → Prop} {s : Shared} {v : Value} {o : Obj} {P : Heap → Prop} {Q : Value → Shared → Prop} (B : Begins v o P) (hP : P s.heap)
    (h : ∀ h', IsEnum h' (s.heap.objs.size + 1) s.heap.objs.size 0 .none → h'.get? s.heap.objs.size = some o → (∀ b x, s.heap.get? b = some x → h'.get? b = some x) → Q (.ref (s.heap.objs.size + 1)) { s with heap := h' }) :
    wpAny (model prog w) A (call (.type "enumerate") [v]) Q E s := by
  have z : (newE1 s.heap o).objs.size = s.heap.objs.size + 1 := Heap.size_push ..
  have g : (newE2 s.heap o).get? (newE1 s.heap o).objs.size = some _ := Heap.get?_push_size _ rfl
  rw [z] at g
  refine callType_new F.called_enumerate (by decide) (F.typeCall_enumerate_1 _) (F.newCall_enumerate_1 _) (fun x => F.args_object_init_2 x _) F.entry_enumerate_new (enum_makes B) ⟨hP, ?_⟩
  show _ ∧ _
  rw [z]
  exact ⟨⟨_, g, rfl⟩, h _ g (Heap.get?_push_of_some _ (Heap.get?_push_size _ B.free)) fun b x e => Heap.get?_push_of_some _ (Heap.get?_push_of_some _ e)⟩
/-- what enumerate walks is -/
inductive EnmOf (K : PySem.W.Frag) (H : Hp) (R : It → Hp → Prop) (a : Addr) (vs : List V) : Prop where
  | l (h1 : SqL K H a vs) (h : R (Ite K a) H)
  | t (h1 : SqT K H a vs) (h : R (IteT K a) H)
def iEnmM (K : PySem.W.Frag) (ta : TA) : TI := fun σ H R => ta σ H fun us H1 => ∃ a vs, us = [.ref a] ∧ EnmOf K H1 R a vs
theorem enm_call {X : Cx} {e : Expr} {ta : TA} {p pos tp : Pos} {es : List Expr} {kk : Nat} (hg : Gl X "enumerate") (hm : X.mg "enumerate" = none) (ha : PA X [e] ta) (hs : starEach [e] X.env = [(false, eval e X.env)]) :
    PI X (.Tuple es kk tp) (.Call (.Name "enumerate" p) [e] [] pos) (iEnmM X.K ta) := by
  refine ⟨fun pins s σ H R I h => ?_⟩
  refine Call_ (ld_blt I hg hm boot_enumerate (PyProof.Rows.callWith_type1 (thn (ha.run pos pins s σ H _ I h) ?_) hs rfl))
  rintro us s1 ⟨vs, H1, I1, r1, a, xs, rfl, q⟩
  match us, r1 with
  | [_], .cons rfl .nil =>
    have new : ∀ c, c ∈ cellsE s1.heap.objs.size → FpOk X pins H1 c := fun c hcm => by
      have hle : s1.heap.objs.size ≤ c := by
        rcases cellsE_mem hcm with z | z <;> omega
      exact I1.fpOk hle (I1.hok.fresh hle)
    match q with
    | .l h1 q =>
      obtain ⟨_, _, p1, _⟩ := I1.list h1
      refine call_enumerate_list p1.isList fun h' k1 k2 _ hk => wpAny_pyIter_enum k1 ?_
      exact ⟨_, _, _, _, H1, rfl, I1.kept (t' := s1.toks) hk, turn_enum a (s1.heap.objs.size + 1) s1.heap.objs.size, ⟨⟨_, k1⟩, k2, Nat.succ_ne_self _⟩, new, q⟩
    | .t h1 q =>
      obtain ⟨u1, _, p1, _⟩ := I1.tuple h1
      obtain ⟨_, g1, _⟩ := id p1
      refine enum_call (begins_tuple a u1.toArray) p1 fun h' k1 k2 hk => wpAny_pyIter_enum k1 ?_
      exact ⟨_, _, _, _, H1, rfl, I1.kept (t' := s1.toks) hk, turnE (Heap.lt_size g1), ⟨⟨_, k1⟩, ⟨_, k2, rfl, rfl⟩⟩, new, q⟩
end Wk

end

section
set_option Elab.async false
set_option linter.all false
set_option maxRecDepth 100000
set_option maxHeartbeats 1000000
/-! What is walked. -/
namespace Wk
open PySem PySem.Spec PyProof.Rows L2
/-- a source that is walked: the items that it tells; St: it stands -/
structure Src (K : PySem.W.Frag) (J : It) (ps : List PyData) (St : Gh → Hp → Prop) : Prop where
  go : ∀ g H i, St g H → i < ps.length → J.go i H
  stop : ∀ g H i, St g H → i = ps.length → J.stop i H
  yld : ∀ g H i x H', i < ps.length → St g H → J.yld i H x H' → ∃ p, ps[i]? = some p ∧ Rep K H' x p ∧ (H' = H ∨ ∃ t o, H t = none ∧ H' = upd H t (.tup o))
  frm : ∀ g H g' H', St g H → Frm g H g' H' → St g' H'
/-- a list that stands at a -/
def LSt (K : PySem.W.Frag) (a : Addr) (vs : List V) (ps : List PyData) (g : Gh) (H : Hp) : Prop := (FzL K H a vs ∨ (H a = some (.lst vs) ∧ a ∉ g.fa)) ∧ RepAll K H vs ps
def TSt (K : PySem.W.Frag) (a : Addr) (vs : List V) (ps : List PyData) (_ : Gh) (H : Hp) : Prop := H a = some (.tup vs) ∧ RepAll K H vs ps
section
variable {K : PySem.W.Frag} {a b : Addr} {vs ws : List V} {ps qs : List PyData} {g g' : Gh} {H H' : Hp}
theorem LSt.sq (h : LSt K a vs ps g H) : SqL K H a vs := by
  rcases h.1 with h | h
  · exact h.sql
  · exact SqL.of h.1
theorem LSt.frm (h : LSt K a vs ps g H) (f : Frm g H g' H') : LSt K a vs ps g' H' := by
  obtain ⟨h | ⟨h1, h2⟩, r⟩ := h
  · exact ⟨.inl (h.still f.still), r.still f.still⟩
  · refine ⟨.inr ⟨f.keep _ _ h1 h2 (fun _ z => nomatch z), fun z => ?_⟩, r.still f.still⟩
    rcases f.new a z with q | q
    · exact h2 q
    · rw [h1] at q; cases q
theorem TSt.frm (h : TSt K a vs ps g H) (f : Frm g H g' H') : TSt K a vs ps g' H' := ⟨f.still _ _ h.1 True.intro, h.2.still f.still⟩
theorem src_list : Src K (Itl K a) ps (LSt K a vs ps) where
  go := fun g H i h hi => by
    have hi' : i < vs.length := by rw [h.2.length]; exact hi
    exact ⟨vs, vs[i], h.sq, List.getElem?_eq_getElem hi'⟩
  stop := fun g H i h hi => ⟨vs, h.sq, by rw [h.2.length, hi]; exact Nat.le_refl _⟩
  yld := fun g H i x H' _ h y => by
    obtain ⟨rfl, y⟩ := y
    obtain ⟨p, h1, h2⟩ := h.2.get' (y vs h.sq)
    exact ⟨p, h1, h2, .inl rfl⟩
  frm := fun g H g' H' h f => h.frm f
theorem src_tup : Src K (Itt K a) ps (TSt K a vs ps) where
  go := fun g H i h hi => by
    have hi' : i < vs.length := by rw [h.2.length]; exact hi
    exact ⟨vs, vs[i], SqT.of h.1, List.getElem?_eq_getElem hi'⟩
  stop := fun g H i h hi => ⟨vs, SqT.of h.1, by rw [h.2.length, hi]; exact Nat.le_refl _⟩
  yld := fun g H i x H' _ h y => by
    obtain ⟨rfl, y⟩ := y
    obtain ⟨p, h1, h2⟩ := h.2.get' (y vs (SqT.of h.1))
    exact ⟨p, h1, h2, .inl rfl⟩
  frm := fun g H g' H' h f => h.frm f
theorem strOk_mem {z : Str} (h : PyData.strOk z = true) {i c : Nat} (e : z.cps[i]? = some c) : PyData.strOk ⟨#[c]⟩ = true := by
  unfold PyData.strOk at *
  have := Array.all_eq_true_iff_forall_mem.mp h c (Array.mem_of_getElem? e)
  simpa using this
theorem src_str {z : Str} (ho : PyData.strOk z = true) : Src K (Its z) (z.cps.toList.map fun c => .str ⟨#[c]⟩) (fun _ _ => True) where
  go := fun g H i _ hi => by
    have : i < z.cps.size := by simpa using hi
    exact this
  stop := fun g H i _ hi => by
    have : z.cps.size ≤ i := by rw [hi]; simp
    exact this
  yld := fun g H i x H' hlt _ y => by
    obtain ⟨rfl, c, hc, rfl⟩ := y
    refine ⟨.str ⟨#[c]⟩, ?_, .str _ (strOk_mem ho hc), .inl rfl⟩
    rw [List.getElem?_map, Array.getElem?_toList, hc]; rfl
  frm := fun _ _ _ _ _ _ => True.intro
theorem src_range {lo hi : Int} : Src K (Itr lo (hi - lo).toNat) (rangeL lo hi) (fun _ _ => True) where
  go := fun g H i _ h => by
    have : i < (hi - lo).toNat := by simpa [rangeL] using h
    exact this
  stop := fun g H i _ h => by
    have : (hi - lo).toNat ≤ i := by rw [h]; simp [rangeL]
    exact this
  yld := fun g H i x H' hlt _ y => by
    obtain ⟨rfl, rfl⟩ := y
    refine ⟨.int (lo + i), ?_, .int _, .inl rfl⟩
    have hlt : i < (hi - lo).toNat := by simpa [rangeL] using hlt
    unfold rangeL
    rw [List.getElem?_map, List.getElem?_range hlt]; rfl
  frm := fun _ _ _ _ _ _ => True.intro
theorem zipL_get : ∀ {xs ys : List PyData} {i : Nat} {x y : PyData}, xs[i]? = some x → ys[i]? = some y → (zipL xs ys)[i]? = some (.tuple [x, y])
  | [], _, _, _, _, h, _ => by simp at h
  | _ :: _, [], _, _, _, _, h => by simp at h
  | a :: xs, b :: ys, 0, x, y, h1, h2 => by simp at h1 h2; subst h1 h2; rfl
  | a :: xs, b :: ys, i + 1, x, y, h1, h2 => zipL_get (xs := xs) (ys := ys) (i := i) (by simpa using h1) (by simpa using h2)
theorem zipL_len : ∀ (xs ys : List PyData), (zipL xs ys).length = min xs.length ys.length
  | [], _ => by simp [zipL]
  | _ :: _, [] => by simp [zipL]
  | a :: xs, b :: ys => by simp [zipL, zipL_len xs ys]
theorem enumL_get : ∀ {k : Nat} {xs : List PyData} {i : Nat} {x : PyData}, xs[i]? = some x → (enumL k xs)[i]? = some (.tuple [.int ((k + i : Nat) : Int), x])
  | _, [], _, _, h => by simp at h
  | k, a :: xs, 0, x, h => by simp at h; subst h; rfl
  | k, a :: xs, i + 1, x, h => by
    have := enumL_get (k := k + 1) (xs := xs) (i := i) (x := x) (by simpa using h)
    show (enumL (k + 1) xs)[i]? = _
    rw [this, show k + 1 + i = k + (i + 1) by omega]
theorem enumL_len : ∀ (k : Nat) (xs : List PyData), (enumL k xs).length = xs.length
  | _, [] => rfl
  | k, a :: xs => by simp [enumL, enumL_len (k + 1) xs]
theorem src_zip : Src K (Itz K a b) (zipL ps qs) (fun g H => LSt K a vs ps g H ∧ LSt K b ws qs g H) where
  go := fun g H i h hi => by
    obtain ⟨h1, h2⟩ := h
    rw [zipL_len] at hi
    have e1 : i < vs.length := by rw [h1.2.length]; omega
    have e2 : i < ws.length := by rw [h2.2.length]; omega
    exact ⟨vs, ws, vs[i], ws[i], h1.sq, h2.sq, List.getElem?_eq_getElem e1, List.getElem?_eq_getElem e2⟩
  stop := fun g H i h hi => by
    obtain ⟨h1, h2⟩ := h
    rw [zipL_len] at hi
    refine ⟨vs, ws, h1.sq, h2.sq, ?_⟩
    rw [h1.2.length, h2.2.length]
    omega
  yld := fun g H i x H' _ h y => by
    obtain ⟨h1, h2⟩ := h
    obtain ⟨t, x1, x2, rfl, ht, rfl, y1, y2⟩ := y
    obtain ⟨p, e1, e2⟩ := h1.2.get' (y1 vs h1.sq)
    obtain ⟨q, e3, e4⟩ := h2.2.get' (y2 ws h2.sq)
    exact ⟨.tuple [p, q], zipL_get e1 e3, .tup upd_same (.cons (e2.still (.fresh ht)) (.cons (e4.still (.fresh ht)) .nil)), .inr ⟨t, _, ht, rfl⟩⟩
  frm := fun g H g' H' h f => ⟨h.1.frm f, h.2.frm f⟩
theorem src_zipT : Src K (RZ.ItzT K a b) (zipL ps qs) (fun g H => TSt K a vs ps g H ∧ TSt K b ws qs g H) where
  go := fun g H i h hi => by
    obtain ⟨h1, h2⟩ := h
    rw [zipL_len] at hi
    have e1 : i < vs.length := by rw [h1.2.length]; omega
    have e2 : i < ws.length := by rw [h2.2.length]; omega
    exact ⟨vs, ws, vs[i], ws[i], SqT.of h1.1, SqT.of h2.1, List.getElem?_eq_getElem e1, List.getElem?_eq_getElem e2⟩
  stop := fun g H i h hi => by
    obtain ⟨h1, h2⟩ := h
    rw [zipL_len] at hi
    refine ⟨vs, ws, SqT.of h1.1, SqT.of h2.1, ?_⟩
    rw [h1.2.length, h2.2.length]
    omega
  yld := fun g H i x H' _ h y => by
    obtain ⟨h1, h2⟩ := h
    obtain ⟨t, x1, x2, rfl, ht, rfl, y1, y2⟩ := y
    obtain ⟨p, e1, e2⟩ := h1.2.get' (y1 vs (SqT.of h1.1))
    obtain ⟨q, e3, e4⟩ := h2.2.get' (y2 ws (SqT.of h2.1))
    exact ⟨.tuple [p, q], zipL_get e1 e3, .tup upd_same (.cons (e2.still (.fresh ht)) (.cons (e4.still (.fresh ht)) .nil)), .inr ⟨t, _, ht, rfl⟩⟩
  frm := fun g H g' H' h f => ⟨h.1.frm f, h.2.frm f⟩
theorem src_zipM : Src K (ItzM K a b) (zipL ps qs) (fun g H => LSt K a vs ps g H ∧ TSt K b ws qs g H) where
  go := fun g H i h hi => by
    rw [zipL_len] at hi
    exact ⟨vs, ws, ⟨h.1.sq, SqT.of h.2.1⟩, by rw [h.1.2.length]; omega, by rw [h.2.2.length]; omega⟩
  stop := fun g H i h hi => by
    rw [zipL_len] at hi
    refine ⟨vs, ws, ⟨h.1.sq, SqT.of h.2.1⟩, ?_⟩
    rw [h.1.2.length, h.2.2.length]
    omega
  yld := fun g H i x H' _ h y => by
    obtain ⟨t, x1, x2, rfl, ht, rfl, y1, y2⟩ := y
    obtain ⟨p, e1, e2⟩ := h.1.2.get' (y1 vs h.1.sq)
    obtain ⟨q, e3, e4⟩ := h.2.2.get' (y2 ws (SqT.of h.2.1))
    exact ⟨.tuple [p, q], zipL_get e1 e3, .tup upd_same (.cons (e2.still (.fresh ht)) (.cons (e4.still (.fresh ht)) .nil)), .inr ⟨t, _, ht, rfl⟩⟩
  frm := fun g H g' H' h f => ⟨h.1.frm f, h.2.frm f⟩
theorem src_enum : Src K (Ite K a) (enumL 0 ps) (LSt K a vs ps) where
  go := fun g H i h hi => by
    rw [enumL_len] at hi
    have e1 : i < vs.length := by rw [h.2.length]; omega
    exact ⟨vs, vs[i], h.sq, List.getElem?_eq_getElem e1⟩
  stop := fun g H i h hi => ⟨vs, h.sq, by rw [enumL_len] at hi; rw [h.2.length, hi]; exact Nat.le_refl _⟩
  yld := fun g H i x H' _ h y => by
    obtain ⟨t, x1, rfl, ht, rfl, y⟩ := y
    obtain ⟨p, e1, e2⟩ := h.2.get' (y vs h.sq)
    exact ⟨_, enumL_get e1, .tup upd_same (.cons (by rw [Nat.zero_add]; exact .int _) (.cons (e2.still (.fresh ht)) .nil)), .inr ⟨t, _, ht, rfl⟩⟩
  frm := fun g H g' H' h f => h.frm f
theorem src_enumT : Src K (IteT K a) (enumL 0 ps) (TSt K a vs ps) where
  go := fun g H i h hi => by
    rw [enumL_len] at hi
    exact ⟨vs, SqT.of h.1, by rw [h.2.length]; omega⟩
  stop := fun g H i h hi => ⟨vs, SqT.of h.1, by rw [enumL_len] at hi; rw [h.2.length, hi]⟩
  yld := fun g H i x H' _ h y => by
    obtain ⟨t, x1, rfl, ht, rfl, y⟩ := y
    obtain ⟨p, e1, e2⟩ := h.2.get' (y vs (SqT.of h.1))
    exact ⟨_, enumL_get e1, .tup upd_same (.cons (by rw [Nat.zero_add]; exact .int _) (.cons (e2.still (.fresh ht)) .nil)), .inr ⟨t, _, ht, rfl⟩⟩
  frm := fun g H g' H' h f => h.frm f
end
/-- .. whatever lists change that are one's own -/
def Stays (St : Gh → Hp → Prop) : Prop := ∀ g H g' H', St g H → Still H H' → St g' H'
theorem ok_bind {α β : Type} {m : M α} {f : α → M β} {st st2 : Sto} {b : β} (h : (m >>= f) st = .ok b st2) : ∃ a st1, m st = .ok a st1 ∧ f a st1 = .ok b st2 := by
  have h : M.bind m f st = .ok b st2 := h
  unfold M.bind at h
  cases q : m st with
  | ok a s' => rw [q] at h; exact ⟨a, s', rfl, h⟩
  | exc c s' => rw [q] at h; cases h
  | bad => rw [q] at h; cases h
theorem ok_pure {α : Type} {a b : α} {st st2 : Sto} (h : (pure a : M α) st = .ok b st2) : a = b := by cases h; rfl
theorem ok_ite {α : Type} {c : Prop} [Decidable c] {m : M α} {b : α} {st st2 : Sto} (h : (if c then m else bad) st = .ok b st2) : m st = .ok b st2 := by
  by_cases hc : c
  · rw [if_pos hc] at h; exact h
  · rw [if_neg hc] at h; cases h
def NOwn (m : M Rv) : Prop := ∀ (st : Sto) (xs : List PyData) (st' : Sto), m st = .ok (.own xs) st' → False
theorem NOwn.dat {p : PyData} : NOwn (pure (.d p)) := fun _ _ _ h => by cases h
theorem NOwn.bad : NOwn Wk.bad := fun _ _ _ h => by cases h
theorem NOwn.ite {c : Prop} [Decidable c] {m m' : M Rv} (h1 : NOwn m) (h2 : NOwn m') : NOwn (if c then m else m') := by
  by_cases hc : c
  · rw [if_pos hc]; exact h1
  · rw [if_neg hc]; exact h2
theorem idx_own {r1 r2 : Rv} : NOwn (idxOp r1 r2) := by
  unfold idxOp
  split
  · split <;> first | exact NOwn.dat | exact NOwn.bad
  · split <;> first | exact NOwn.dat | exact NOwn.bad
  · split <;> first | exact NOwn.dat | exact NOwn.bad
  · split
    · exact NOwn.ite NOwn.dat NOwn.bad
    · exact NOwn.bad
  · exact NOwn.bad
theorem isFr_own {F : Nat → List Rv → M Rv} {a : Tm} {σ : En} {st st' : Sto} {xs : List PyData} (h : isFr a = true) (e : evE F σ a st = .ok (.own xs) st') : False := by
  cases a <;> first | (cases h; done) | skip
  case var i =>
    have e : getV σ i st = .ok (.own xs) st' := e
    unfold getV at e
    cases q : σ[i]? with
    | none => rw [q] at e; cases e
    | some o =>
      cases o with
      | none => rw [q] at e; cases e
      | some r => rw [q] at e; cases r <;> cases e
  case lit l => cases e
  case no => cases e
  case idx a i =>
    have e : (evE F σ a >>= fun x => evE F σ i >>= fun y => idxOp x y) st = .ok (.own xs) st' := e
    obtain ⟨_, _, _, e⟩ := ok_bind e
    obtain ⟨_, _, _, e⟩ := ok_bind e
    exact idx_own _ _ _ e
  case tup as =>
    have e : (evA F σ as >>= fun xs => allP xs >>= fun ps => mkT ps) st = .ok (.own xs) st' := e
    obtain ⟨_, _, _, e⟩ := ok_bind e
    obtain ⟨_, _, _, e⟩ := ok_bind e
    cases ok_pure (ok_ite e)
  case fr a =>
    have e : (evE F σ a >>= fun x => pure (frz x)) st = .ok (.own xs) st' := e
    obtain ⟨r, _, _, e⟩ := ok_bind e
    have := ok_pure e
    cases r <;> cases this
/-- a list that is locked -/
def FSt (K : PySem.W.Frag) (a : Addr) (vs : List V) (ps : List PyData) (_ : Gh) (H : Hp) : Prop := FzL K H a vs ∧ RepAll K H vs ps
theorem FSt.stays {K : PySem.W.Frag} {a : Addr} {vs : List V} {ps : List PyData} : Stays (FSt K a vs ps) := fun _ _ _ _ h s => ⟨h.1.still s, h.2.still s⟩
theorem TSt.stays {K : PySem.W.Frag} {a : Addr} {vs : List V} {ps : List PyData} : Stays (TSt K a vs ps) := fun _ _ _ _ h s => ⟨s _ _ h.1 True.intro, h.2.still s⟩
theorem Src.imp {K : PySem.W.Frag} {J : It} {ps : List PyData} {St St' : Gh → Hp → Prop} (s : Src K J ps St) (h : ∀ g H, St' g H → St g H) (hs : Stays St') : Src K J ps St' where
  go := fun g H i x => s.go g H i (h _ _ x)
  stop := fun g H i x => s.stop g H i (h _ _ x)
  yld := fun g H i x H' hi y => s.yld g H i x H' hi (h _ _ y)
  frm := fun g H g' H' x f => hs _ _ _ _ x f.still
theorem FSt.lst {K : PySem.W.Frag} {a : Addr} {vs : List V} {ps : List PyData} {g : Gh} {H : Hp} (h : FSt K a vs ps g H) : LSt K a vs ps g H := ⟨.inl h.1, h.2⟩
theorem src_listF {K : PySem.W.Frag} {a : Addr} {vs : List V} {ps : List PyData} : Src K (Itl K a) ps (FSt K a vs ps) := src_list.imp (fun _ _ h => h.lst) FSt.stays
theorem src_enumF {K : PySem.W.Frag} {a : Addr} {vs : List V} {ps : List PyData} : Src K (Ite K a) (enumL 0 ps) (FSt K a vs ps) := src_enum.imp (fun _ _ h => h.lst) FSt.stays
theorem src_zipF {K : PySem.W.Frag} {a b : Addr} {vs ws : List V} {ps qs : List PyData} : Src K (Itz K a b) (zipL ps qs) (fun g H => FSt K a vs ps g H ∧ FSt K b ws qs g H) :=
  src_zip.imp (fun _ _ h => ⟨h.1.lst, h.2.lst⟩) fun _ _ _ _ h s => ⟨FSt.stays _ _ _ _ h.1 s, FSt.stays _ _ _ _ h.2 s⟩
theorem src_zipMF {K : PySem.W.Frag} {a b : Addr} {vs ws : List V} {ps qs : List PyData} : Src K (ItzM K a b) (zipL ps qs) (fun g H => FSt K a vs ps g H ∧ TSt K b ws qs g H) :=
  src_zipM.imp (fun _ _ h => ⟨h.1.lst, h.2⟩) fun _ _ _ _ h s => ⟨FSt.stays _ _ _ _ h.1 s, TSt.stays _ _ _ _ h.2 s⟩
theorem Ent.eqn {α : Type} {m : M α} {st : Sto} {Q : α → Sto → Prop} {E : Nat → Sto → Prop} (h : Ent (m st) Q E) : Ent (m st) (fun a s => m st = .ok a s ∧ Q a s) E := by
  cases q : m st with
  | ok a s => rw [q] at h; exact ⟨rfl, h⟩
  | exc c s => rw [q] at h; exact h
  | bad => rw [q] at h; exact h
section
variable {W : Wd} {cv : Nat → Value} {T : Nat → Option Fn} {n : Nat} {N : List Str} {sc : Scope} {X : Cx} {e : Expr} {W' : WX} {tg : Expr}
/-- the reading of what is walked -/
def tI (K : PySem.W.Frag) (cv : Nat → Value) (F : Nat → List Rv → M Rv) (W : WX) (k : Ik) (a b : Tm) : TI := fun σV H R => ∃ g st σ, EnvR K g H σV σ ∧ SRep g H st ∧
  Ent ((evE F σ a >>= fun x => evE F σ b >>= fun y => walk k x y) st) (fun ps st' => ∀ g' H' J St, Frm g H g' H' → SRep g' H' st' → Src K J ps St → St g' H' → (isFrK k a b = true → Stays St) → ps.length ≤ sizeLine → R J H') (ExcK cv W g H σV)
/-- a look ahead at what an expression gives -/
theorem ent_cases {α : Type} {m : M α} {st : Sto} {Q : α → Sto → Prop} {E : Nat → Sto → Prop} (h : Ent (m st) Q E) : (∃ a st', m st = .ok a st' ∧ Q a st') ∨ (∃ c st', m st = .exc c st' ∧ E c st') := by
  cases q : m st with
  | ok a s => rw [q] at h; exact .inl ⟨a, s, rfl, h⟩
  | exc c s => rw [q] at h; exact .inr ⟨c, s, rfl, h⟩
  | bad => rw [q] at h; exact h.elim
/-- lists and tuples are not longer than the machine's line -/
def LenOk (K : PySem.W.Frag) (v : V) (H : Hp) : Prop := ∀ a, v = .ref a → (∀ vs, SqL K H a vs → vs.length ≤ sizeLine) ∧ ∀ vs, SqT K H a vs → vs.length ≤ sizeLine
theorem lenOk_of {pins : List (Addr × Obj)} {σ : L2.St} {H : Hp} {s : Shared} {v : V} (I : L2.Inv X pins σ H s) : LenOk X.K v H := fun a _ => ⟨fun vs h => let ⟨_, _, _, z⟩ := I.list h; z, fun vs h => let ⟨_, _, _, z⟩ := I.tuple h; z⟩
theorem PE.len {t : TE} (h : PE X e t) : PE X e (fun σ H Q => t σ H fun v H' => LenOk X.K v H' → Q v H') :=
  ⟨fun pins s σ H Q I hq => thn (h.run pins s σ H _ I hq) fun u s1 ⟨v, H1, I1, r, q⟩ => ⟨v, H1, I1, r, q (lenOk_of I1)⟩⟩
theorem PA.len {es : List Expr} {t : TA} (h : PA X es t) : PA X es (fun σ H Q => t σ H fun vs H' => (∀ v ∈ vs, LenOk X.K v H') → Q vs H') :=
  ⟨fun pos pins s σ H Q I hq => thn (h.run pos pins s σ H _ I hq) fun u s1 ⟨v, H1, I1, r, q⟩ => ⟨v, H1, I1, r, q fun _ _ => lenOk_of I1⟩⟩
theorem pi_seq (ha : PE X e (tE X.K cv (callF T n) W' a)) : PI X tg e (tI X.K cv (callF T n) W' .seq a .no) := by
  refine ⟨fun pins s σV H R I hq => ?_⟩
  obtain ⟨g, st, σ, hE, hS, hev⟩ := hq
  have hev : Ent ((evE (callF T n) σ a >>= fun x => items x) st) (fun ps st' => ∀ g' H' J St, Frm g H g' H' → SRep g' H' st' → Src X.K J ps St → St g' H' → (isFrK .seq a .no = true → Stays St) → ps.length ≤ sizeLine → R J H') (ExcK cv W' g H σV) := hev
  rcases ent_cases (Ent.bind hev) with ⟨r, st1, e1, h1⟩ | ⟨c, st1, e1, h1⟩
  · have go : ∀ (R' : V → Hp → Prop), (∀ v g' H', Frm g H g' H' → SRep g' H' st1 → VR X.K g' H' v r → R' v H') → tE X.K cv (callF T n) W' a σV H R' := fun R' hR => ⟨g, st, σ, hE, hS, by rw [e1]; exact fun v g' H' f s hv _ => hR v g' H' f s hv⟩
    match r, h1, go with
    | .d (.list xs), h1, go =>
      refine (pi_list (PE.len ha)).run pins s σV H R I (go _ fun v g' H' f s2 hv hl => ?_)
      obtain ⟨p, vs, rfl, h2, h3⟩ := Rep.lst_iff hv
      have z := (hl p rfl).1 vs h2.sql
      rw [h3.length] at z
      exact ⟨p, rfl, ⟨vs, h2.sql⟩, Ent.pure h1 g' H' _ _ f s2 (src_listF (vs := vs)) ⟨h2, h3⟩ (fun _ => FSt.stays) z⟩
    | .own xs, h1, go =>
      refine (pi_list (PE.len ha)).run pins s σV H R I (go _ fun v g' H' f s2 hv hl => ?_)
      obtain ⟨p, vs, rfl, h2, h4, h3⟩ := hv
      have z := (hl p rfl).1 vs (SqL.of h2)
      rw [h3.length] at z
      exact ⟨p, rfl, ⟨vs, SqL.of h2⟩, Ent.pure h1 g' H' _ _ f s2 (src_list (vs := vs)) ⟨.inr ⟨h2, h4⟩, h3⟩ (fun q => (isFr_own q e1).elim) z⟩
    | .d (.tuple xs), h1, go =>
      refine (pi_tup (PE.len ha)).run pins s σV H R I (go _ fun v g' H' f s2 hv hl => ?_)
      obtain ⟨p, vs, rfl, h2, h3⟩ := Rep.tup_iff hv
      have z := (hl p rfl).2 vs (SqT.of h2)
      rw [h3.length] at z
      exact ⟨p, rfl, ⟨vs, SqT.of h2⟩, Ent.pure h1 g' H' _ _ f s2 (src_tup (vs := vs)) ⟨h2, h3⟩ (fun _ => TSt.stays) z⟩
    | .d (.str z), h1, go =>
      refine (pi_str ha).run pins s σV H R I (go _ fun v g' H' f s2 hv => ?_)
      obtain ⟨rfl, ho⟩ := Rep.str_iff hv
      obtain ⟨hz, h1⟩ := Ent.ite h1
      exact ⟨z, rfl, Ent.pure h1 g' H' _ _ f s2 (src_str ho) True.intro (fun _ _ _ _ _ x _ => x) (by rw [List.length_map, Array.length_toList]; exact okLen_le hz)⟩
  · exact (pi_list ha).run pins s σV H R I ⟨g, st, σ, hE, hS, by rw [e1]; exact h1⟩
theorem pi_rng1 (C : Cxt W cv T n N sc X) {a : Tm} {p pos : Pos} (hg : glB sc "range" = true) (hn : notStar e = true) (ha : PE X e (tE X.K cv (callF T n) W' a)) : PI X tg (.Call (.Name "range" p) [e] [] pos) (tI X.K cv (callF T n) W' .range1 a .no) := by
  have hs := star_of (env := X.env) (es := []) hn
  refine ⟨fun pins s σV H R I hq => (pi_range1 (gl_of C hg) (C.bis _ (by decide +kernel)) (pa_cons ha pa_nil hs) hs).run pins s σV H R I ?_⟩
  obtain ⟨g, st, σ, hE, hS, hev⟩ := hq
  have hev : Ent ((evE (callF T n) σ a >>= fun x => walk .range1 x (.d .none)) st) (fun ps st' => ∀ g' H' J St, Frm g H g' H' → SRep g' H' st' → Src X.K J ps St → St g' H' → (isFrK .range1 a .no = true → Stays St) → ps.length ≤ sizeLine → R J H') (ExcK cv W' g H σV) := hev
  refine ⟨g, st, σ, hE, hS, (Ent.bind hev).mono (fun r1 st1 h1 v1 g1 H1 f1 s1 hv1 _ => ?_) fun c st1 h1 => h1⟩
  match r1, hv1, h1 with
  | .d (.int j), hv1, h1 =>
    cases Rep.int_iff hv1
    obtain ⟨z, h1⟩ := Ent.ite h1
    unfold okRange at z
    simp only [Bool.and_eq_true, decide_eq_true_eq] at z
    have z5 := okLen_le z.2
    have e0 : (j - 0).toNat = j.toNat := by rw [Int.sub_zero]
    refine ⟨j, rfl, z.1.1.2, z.1.2, ?_⟩
    have h2 := Ent.pure h1 g1 H1 _ _ f1 s1 (src_range (K := X.K) (lo := 0) (hi := j)) True.intro (fun _ _ _ _ _ x _ => x) (by simpa [rangeL] using z5)
    rw [e0] at h2
    exact h2
theorem pi_rng2 (C : Cxt W cv T n N sc X) {e2 : Expr} {a b : Tm} {p pos : Pos} (hg : glB sc "range" = true) (hn : notStar e = true) (hn2 : notStar e2 = true) (ha : PE X e (tE X.K cv (callF T n) W' a)) (hb : PE X e2 (tE X.K cv (callF T n) W' b)) :
    PI X tg (.Call (.Name "range" p) [e, e2] [] pos) (tI X.K cv (callF T n) W' .range2 a b) := by
  have hs2 := star_of (env := X.env) (es := []) hn2
  have hs1 := star_of (env := X.env) (es := [e2]) hn
  refine ⟨fun pins s σV H R I hq => (pi_range2 (gl_of C hg) (C.bis _ (by decide +kernel)) (pa_cons ha (pa_cons hb pa_nil hs2) hs1) (by rw [hs1, hs2]; rfl) hs2).run pins s σV H R I ?_⟩
  obtain ⟨g, st, σ, hE, hS, hev⟩ := hq
  refine ⟨g, st, σ, hE, hS, (Ent.bind hev).mono (fun r1 st1 h1 v1 g1 H1 f1 s1 hv1 _ => ?_) fun c st1 h1 => h1⟩
  refine ⟨g1, st1, σ, hE.mono f1, s1, (Ent.bind h1).mono (fun r2 st2 h2 v2 g2 H2 f2 s2 hv2 _ => ?_) fun c st2 h2 => ExcK.mono f1 h2⟩
  have x1 := hv1.mono f2
  match r1, r2, x1, hv2, h2 with
  | .d (.int i), .d (.int j), x1, hv2, h2 =>
    cases Rep.int_iff x1
    cases Rep.int_iff hv2
    obtain ⟨z, h2⟩ := Ent.ite h2
    unfold okRange at z
    simp only [Bool.and_eq_true, decide_eq_true_eq] at z
    have z5 := okLen_le z.2
    exact ⟨i, j, rfl, ⟨z.1.1.1.1, z.1.1.1.2, z.1.1.2, z.1.2⟩, Ent.pure h2 g2 H2 _ _ (f1.trans f2) s2 (src_range (K := X.K) (lo := i) (hi := j)) True.intro (fun _ _ _ _ _ x _ => x) (by simpa [rangeL] using z5)⟩
/-- what zip is asked of -/
theorem lstOf_get {K : PySem.W.Frag} {g : Gh} {H : Hp} {v : V} {r : Rv} {st : Sto} {α : Type} {f : Bool × List PyData → M α} {Q : α → Sto → Prop} {E : Nat → Sto → Prop} (hv : VR K g H v r) (h : Ent ((lstOf r >>= f) st) Q E) :
    ∃ k a vs ps, v = .ref a ∧ Ent (f (k, ps) st) Q E ∧ (if k = true then (H a = some (.tup vs) ∧ RepAll K H vs ps) else (LSt K a vs ps g H ∧ ((∀ xs, r ≠ .own xs) → FSt K a vs ps g H))) := by
  match r, hv, h with
  | .d (.list xs), hv, h =>
    obtain ⟨p, vs, rfl, h2, h3⟩ := Rep.lst_iff hv
    exact ⟨false, p, vs, xs, rfl, h, ⟨.inl h2, h3⟩, fun _ => ⟨h2, h3⟩⟩
  | .own xs, hv, h =>
    obtain ⟨p, vs, rfl, h2, h4, h3⟩ := hv
    exact ⟨false, p, vs, xs, rfl, h, ⟨.inr ⟨h2, h4⟩, h3⟩, fun q => absurd rfl (q xs)⟩
  | .d (.tuple xs), hv, h =>
    obtain ⟨p, vs, rfl, h2, h3⟩ := Rep.tup_iff hv
    exact ⟨true, p, vs, xs, rfl, h, ⟨h2, h3⟩⟩
theorem pi_enm (C : Cxt W cv T n N sc X) {a : Tm} {p pos tpos : Pos} {elts : List Expr} {kk : Nat} (hg : glB sc "enumerate" = true) (hn : notStar e = true) (ha : PE X e (tE X.K cv (callF T n) W' a)) :
    PI X (.Tuple elts kk tpos) (.Call (.Name "enumerate" p) [e] [] pos) (tI X.K cv (callF T n) W' .enum a .no) := by
  have hs := star_of (env := X.env) (es := []) hn
  refine ⟨fun pins s σV H R I hq => (enm_call (gl_of C hg) (C.bis _ (by decide +kernel)) (PA.len (pa_cons ha pa_nil hs)) hs).run pins s σV H R I ?_⟩
  obtain ⟨g, st, σ, hE, hS, hev⟩ := hq
  have hev : Ent ((evE (callF T n) σ a >>= fun x => lstOf x >>= fun y => pure (enumL 0 y.2)) st) (fun ps st' => ∀ g' H' J St, Frm g H g' H' → SRep g' H' st' → Src X.K J ps St → St g' H' → (isFrK .enum a .no = true → Stays St) → ps.length ≤ sizeLine → R J H') (ExcK cv W' g H σV) := hev
  refine ⟨g, st, σ, hE, hS, (Ent.eqn (Ent.bind hev)).mono (fun r1 st1 h1 v1 g1 H1 f1 s1 hv1 _ => ?_) fun c st1 h1 => h1⟩
  obtain ⟨e1, h1⟩ := h1
  intro hl
  have hl := hl v1 (by simp)
  obtain ⟨k, p1, vs, ps, rfl, h1, a1⟩ := lstOf_get hv1 h1
  refine ⟨p1, vs, rfl, ?_⟩
  cases k with
  | true =>
    rw [if_pos rfl] at a1
    have z := (hl p1 rfl).2 vs (SqT.of a1.1)
    rw [a1.2.length] at z
    exact .t (SqT.of a1.1) (Ent.pure h1 g1 H1 _ _ f1 s1 (src_enumT (vs := vs)) a1 (fun _ => TSt.stays) (by rw [enumL_len]; exact z))
  | false =>
    rw [if_neg (by decide)] at a1
    obtain ⟨a1, b1⟩ := a1
    have z := (hl p1 rfl).1 vs a1.sq
    rw [a1.2.length] at z
    refine .l a1.sq ?_
    by_cases hf : isFr a = true
    · exact Ent.pure h1 g1 H1 _ _ f1 s1 (src_enumF (vs := vs)) (b1 fun xs z => isFr_own hf (z ▸ e1)) (fun _ => FSt.stays) (by rw [enumL_len]; exact z)
    · exact Ent.pure h1 g1 H1 _ _ f1 s1 (src_enum (vs := vs)) a1 (fun q => absurd q hf) (by rw [enumL_len]; exact z)
theorem pi_zp (C : Cxt W cv T n N sc X) {e2 : Expr} {a b : Tm} {p pos tpos : Pos} {elts : List Expr} {kk : Nat} (hg : glB sc "zip" = true) (hn : notStar e = true) (hn2 : notStar e2 = true) (ha : PE X e (tE X.K cv (callF T n) W' a)) (hb : PE X e2 (tE X.K cv (callF T n) W' b)) :
    PI X (.Tuple elts kk tpos) (.Call (.Name "zip" p) [e, e2] [] pos) (tI X.K cv (callF T n) W' .zip a b) := by
  have hs2 := star_of (env := X.env) (es := []) hn2
  have hs1 := star_of (env := X.env) (es := [e2]) hn
  have hpl : (backTo pos (starEach [e2] X.env)).any (·.1) = false := stars_of (by simp [hn2])
  refine ⟨fun pins s σV H R I hq => (zip_call (gl_of C hg) (C.bis _ (by decide +kernel)) (PA.len (pa_cons ha (pa_cons hb pa_nil hs2) hs1)) hs1 hpl).run pins s σV H R I ?_⟩
  obtain ⟨g, st, σ, hE, hS, hev⟩ := hq
  refine ⟨g, st, σ, hE, hS, (Ent.eqn (Ent.bind hev)).mono (fun r1 st1 h1 v1 g1 H1 f1 s1 hv1 _ => ?_) fun c st1 h1 => h1⟩
  obtain ⟨e1, h1⟩ := h1
  refine ⟨g1, st1, σ, hE.mono f1, s1, (Ent.eqn (Ent.bind h1)).mono (fun r2 st2 h2 v2 g2 H2 f2 s2 hv2 _ => ?_) fun c st2 h2 => ExcK.mono f1 h2⟩
  obtain ⟨e2, h2⟩ := h2
  intro hl
  have l1 := hl v1 (by simp)
  have h2 : Ent ((lstOf r1 >>= fun x => lstOf r2 >>= fun y => if !x.1 || y.1 then pure (zipL x.2 y.2) else bad) st2) (fun ps st' => ∀ g' H' J St, Frm g H g' H' → SRep g' H' st' → Src X.K J ps St → St g' H' → (isFrK .zip a b = true → Stays St) → ps.length ≤ sizeLine → R J H') (ExcK cv W' g H σV) := h2
  obtain ⟨k, p1, vs, ps, rfl, h2, a1⟩ := lstOf_get (hv1.mono f2) h2
  obtain ⟨k', p2, ws, qs, rfl, h2, a2⟩ := lstOf_get hv2 h2
  obtain ⟨z, h2⟩ := Ent.ite h2
  have z : (!k || k') = true := z
  refine ⟨p1, p2, vs, ws, rfl, ?_⟩
  match k, k', z, a1, a2 with
  | true, true, _, a1, a2 =>
    rw [if_pos rfl] at a1 a2
    have z := (l1 p1 rfl).2 vs (SqT.of a1.1)
    rw [a1.2.length] at z
    exact .tt (SqT.of a1.1) (SqT.of a2.1) (Ent.pure h2 g2 H2 _ _ (f1.trans f2) s2 (src_zipT (vs := vs) (ws := ws)) ⟨a1, a2⟩ (fun _ _ _ _ _ h s => ⟨TSt.stays _ _ g _ h.1 s, TSt.stays _ _ g _ h.2 s⟩) (by rw [zipL_len]; exact Nat.le_trans (Nat.min_le_left _ _) z))
  | false, true, _, a1, a2 =>
    rw [if_neg (by decide)] at a1
    rw [if_pos rfl] at a2
    obtain ⟨a1, b1⟩ := a1
    have z := (l1 p1 rfl).1 vs a1.sq
    rw [a1.2.length] at z
    have zl : (zipL ps qs).length ≤ sizeLine := by rw [zipL_len]; exact Nat.le_trans (Nat.min_le_left _ _) z
    refine .lt a1.sq (SqT.of a2.1) ?_
    by_cases hf : isFr a = true ∧ isFr b = true
    · exact Ent.pure h2 g2 H2 _ _ (f1.trans f2) s2 (src_zipMF (vs := vs) (ws := ws)) ⟨b1 fun xs z => isFr_own hf.1 (z ▸ e1), a2⟩ (fun _ _ _ _ _ h s => ⟨FSt.stays _ _ g _ h.1 s, TSt.stays _ _ g _ h.2 s⟩) zl
    · exact Ent.pure h2 g2 H2 _ _ (f1.trans f2) s2 (src_zipM (vs := vs) (ws := ws)) ⟨a1, a2⟩ (fun x => absurd (Bool.and_eq_true_iff.mp x) hf) zl
  | false, false, _, a1, a2 =>
    rw [if_neg (by decide)] at a1 a2
    obtain ⟨a1, b1⟩ := a1
    obtain ⟨a2, b2⟩ := a2
    have z := (l1 p1 rfl).1 vs a1.sq
    rw [a1.2.length] at z
    have zl : (zipL ps qs).length ≤ sizeLine := by rw [zipL_len]; exact Nat.le_trans (Nat.min_le_left _ _) z
    refine .ll a1.sq a2.sq ?_
    by_cases hf : isFr a = true ∧ isFr b = true
    · exact Ent.pure h2 g2 H2 _ _ (f1.trans f2) s2 (src_zipF (vs := vs) (ws := ws)) ⟨b1 fun xs z => isFr_own hf.1 (z ▸ e1), b2 fun xs z => isFr_own hf.2 (z ▸ e2)⟩ (fun _ _ _ _ _ h s => ⟨FSt.stays _ _ g _ h.1 s, FSt.stays _ _ g _ h.2 s⟩) zl
    · exact Ent.pure h2 g2 H2 _ _ (f1.trans f2) s2 (src_zip (vs := vs) (ws := ws)) ⟨a1, a2⟩ (fun x => absurd (Bool.and_eq_true_iff.mp x) hf) zl
end
end Wk

end

section
set_option Elab.async false
set_option linter.all false
set_option maxRecDepth 100000
set_option maxHeartbeats 1000000
/-! Targets, comprehensions. -/
namespace Wk
open PySem PySem.Spec PyProof.Rows L2
/-- a target's reading -/
def gMany : List Nat → TGs
  | [] => gNil
  | i :: is => gCons (gName i) (gMany is)
def gTg (K : PySem.W.Frag) : Tg → TG
  | .one i => gName i
  | .many is => gTup K is.length (gMany is)
section
variable {K : PySem.W.Frag} {g g' : Gh} {H H' : Hp} {σV : L2.St} {σ : En}
/-- plain data is stored -/
theorem EnvR.set {v : V} {p : PyData} (hE : EnvR K g H σV σ) (hv : Rep K H v p) (i : Nat) : EnvR K g H (σV.set i (some v)) (setR σ i (.d p)) := by
  unfold setR
  refine ⟨hE.tb, by rw [List.length_set, List.length_set]; exact hE.len, fun j r h => ?_, fun j k xs ys a h1 h2 h3 h4 => ?_⟩
  · by_cases hj : j = i
    · subst hj
      by_cases hl : j < σ.length
      · rw [List.getElem?_set_self hl] at h
        cases h
        exact ⟨v, List.getElem?_set_self (by rw [hE.len]; exact hl), hv⟩
      · rw [List.getElem?_eq_none (by simpa using hl)] at h; cases h
    · rw [List.getElem?_set_ne (Ne.symm hj)] at h
      obtain ⟨w, e1, e2⟩ := hE.get j r h
      exact ⟨w, by rw [List.getElem?_set_ne (Ne.symm hj)]; exact e1, e2⟩
  · have nj : ∀ {m zs}, (σ.set i (some (.d p)))[m]? = some (some (.own zs)) → m ≠ i := fun {m zs} e z => by
      subst z
      by_cases hl : m < σ.length
      · rw [List.getElem?_set_self hl] at e; cases e
      · rw [List.getElem?_eq_none (by simpa using hl)] at e; cases e
    have n1 := nj h1
    have n2 := nj h2
    rw [List.getElem?_set_ne (Ne.symm n1)] at h1 h3
    rw [List.getElem?_set_ne (Ne.symm n2)] at h2 h4
    exact hE.sep j k xs ys a h1 h2 h3 h4
/-- a slot is forgotten -/
theorem EnvR.drop (hE : EnvR K g H σV σ) (i : Nat) : EnvR K g H (σV.set i none) (σ.set i none) := by
  have nj : ∀ {m r}, (σ.set i none)[m]? = some (some r) → m ≠ i := fun {m r} e z => by
    subst z
    by_cases hl : m < σ.length
    · rw [List.getElem?_set_self hl] at e; cases e
    · rw [List.getElem?_eq_none (by simpa using hl)] at e; cases e
  refine ⟨hE.tb, by rw [List.length_set, List.length_set]; exact hE.len, fun j r h => ?_, fun j k xs ys a h1 h2 h3 h4 => ?_⟩
  · have n := nj h
    rw [List.getElem?_set_ne (Ne.symm n)] at h
    obtain ⟨w, e1, e2⟩ := hE.get j r h
    exact ⟨w, by rw [List.getElem?_set_ne (Ne.symm n)]; exact e1, e2⟩
  · have n1 := nj h1
    have n2 := nj h2
    rw [List.getElem?_set_ne (Ne.symm n1)] at h1 h3
    rw [List.getElem?_set_ne (Ne.symm n2)] at h2 h4
    exact hE.sep j k xs ys a h1 h2 h3 h4
theorem EnvR.wipe (hE : EnvR K g H σV σ) : ∀ vs : List Nat, EnvR K g H (L2.wipe σV vs) (wipeR σ vs)
  | [] => hE
  | v :: vs => (EnvR.wipe hE vs).drop v
/-- what is stored at slots that are wiped is wiped with them -/
theorem wipe_get (σ : L2.St) : ∀ (vs : List Nat) (j : Nat), (L2.wipe σ vs)[j]? = if j ∈ vs ∧ j < σ.length then some none else σ[j]?
  | [], j => by simp [L2.wipe]
  | v :: vs, j => by
    unfold L2.wipe
    by_cases hj : v = j
    · subst hj
      by_cases hl : v < σ.length
      · rw [List.getElem?_set_self (by rw [wipe_length]; exact hl), if_pos ⟨List.mem_cons_self, hl⟩]
      · rw [List.getElem?_eq_none (by rw [List.length_set, wipe_length]; omega), if_neg (fun z => hl z.2), List.getElem?_eq_none (by omega)]
    · rw [List.getElem?_set_ne hj, wipe_get σ vs j]
      simp [Ne.symm hj]
theorem wipe_set (σ : L2.St) (vs : List Nat) (i : Nat) (x : Option V) (hi : i ∈ vs) : L2.wipe (σ.set i x) vs = L2.wipe σ vs := by
  apply List.ext_getElem?
  intro j
  rw [wipe_get, wipe_get, List.length_set]
  by_cases hj : j ∈ vs ∧ j < σ.length
  · rw [if_pos hj, if_pos hj]
  · rw [if_neg hj, if_neg hj]
    by_cases e : i = j
    · subst e
      have hn : ¬ i < σ.length := fun z => hj ⟨hi, z⟩
      rw [List.getElem?_eq_none (by rw [List.length_set]; exact Nat.le_of_not_lt hn), List.getElem?_eq_none (Nat.le_of_not_lt hn)]
    · rw [List.getElem?_set_ne e]
theorem wipe_wipe (σ : L2.St) (vs : List Nat) : L2.wipe (L2.wipe σ vs) vs = L2.wipe σ vs := by
  apply List.ext_getElem?
  intro j
  rw [wipe_get, wipe_get, wipe_length]
  split <;> rfl
theorem gMany_okP {P : L2.St → En → Prop} (hP : ∀ (σV : L2.St) (σ : En) (i : Nat) (v : V) (p : PyData), P σV σ → Rep K H v p → P (σV.set i (some v)) (setR σ i (.d p))) {st : Sto} : ∀ {is : List Nat} {vs : List V} {ps : List PyData} {σV : L2.St} {σ : En} {Q : L2.St → Hp → Prop} {R : En → Sto → Prop} {E : Nat → Sto → Prop}, P σV σ → RepAll K H vs ps → Ent (setAll σ is ps st) R E →
    (∀ σV2 σ2, P σV2 σ2 → (∀ vs : List Nat, (∀ i ∈ is, i ∈ vs) → L2.wipe σV2 vs = L2.wipe σV vs) → R σ2 st → Q σV2 H) → gMany is vs σV H Q
  | [], _, _, σV, σ, Q, R, E, hE, .nil, h, k => ⟨rfl, k σV σ hE (fun _ _ => rfl) h⟩
  | [], _, _, σV, σ, Q, R, E, hE, .cons _ _, h, k => h.elim
  | i :: is, _, _, σV, σ, Q, R, E, hE, .nil, h, k => h.elim
  | i :: is, _, _, σV, σ, Q, R, E, hE, .cons (v := v) (vs := vs) a r, h, k => by
    refine ⟨v, vs, rfl, ?_⟩
    refine gMany_okP hP (hP _ _ i _ _ hE a) r h fun σV2 σ2 e1 e2 e3 => k σV2 σ2 e1 (fun us hu => ?_) e3
    rw [e2 us fun j hj => hu j (List.mem_cons_of_mem _ hj), wipe_set _ _ _ _ (hu i List.mem_cons_self)]
def Tg.slots : Tg → List Nat
  | .one i => [i]
  | .many is => is
theorem gTg_okP {P : L2.St → En → Prop} (hP : ∀ (σV : L2.St) (σ : En) (i : Nat) (v : V) (p : PyData), P σV σ → Rep K H v p → P (σV.set i (some v)) (setR σ i (.d p))) {st : Sto} {t : Tg} {x : V} {p : PyData} {Q : L2.St → Hp → Prop} {R : En → Sto → Prop} {E : Nat → Sto → Prop} (hE : P σV σ) (hx : Rep K H x p) (h : Ent (bindTg t p σ st) R E)
    (k : ∀ σV2 σ2, P σV2 σ2 → (∀ vs : List Nat, (∀ i ∈ t.slots, i ∈ vs) → L2.wipe σV2 vs = L2.wipe σV vs) → R σ2 st → Q σV2 H) : gTg K t x σV H Q := by
  cases t with
  | one i => exact k _ _ (hP _ _ i _ _ hE hx) (fun vs hv => wipe_set _ _ _ _ (hv i (by simp [Tg.slots]))) h
  | many is =>
    cases p with
    | tuple ps =>
      obtain ⟨a, vs, rfl, h1, h2⟩ := Rep.tup_iff hx
      have hl : vs.length = is.length := by
        have : ∀ {is : List Nat} {ps : List PyData} {σ : En}, Ent (setAll σ is ps st) R E → ps.length = is.length := by
          intro is
          induction is with
          | nil => intro ps σ h; cases ps with | nil => rfl | cons _ _ => exact h.elim
          | cons i is ih => intro ps σ h; cases ps with | nil => exact h.elim | cons q ps => simp [ih (show Ent (setAll (setR σ i (.d q)) is ps st) R E from h)]
        rw [h2.length]
        exact this (show Ent (setAll σ is ps st) R E from h)
      exact ⟨a, vs, rfl, SqT.of h1, hl, gMany_okP hP hE h2 (show Ent (setAll σ is ps st) R E from h) k⟩
    | _ => exact h.elim
theorem gTg_ok {st : Sto} {t : Tg} {x : V} {p : PyData} {Q : L2.St → Hp → Prop} {R : En → Sto → Prop} {E : Nat → Sto → Prop} (hE : EnvR K g H σV σ) (hx : Rep K H x p) (h : Ent (bindTg t p σ st) R E)
    (k : ∀ σV2 σ2, EnvR K g H σV2 σ2 → (∀ vs : List Nat, (∀ i ∈ t.slots, i ∈ vs) → L2.wipe σV2 vs = L2.wipe σV vs) → R σ2 st → Q σV2 H) : gTg K t x σV H Q :=
  gTg_okP (P := EnvR K g H) (fun _ _ i _ _ h hv => h.set hv i) hE hx h k
end
section
variable {W : Wd} {cv : Nat → Value} {T : Nat → Option Fn} {n : Nat} {N : List Str} {sc : Scope} {X : Cx} {e : Expr} {W' : WX}
/-- targets in the text: the names are the block's own (or the def's) locals -/
theorem pgs_of {c : Str → Bool} {Y : Cx} (hfn : ∀ x, c x = true → Y.fn x = true) (hN : Y.N = N) (nd : N.Nodup) (hsc : Y.env.scope = sc) : ∀ {is : List Nat} {es : List Expr}, tgsB c N sc is es = true → PGs Y es (gMany is)
  | [], [], _ => pgs_nil
  | [], _ :: _, h => by cases h
  | _ :: _, [], h => by cases h
  | i :: is, e :: es, h => by
    have h : (tgB c N sc (.one i) e && tgsB c N sc is es) = true := h
    simp only [Bool.and_eq_true] at h
    obtain ⟨h1, h2⟩ := h
    cases e with
    | Name x pos =>
      have h1 : (decide (N[i]? = some x) && (decide (sc.names.lookup x = some .local) || (c x && decide (sc.names.lookup x = some .cell)))) = true := h1
      simp only [Bool.and_eq_true, Bool.or_eq_true, decide_eq_true_eq] at h1
      obtain ⟨h0, h1 | ⟨hc, h1⟩⟩ := h1
      · exact pgs_cons (pg_name (by rw [hN]; exact nd) (by rw [hN]; exact h0) (.inl (by rw [hsc]; exact h1)) (.inr (by rw [hsc]; exact h1))) (pgs_of hfn hN nd hsc h2)
      · exact pgs_cons (pg_name (by rw [hN]; exact nd) (by rw [hN]; exact h0) (.inr (by rw [hsc]; exact h1)) (.inl (hfn x hc))) (pgs_of hfn hN nd hsc h2)
    | _ => cases h1
theorem assign_len (es : List Expr) (env : Env) : (assignEach es env).length = es.length := by
  induction es with
  | nil => rfl
  | cons e es ih => cases e <;> simp [assignEach, ih]
theorem assign_star (env : Env) : ∀ {es : List Expr}, es.all notStar = true → (assignEach es env).findIdx? (·.1) = none
  | [], _ => rfl
  | e :: es, h => by
    simp only [List.all_cons, Bool.and_eq_true] at h
    have ih := assign_star env h.2
    cases e <;> first | (cases h.1; done) | (simp only [assignEach, List.findIdx?_cons]; simp [ih])

theorem pg_of {c : Str → Bool} {Y : Cx} (hfn : ∀ x, c x = true → Y.fn x = true) (hc : Y.calm = true) (hN : Y.N = N) (nd : N.Nodup) (hsc : Y.env.scope = sc) {t : Tg} {e : Expr} (h : tgAll c N sc t e = true) : PG Y e (gTg Y.K t) := by
  cases t with
  | one i =>
    have h : tgB c N sc (.one i) e = true := h
    cases e with
    | Name x pos =>
      have h1 : (decide (N[i]? = some x) && (decide (sc.names.lookup x = some .local) || (c x && decide (sc.names.lookup x = some .cell)))) = true := h
      simp only [Bool.and_eq_true, Bool.or_eq_true, decide_eq_true_eq] at h1
      obtain ⟨h0, h1 | ⟨hc, h1⟩⟩ := h1
      · exact pg_name (by rw [hN]; exact nd) (by rw [hN]; exact h0) (.inl (by rw [hsc]; exact h1)) (.inr (by rw [hsc]; exact h1))
      · exact pg_name (by rw [hN]; exact nd) (by rw [hN]; exact h0) (.inr (by rw [hsc]; exact h1)) (.inl (hfn x hc))
    | _ => cases h
  | many is =>
    cases e with
    | Tuple es k pos =>
      have h : (tgsB c N sc is es && decide (is.length = es.length) && es.all notStar && decide (2 ≤ is.length)) = true := h
      simp only [Bool.and_eq_true, decide_eq_true_eq] at h
      obtain ⟨⟨⟨h1, h2⟩, h3⟩, _⟩ := h
      exact pg_tup hc (pgs_of hfn hN nd hsc h1) (by rw [assign_len, h2]) (assign_star _ h3)
    | _ => cases h
theorem Cxt.blk (C : Cxt W cv T n N sc X) (s : Shared) (H : Hp) (scope : Scope) (Cc : Addr) (cl : List (Str × Addr)) (fp : List Addr) : Cxt W cv T n N (relS scope sc) (X.blk s H scope (compEnvC scope cl Cc X.env) fp) where
  hN := C.hN
  nd := C.nd
  hsc := by rw [← C.hsc]; rfl
  calm := C.calm
  roomH := C.roomH
  hd := C.hd
  fns := C.fns
  cns := C.cns
  bis := C.bis
  kits := C.kits
  cks := C.cks
  tries := C.tries
  tolds := C.tolds
  lam := fun z => let L := C.lam z; ⟨L.tab, L.qual, L.room⟩
  cls := C.cls
/-- the turn's test -/
def tCond (K : PySem.W.Frag) (cv : Nat → Value) (F : Nat → List Rv → M Rv) (c : Tm) : TT := tT K cv F (fun _ _ _ _ => False) c
theorem pts_none {Y : Cx} : PTs Y [] (tCond Y.K cv (callF T n) (.lit (.bl true))) := by
  refine ⟨fun pins s σ H Q I h => pts_nil.run pins s σ H Q I ?_⟩
  obtain ⟨g, st, σ', hE, hS, hev⟩ := h
  exact hev g H .refl hS
theorem comp_turns {f : PyData → M (Option PyData)} {x : PyData} {xs : List PyData} {st : Sto} {Q : List PyData → Sto → Prop} {E : Nat → Sto → Prop} (h : Ent (compM f (x :: xs) st) Q E) :
    Ent (f x st) (fun o st2 => Ent (compM f xs st2) (fun r st3 => Q (match o with | some p => p :: r | none => r) st3) E) E := by
  have h : Ent ((f x >>= fun o => compM f xs >>= fun r => pure (match o with | some p => p :: r | none => r)) st) Q E := h
  refine (Ent.bind h).mono (fun o st2 h2 => ?_) fun _ _ z => z
  exact (Ent.bind h2).mono (fun r st3 h3 => h3) fun _ _ z => z
theorem Frm.updNew {K : PySem.W.Frag} {g g1 : Gh} {H H1 : Hp} {a : Addr} {vs ws : List V} (f : Frm g H g1 H1) (hn : H a = none) (ha : H1 a = some (.lst vs)) : Frm g H g1 (upd H1 a (.lst ws)) where
  keep := fun c u e n t => by rw [upd_ne (ne_of_none e hn)]; exact f.keep c u e n t
  tb := f.tb
  still := f.still.trans (Still.upd fun u e s => by rw [ha] at e; cases e; exact s)
  new := f.new
  pa := f.pa
  live := fun c e => by
    by_cases hc : c = a
    · subst hc; exact hn
    · rw [upd_ne hc] at e; exact f.live c e
/-- one turn of a comprehension -/
def compF (F : Nat → List Rv → M Rv) (σ : En) (own : List Nat) (t : Tg) (cond te : Tm) : PyData → M (Option PyData) := fun p => quiet (do
      let σ2 ← bindTg t p (wipeR σ own)
      let c ← evE F σ2 cond
      let t ← toB c
      if t then do
        let z ← evE F σ2 te
        let q ← toP z
        pure (some q)
      else pure none)
theorem compF_ent {F : Nat → List Rv → M Rv} {σ : En} {own : List Nat} {t : Tg} {cond te : Tm} {p : PyData} {st : Sto} {Q : Option PyData → Sto → Prop} {E : Nat → Sto → Prop} (h : Ent (compF F σ own t cond te p st) Q E) :
    Ent ((bindTg t p (wipeR σ own) >>= fun σ2 => evE F σ2 cond >>= fun c => toB c >>= fun t => if t then (evE F σ2 te >>= fun z => toP z >>= fun q => pure (some q)) else pure none) st) Q (fun _ _ => False) := Ent.quiet h
theorem evE_comp (F : Nat → List Rv → M Rv) (σ : En) (te a b cond : Tm) (t : Tg) (k : Ik) (own : List Nat) :
    evE F σ (.comp te t k a b own cond) = ((evE F σ a >>= fun x => evE F σ b >>= fun y => walk k x y) >>= fun xs => compM (compF F σ own t cond te) xs >>= fun ys => pure (.own ys)) := by
  have h : evE F σ (.comp te t k a b own cond) = (evE F σ a >>= fun x => evE F σ b >>= fun y => walk k x y >>= fun xs => compM (compF F σ own t cond te) xs >>= fun ys => pure (Rv.own ys)) := by rw [evE]; rfl
  rw [h]; simp only [bind_assoc']
theorem NoX.quiet {α : Type} {m : M α} : NoX (quiet m) := by
  intro st Q E h
  unfold Wk.quiet at h ⊢
  cases q : m st with
  | ok a s' => rw [q] at h; exact h
  | exc c s' => rw [q] at h; exact h.elim
  | bad => rw [q] at h; exact h.elim
theorem lc_read {te a b cond : Tm} {t : Tg} {k : Ik} {own : List Nat} (hto : ∀ i ∈ t.slots, i ∈ own) (hfr : fresh te = true) {σV : L2.St} {H : Hp} {Q : VK} (hq : tE X.K cv (callF T n) W' (.comp te t k a b own cond) σV H Q) :
    tLc (tI X.K cv (callF T n) W' k a b) (gTg X.K t) (tCond X.K cv (callF T n) cond) (fun σ H Q => tE X.K cv (callF T n) (fun _ _ _ _ => False) te σ H (FzV Q)) own σV H Q := by
  obtain ⟨g, st, σ, hE, hS, hev⟩ := hq
  rw [evE_comp] at hev
  generalize hf : compF (callF T n) σ own t cond te = f at hev
  refine ⟨g, st, σ, hE, hS, (Ent.bind hev).mono (fun ps st1 h1 g1 H1 J St f1 s1 src hst _ hlen D hD => ?_) fun c st1 h1 => h1⟩
  have nX : ∀ p, NoX (f p) := fun p => by rw [← hf]; exact NoX.quiet
  have nC : ∀ xs, NoX (compM f xs) := fun xs => by
    induction xs with
    | nil => exact NoX.pure
    | cons x xs ih => exact NoX.bind (nX x) fun o => NoX.bind ih fun r => NoX.pure
  have h1 := nC ps (Ent.bind h1)
  have h1 : Ent (compM f ps st1) (fun r st3 => Fin1 X.K g H true Q (.own r) st3) NoE := h1.mono (fun r st3 q => Ent.pure q) fun _ _ z => z
  refine ⟨fun i m H' => m = ps.length - i ∧ i ≤ ps.length ∧ ∃ g' st' acc vacc, Frm g1 H1 g' H' ∧ SRep g' H' st' ∧ H' D = some (.lst vacc) ∧ D ∉ g'.fa ∧ RepAll X.K H' vacc acc ∧ acc.length ≤ i ∧
    Ent (compM f (ps.drop i) st') (fun r st3 => Fin1 X.K g H true Q (.own (acc ++ r)) st3) NoE, ⟨ps.length, by simp, Nat.zero_le _, g1, st1, [], [], .fresh hD, s1.fresh hD, upd_same, s1.nfa hD, .nil, Nat.le_refl _, by simpa using h1⟩, ?_⟩
  rintro i m H' ⟨rfl, hi2, g2, st2, acc, vacc, f2, s2, hDl, hDf, hr, hal, hcm⟩
  have hst2 := src.frm _ _ _ _ hst f2
  by_cases hlt : i < ps.length
  · refine .inr ⟨src.go _ _ _ hst2 hlt, fun H'' => ∃ m', m' < ps.length - i ∧ (m' = ps.length - (i + 1) ∧ i + 1 ≤ ps.length ∧ ∃ g' st' acc vacc, Frm g1 H1 g' H'' ∧ SRep g' H'' st' ∧ H'' D = some (.lst vacc) ∧ D ∉ g'.fa ∧ RepAll X.K H'' vacc acc ∧ acc.length ≤ i + 1 ∧
      Ent (compM f (ps.drop (i + 1)) st') (fun r st3 => Fin1 X.K g H true Q (.own (acc ++ r)) st3) NoE), fun H'' h => h, fun x H3 hy => ?_⟩
    obtain ⟨p, hp, hxp, hH3⟩ := src.yld _ _ _ _ _ hlt hst2 hy
    have f3 : Frm g2 H' g2 H3 := by
      rcases hH3 with rfl | ⟨t', o, hn, rfl⟩
      · exact .refl
      · exact .fresh hn
    have s3 : SRep g2 H3 st2 := by
      rcases hH3 with rfl | ⟨t', o, hn, rfl⟩
      · exact s2
      · exact s2.fresh hn
    rw [List.drop_eq_getElem_cons hlt] at hcm
    have ep : ps[i] = p := by rw [List.getElem?_eq_getElem hlt] at hp; exact Option.some.inj hp
    rw [ep] at hcm
    have hcm := comp_turns hcm
    have hcm : Ent (compF (callF T n) σ own t cond te p st2) (fun o st2 => Ent (compM f (ps.drop (i + 1)) st2) (fun r st3 => Fin1 X.K g H true Q (.own (acc ++ match o with | some p => p :: r | none => r)) st3) NoE) NoE := by rw [hf]; exact hcm
    have hcm := compF_ent hcm
    have f13 := f2.trans f3
    have hEw := (hE.mono (f1.trans f13)).wipe own
    refine gTg_ok hEw hxp (Ent.bind hcm) fun σV2 σ2 hE2 hw h4 => ⟨by rw [hw own hto, wipe_wipe], ?_⟩
    have h4' : Ent (((evE (callF T n) σ2 cond >>= toB) >>= fun t => if t then (evE (callF T n) σ2 te >>= fun z => toP z >>= fun q => pure (some q)) else pure none) st2) (fun o st2 => Ent (compM f (ps.drop (i + 1)) st2) (fun r st3 => Fin1 X.K g H true Q (.own (acc ++ match o with | some p => p :: r | none => r)) st3) NoE) (fun _ _ => False) := by
      rw [bind_assoc']; exact h4
    refine ⟨g2, st2, σ2, hE2, s3, (Ent.bind h4').mono (fun t st4 h5 g4 H4 f4 s4 => ?_) fun c st4 z => z.elim⟩
    have hD4 : H4 D = some (.lst vacc) := f4.keep _ _ (f3.keep _ _ hDl hDf (fun _ z => nomatch z)) hDf (fun _ z => nomatch z)
    have hDf4 : D ∉ g4.fa := fun z => by
      rcases f4.new D z with q | q
      · exact hDf q
      · rw [f3.keep _ _ hDl hDf (fun _ z => nomatch z)] at q; cases q
    cases t with
    | false =>
      rw [if_neg (by decide)] at h5
      show if false = true then _ else _
      rw [if_neg (by decide)]
      exact ⟨_, by omega, rfl, hlt, g4, st4, acc, vacc, f13.trans f4, s4, hD4, hDf4, hr.still (f3.trans f4).still, Nat.le_succ_of_le hal, Ent.pure h5⟩
    | true =>
      rw [if_pos rfl] at h5
      show if true = true then _ else _
      rw [if_pos rfl]
      refine ⟨g4, st4, σ2, hE2.mono f4, s4, (Ent.bind h5).mono (fun z st5 h6 y g5 H5 f5 s5 hv5 hf5 => ?_) fun c st5 z => z.elim⟩
      rw [hfr] at hf5
      refine freeze_new (K := X.K) f5 s5 hv5 (hf5 rfl) fun H6 f6 s6 hv6 => ?_
      have hz : ∃ q, Rep X.K H6 y q ∧ Ent (compM f (ps.drop (i + 1)) st5) (fun r st3 => Fin1 X.K g H true Q (.own (acc ++ (q :: r))) st3) NoE := by
        cases z with
        | d q => exact ⟨q, hv6, Ent.pure h6⟩
        | own q => exact ⟨.list q, hv6, Ent.pure h6⟩
        | exc c => exact h6.elim
        | obj n => exact h6.elim
      obtain ⟨q, hq1, hq2⟩ := hz
      have hD6 : H6 D = some (.lst vacc) := f6.keep _ _ hD4 hDf4 (fun _ z => nomatch z)
      have hDf6 : D ∉ g5.fa := fun z => by
        rcases f6.new D z with q | q
        · exact hDf4 q
        · rw [hD4] at q; cases q
      have nS : ∀ u, H6 D = some u → ¬ Fix u := fun u e s => by rw [hD6] at e; cases e; exact s
      have f16 := (f13.trans f4).trans f6
      refine ⟨vacc, hD6, ?_, _, by omega, rfl, hlt, g5, st5, acc ++ [q], vacc ++ [y], f16.updNew (K := X.K) hD hD6, s6.upd hDf6 nS, upd_same, hDf6, ?_, by rw [List.length_append]; simp; omega, by simpa using hq2⟩
      · rw [hr.length]; omega
      · exact (((hr.still ((f3.trans f4).trans f6).still).append (.cons hq1 .nil)).still (Still.upd nS))
  · have e : i = ps.length := by omega
    rw [e, List.drop_length] at hcm
    have hfin : Fin1 X.K g H true Q (.own (acc ++ [])) st2 := hcm
    rw [List.append_nil] at hfin
    refine .inl ⟨src.stop _ _ _ hst2 e, hfin (.ref D) g2 H' (f1.trans f2) s2 ⟨D, vacc, rfl, hDl, hDf, hr⟩ fun _ xs a _ ea => ?_⟩
    cases ea
    exact f1.live _ hD
/-- the parts of a comprehension -/
structure CompP (W : Wd) (cv : Nat → Value) (T : Nat → Option Fn) (n : Nat) (N : List Str) (sc : Scope) (X : Cx) (W' : WX) (te a b cond : Tm) (t : Tg) (k : Ik) (own : List Nat) (elt tg it : Expr) (ifs : List Expr) (scope : Scope) : Prop where
  ok : BlkOk X.N X.env.scope scope (ownOk N own)
  pg : ∀ (s : Shared) (H : Hp) (Cc : Addr) (cl : List (Str × Addr)) (fp : List Addr), PG (X.blk s H scope (compEnvC scope cl Cc X.env) fp) tg (gTg X.K t)
  ifs : ∀ (s : Shared) (H : Hp) (Cc : Addr) (cl : List (Str × Addr)) (fp : List Addr), PTs (X.blk s H scope (compEnvC scope cl Cc X.env) fp) ifs (tCond X.K cv (callF T n) cond)
  elt : ∀ (s : Shared) (H : Hp) (Cc : Addr) (cl : List (Str × Addr)) (fp : List Addr), PE (X.blk s H scope (compEnvC scope cl Cc X.env) fp) elt (fun σ H Q => tE X.K cv (callF T n) (fun _ _ _ _ => False) te σ H (FzV Q))
  pi : PI X tg it (tI X.K cv (callF T n) W' k a b)
  set : ∀ x, foldedSetIterable it X.env x = pure x
  mem : ∀ i ∈ t.slots, i ∈ own
  fr : fresh te = true
  hot : W.hot = false
theorem ownOk_snd : ∀ (own : List Nat), (ownOk N own).map (·.2) = own
  | [] => rfl
  | i :: is => by show i :: (ownOk N is).map (·.2) = _; rw [ownOk_snd]
theorem compP (C : Cxt W cv T n N sc X) (hh : W.hot = false) {elt tg it : Expr} {ifs : List Expr} {scope : Scope} {te a b cond : Tm} {t : Tg} {k : Ik} {own : List Nat}
    (hb : blkC N sc scope (ownOk N own) = true) (ht : tgAll (fun x => scope.names.lookup x == some .cell) N (relS scope sc) t tg = true) (hto : ∀ i ∈ t.slots, i ∈ own) (hs : notSet it = true) (hfr : fresh te = true) (hi : PI X tg it (tI X.K cv (callF T n) W' k a b))
    (he : ∀ (s : Shared) (H : Hp) (Cc : Addr) (cl : List (Str × Addr)) (fp : List Addr), PE (X.blk s H scope (compEnvC scope cl Cc X.env) fp) elt (tE X.K cv (callF T n) (fun _ _ _ _ => False) te))
    (hc : ∀ (s : Shared) (H : Hp) (Cc : Addr) (cl : List (Str × Addr)) (fp : List Addr), PTs (X.blk s H scope (compEnvC scope cl Cc X.env) fp) ifs (tCond X.K cv (callF T n) cond)) :
    CompP W cv T n N sc X W' te a b cond t k own elt tg it ifs scope where
  ok := by rw [C.hN, C.hsc]; exact blkOk_by hb
  pg := fun s H Cc cl fp => pg_of (c := fun x => scope.names.lookup x == some .cell) (fun _ z => z) (Y := X.blk s H scope (compEnvC scope cl Cc X.env) fp) (C.calm hh) C.hN C.nd (C.blk s H scope Cc cl fp).hsc ht
  ifs := hc
  elt := fun s H Cc cl fp => PE.fz (he s H Cc cl fp)
  pi := hi
  set := by intro x; cases it <;> first | rfl | cases hs
  mem := hto
  fr := hfr
  hot := hh
theorem CompP.pe (C : Cxt W cv T n N sc X) {elt tg it : Expr} {ifs : List Expr} {scope : Scope} {pos : Pos} {te a b cond : Tm} {t : Tg} {k : Ik} {own : List Nat} (P : CompP W cv T n N sc X W' te a b cond t k own elt tg it ifs scope) :
    PE X (.ListComp elt [⟨tg, it, ifs, 0⟩] scope pos) (tE X.K cv (callF T n) W' (.comp te t k a b own cond)) := by
  refine PE.mono (pe_lc (C.calm P.hot) (by rw [C.hN]; exact C.nd) P.pi P.ok P.pg P.ifs P.elt P.set) fun σV H Q hq => ?_
  rw [ownOk_snd]
  exact lc_read P.mem P.fr hq
end
end Wk

end

section
set_option Elab.async false
set_option linter.all false
set_option maxRecDepth 100000
set_option maxHeartbeats 1000000
/-! Methods. -/
namespace Wk
open PySem PySem.Spec PyProof.Rows L2
theorem strsOf_eq : ∀ {ps : List PyData} {ss : List Str}, strsOf ps = some ss → ps = ss.map .str
  | [], _, h => by cases h; rfl
  | .str s :: ps, ss, h => by
    simp only [strsOf] at h
    cases q : strsOf ps with
    | none => rw [q] at h; cases h
    | some r => rw [q] at h; cases h; rw [strsOf_eq q]; rfl
  | .int _ :: _, _, h => by cases h
  | .none :: _, _, h => by cases h
  | .bool _ :: _, _, h => by cases h
  | .list _ :: _, _, h => by cases h
  | .tuple _ :: _, _, h => by cases h
  | .dict _ :: _, _, h => by cases h
theorem strOk_join {a : Str} (ha : PyData.strOk a = true) : ∀ {ss : List Str}, (∀ s ∈ ss, PyData.strOk s = true) → PyData.strOk (Str.join a ss) = true
  | [], _ => by
    show PyData.strOk Str.empty = true
    unfold PyData.strOk Str.empty
    simp
  | [x], h => h x (by simp)
  | x :: z :: r, h => by
    show PyData.strOk (x ++ a ++ Str.join a (z :: r)) = true
    exact strOk_append (strOk_append (h x (by simp)) ha) (strOk_join ha fun s hs => h s (List.mem_cons_of_mem _ hs))
theorem join_eq (a : Str) (ss : List Str) : Txt.join a ss = Str.join a ss := beq_iff_eq.mp (join_plain_closes a ss)
/-- l.count(x), over data -/
def rCntD (K : PySem.W.Frag) : V → List V → Hp → VK → Prop := fun x xs H Q => ∃ (a : Addr) (y : V) (d : PyData) (ds : List PyData), x = V.ref a ∧ xs = [y] ∧ Dp K H (V.ref a) (.list ds) ∧ Dp K H y d ∧
  SeqAt.shaped (.list ds) = true ∧ SeqAt.shaped d = true ∧ Q (.int ((ds.countP fun z => PyData.eqv z d : Nat) : Int)) H
theorem mt_countD {X : Cx} (hu : X.A.units + 65 < cLine) : MtR X "list.count" (rCntD X.K) := by
  intro pins s σ H x xs v us Q I rx rxs h
  obtain ⟨a, y, d, ds, rfl, rfl, hl, hy, sl, sd, q⟩ := h
  cases rx
  cases rxs with
  | cons ry rt =>
    rename_i uy ut
    cases rt
    obtain ⟨bs, r1⟩ := Dp.reads I d y uy hy ry
    have hxs : PyData.canLayAll0 ds = true := SeqAt.canLay_of_shaped sl
    have hroom : X.A.units + 1 + min (PyData.depthAll ds) d.depth < cLine := room_in_shaped sd hu
    cases hl with
    | lst hs ha =>
      obtain ⟨its, rv, ⟨⟨cls, dd, data, sls⟩, n, ho, hc, hdn, hdt⟩, hlen⟩ := I.list hs
      simp only at hc hdt
      subst hc hdt
      obtain ⟨as, h4⟩ := Dp.readsAll I ds _ its ha rv
      have hmap : its.map (SeqAt.readOf s.heap) = ds := SeqAt.readsAll_map ds its as hxs h4
      refine call_meets PySem.F.slot_list_count ⟨_, ho, rfl⟩ PySem.F.entry_list_count (PySem.F.args_list_count_2 _ _)
        (SeqAt.list_countAt a its.toArray n dd sls uy (fun u => PyData.eqv (SeqAt.readOf s.heap u) d)) ⟨ho, SeqAt.items_eqAt (vs := its.toArray) (show ReadsAll s.heap its.toArray.toList ds as from h4) r1 hxs (SeqAt.canLay_of_shaped sd) hroom, ?_⟩
      have ec : its.toArray.toList.countP (fun u => PyData.eqv (SeqAt.readOf s.heap u) d) = ds.countP fun z => PyData.eqv z d := by
        rw [← hmap, List.countP_map]; rfl
      refine ⟨.int ((ds.countP fun z => PyData.eqv z d : Nat) : Int), H, I.tok _, ⟨s.toks, ?_⟩, q⟩
      rw [ec]
/-- what a list, a tuple is asked of -/
theorem seq_get {K : PySem.W.Frag} {g : Gh} {H : Hp} {v : V} {r : Rv} {st : Sto} {α : Type} {f : List PyData → M α} {Q : α → Sto → Prop} {E : Nat → Sto → Prop} (hv : VR K g H v r) (h : Ent ((seqOf r >>= f) st) Q E) :
    ∃ a vs ps, v = .ref a ∧ Ent (f ps st) Q E ∧ RepAll K H vs ps ∧ (SqL K H a vs ∨ SqT K H a vs) := by
  match r, hv, h with
  | .d (.list xs), hv, h =>
    obtain ⟨p, vs, rfl, h2, h3⟩ := Rep.lst_iff hv
    exact ⟨p, vs, xs, rfl, h, h3, .inl h2.sql⟩
  | .own xs, hv, h =>
    obtain ⟨p, vs, rfl, h2, h4, h3⟩ := hv
    exact ⟨p, vs, xs, rfl, h, h3, .inl (SqL.of h2)⟩
  | .d (.tuple xs), hv, h =>
    obtain ⟨p, vs, rfl, h2, h3⟩ := Rep.tup_iff hv
    exact ⟨p, vs, xs, rfl, h, h3, .inr (SqT.of h2)⟩
section
variable {W : Wd} {cv : Nat → Value} {T : Nat → Option Fn} {n : Nat} {N : List Str} {sc : Scope} {X : Cx} {W' : WX}
theorem meth_read {T1 : String} {r : V → List V → Hp → VK → Prop} {m : Me} {o : Tm} {as : Tms} {σV : L2.St} {H : Hp} {Q : VK}
    (hc : ∀ g H v rv st, VR X.K g H v rv → Ent (meChk m rv st) (fun _ _ => True) NoE → tyV X.K T1 v H)
    (hm : ∀ g H v rv vs rs st, SRep g H st → VR X.K g H v rv → VRs X.K g H vs rs → Ent (meOp m rv rs st) (Fin1 X.K g H true Q) NoE → r v vs H Q)
    (hq : tE X.K cv (callF T n) W' (.meth m o as) σV H Q) : tBM X.K T1 r (tE X.K cv (callF T n) W' o) (tB' X.K cv (callF T n) W' as) σV H Q := by
  obtain ⟨g, st, σ, hE, hS, hev⟩ := hq
  have hev : Ent ((evE (callF T n) σ o >>= fun x => meChk m x >>= fun _ => evB (callF T n) σ as >>= fun xs => meOp m x xs) st) (Fin1 X.K g H true Q) (ExcK cv W' g H σV) := hev
  refine ⟨g, st, σ, hE, hS, (Ent.bind hev).mono (fun rv st1 h1 v1 g1 H1 f1 s1 hv1 _ => ?_) fun c st1 h1 => h1⟩
  have nc : NoX (meChk m rv) := by unfold meChk; split <;> first | exact NoX.pure | exact NoX.bad
  have kc : Keeps (meChk m rv) := by unfold meChk; split <;> first | exact Keeps.pure | exact Keeps.bad
  obtain ⟨_, e1, h2⟩ := Keeps.ent kc nc (Ent.bind h1)
  refine ⟨hc g1 H1 v1 rv st1 hv1 (by rw [e1]; exact True.intro), ?_⟩
  refine ⟨g1, st1, σ, hE.mono f1, s1, (Ent.bind h2).mono (fun rs st2 h3 vs g3 H3 f3 s3 hvs => ?_) fun c st2 h3 => ExcK.mono f1 h3⟩
  exact hm g3 H3 v1 rv vs rs st2 s3 (hv1.mono f3) hvs ((NoX.meOp h3).mono (fun _ _ q => Fin1.mono (f1.trans f3) q) fun _ _ q => q)
theorem snd_meth (C : Cxt W cv T n N sc X) {m : Me} {o : Tm} {as : Tms} {ob e1 : Expr} {apos cpos : Pos} (h0 : me0 m = true) (hl : (apos.endLine == cpos.line) = true) (hp : plainO ob = true) (hn : notStar e1 = true)
    (ho : PE X ob (tE X.K cv (callF T n) W' o)) (ha : PA X [e1] (tB' X.K cv (callF T n) W' as)) : PE X (.Call (.Attribute ob (meName m) apos) [e1] [] cpos) (tE X.K cv (callF T n) W' (.meth m o as)) := by
  have hs := star_of (env := X.env) (es := []) hn
  cases m with
  | join =>
    refine PE.mono (pe_bm (apos := apos) (cpos := cpos) (name := "join") PySem.F.plainAttrs_str PySem.F.slot_str_join PySem.F.type_str_join mt_join ho ha (base_of hp) (by rw [hs]; rfl) hl hs rfl) fun σV H Q hq => meth_read (fun g H v rv st hv h => ?_) (fun g H v rv vs rs st hS hv hvs h => ?_) hq
    · match rv, hv, h with
      | .d (.str a), hv, h => rw [(Rep.str_iff hv).1]; exact rfl
    · match rv, rs, hv, hvs, h with
      | .d (.str a), [r], hv, .cons hr .nil, h =>
        obtain ⟨rfl, ho⟩ := Rep.str_iff hv
        obtain ⟨p, vs, ps, rfl, h, hra, hsq⟩ := seq_get hr h
        have h : Ent ((match strsOf ps with | some ss => if decide ((ss.map (·.length)).sum + ss.length * a.length ≤ 16777216) then pure (Rv.str (Str.join a ss)) else bad | none => bad : M Rv) st) (Fin1 X.K g H true Q) NoE := h
        cases q : strsOf ps with
        | none => rw [q] at h; exact h.elim
        | some ss =>
          rw [q] at h
          obtain ⟨z, h⟩ := Ent.ite h
          have h9 := Ent.pure h
          obtain rfl := strsOf_eq q
          obtain ⟨rfl, hok⟩ := RepAll.strs hra
          exact ⟨a, p, ss, rfl, rfl, hsq, of_decide_eq_true z, by rw [join_eq]; exact Fin1.same h9 hS (.str _ (strOk_join ho hok))⟩
  | index =>
    refine PE.mono (pe_bm (apos := apos) (cpos := cpos) (name := "index") PySem.F.plainAttrs_list PySem.F.slot_list_index PySem.F.type_list_index (mt_indexD (by have := C.roomH.un; omega)) ho ha (base_of hp) (by rw [hs]; rfl) hl hs rfl) fun σV H Q hq => meth_read (fun g H v rv st hv h => ?_) (fun g H v rv vs rs st hS hv hvs h => ?_) hq
    · match rv, hv, h with
      | .d (.list xs), hv, h => obtain ⟨a, vs, rfl, h1, h2⟩ := Rep.lst_iff hv; exact .inl ⟨rfl, vs, h1.sql⟩
      | .own xs, hv, h => obtain ⟨a, vs, rfl, h1, _, h2⟩ := hv; exact .inl ⟨rfl, vs, SqL.of h1⟩
    · match rs, hvs, h with
      | [_, _], _, h => cases rv <;> first | exact h.elim | (rename_i p; cases p <;> exact h.elim)
      | [], _, h => cases rv <;> first | exact h.elim | (rename_i p; cases p <;> exact h.elim)
      | _ :: _ :: _ :: _, _, h => cases rv <;> first | exact h.elim | (rename_i p; cases p <;> exact h.elim)
      | [r], .cons hr .nil, h =>
        have h : Ent ((listOf rv >>= fun xs => toP r >>= fun p => match xs.findIdx? (fun z => PyData.eqv z p) with
          | some j => if decide ((PyData.list xs).depth ≤ 60) && decide (p.depth ≤ 60) then pure (.int j) else bad
          | none => bad) st) (Fin1 X.K g H true Q) NoE := by
          cases rv with
          | d p => cases p <;> exact h
          | _ => exact h
        obtain ⟨a, ws, ps, rfl, hsq, hra, h⟩ := hv.asList h
        obtain ⟨p, dp, lp, h⟩ := hr.dp h
        cases q : ps.findIdx? (fun z => PyData.eqv z p) with
        | none => rw [q] at h; exact h.elim
        | some j =>
          rw [q] at h
          obtain ⟨z, h⟩ := Ent.ite h
          simp only [Bool.and_eq_true, decide_eq_true_eq] at z
          obtain ⟨k1, k2, k3⟩ := List.findIdx?_eq_some_iff_getElem.mp q
          refine ⟨a, _, p, ps, j, ps[j], rfl, rfl, .lst hsq (RepAll.dp hra), dp, ?_, ?_, List.getElem?_eq_getElem k1, k2, fun m z' hm hz => ?_, Fin1.same (Ent.pure h) hS (.int _)⟩
          · unfold SeqAt.shaped
            simp only [Bool.and_eq_true, decide_eq_true_eq]
            exact ⟨by simp [PyData.canLay0, RepAll.lay hra], by omega⟩
          · unfold SeqAt.shaped
            simp only [Bool.and_eq_true, decide_eq_true_eq]
            exact ⟨lp, by omega⟩
          · have hmp : m < ps.length := by omega
            rw [List.getElem?_eq_getElem hmp] at hz
            cases hz
            have := k3 m hm
            simpa using this
  | count =>
    refine PE.mono (pe_bm (apos := apos) (cpos := cpos) (name := "count") PySem.F.plainAttrs_list PySem.F.slot_list_count PySem.F.type_list_count (mt_countD (by have := C.roomH.un; omega)) ho ha (base_of hp) (by rw [hs]; rfl) hl hs rfl) fun σV H Q hq => meth_read (fun g H v rv st hv h => ?_) (fun g H v rv vs rs st hS hv hvs h => ?_) hq
    · match rv, hv, h with
      | .d (.list xs), hv, h => obtain ⟨a, vs, rfl, h1, h2⟩ := Rep.lst_iff hv; exact .inl ⟨rfl, vs, h1.sql⟩
      | .own xs, hv, h => obtain ⟨a, vs, rfl, h1, _, h2⟩ := hv; exact .inl ⟨rfl, vs, SqL.of h1⟩
    · match rs, hvs, h with
      | [_, _], _, h => cases rv <;> first | exact h.elim | (rename_i p; cases p <;> exact h.elim)
      | [], _, h => cases rv <;> first | exact h.elim | (rename_i p; cases p <;> exact h.elim)
      | _ :: _ :: _ :: _, _, h => cases rv <;> first | exact h.elim | (rename_i p; cases p <;> exact h.elim)
      | [r], .cons hr .nil, h =>
        have h : Ent ((listOf rv >>= fun xs => toP r >>= fun p => if decide ((PyData.list xs).depth ≤ 60) && decide (p.depth ≤ 60) then pure (.int ((xs.countP fun z => PyData.eqv z p : Nat) : Int)) else bad) st) (Fin1 X.K g H true Q) NoE := by
          cases rv with
          | d p => cases p <;> exact h
          | _ => exact h
        obtain ⟨a, ws, ps, rfl, hsq, hra, h⟩ := hv.asList h
        obtain ⟨p, dp, lp, h⟩ := hr.dp h
        obtain ⟨z, h⟩ := Ent.ite h
        simp only [Bool.and_eq_true, decide_eq_true_eq] at z
        refine ⟨a, _, p, ps, rfl, rfl, .lst hsq (RepAll.dp hra), dp, ?_, ?_, Fin1.same (Ent.pure h) hS (.int _)⟩
        · unfold SeqAt.shaped
          simp only [Bool.and_eq_true, decide_eq_true_eq]
          exact ⟨by simp [PyData.canLay0, RepAll.lay hra], by omega⟩
        · unfold SeqAt.shaped
          simp only [Bool.and_eq_true, decide_eq_true_eq]
          exact ⟨lp, by omega⟩
  | split =>
    refine PE.mono (pe_bm (apos := apos) (cpos := cpos) (name := "split") PySem.F.plainAttrs_str PySem.F.slot_str_split PySem.F.type_str_split mt_split ho ha (base_of hp) (by rw [hs]; rfl) hl hs rfl) fun σV H Q hq => meth_read (fun g H v rv st hv h => ?_) (fun g H v rv vs rs st hS hv hvs h => ?_) hq
    · match rv, hv, h with
      | .d (.str a), hv, h => rw [(Rep.str_iff hv).1]; exact rfl
    · match rv, rs, hv, hvs, h with
      | .d (.str a), [.d (.str b)], hv, .cons hr .nil, h =>
        obtain ⟨rfl, ho⟩ := Rep.str_iff hv
        obtain ⟨rfl, hb⟩ := Rep.str_iff hr
        have h : Ent ((if b.length = 0 then bad else if (okLen (a.length + 2) && (Txt.split a b).all PyData.strOk) = true then pure (.own ((Txt.split a b).map .str)) else bad : M Rv) st) (Fin1 X.K g H true Q) NoE := h
        by_cases hz : b.length = 0
        · rw [if_pos hz] at h; exact h.elim
        · rw [if_neg hz] at h
          obtain ⟨z, h⟩ := Ent.ite h
          simp only [Bool.and_eq_true, List.all_eq_true] at z
          exact ⟨a, b, rfl, rfl, by simpa using hz, okLen_le z.1, fun p hp => Fin1.newL (Ent.pure h) hS hp (strs_rep _ z.2)⟩
  | _ => cases h0
end
end Wk

end

section
set_option Elab.async false
set_option linter.all false
set_option maxRecDepth 100000
set_option maxHeartbeats 1000000
/-! All expressions. -/
namespace Wk
open PySem PySem.Spec PyProof.Rows L2
section
variable {W : Wd} {cv : Nat → Value} {T : Nat → Option Fn} {n : Nat} {N : List Str} {sc : Scope} {X : Cx} {e : Expr} {W' : WX}
theorem tt_of {a : Tm} {r : TE} {X : Cx} {e : Expr} (hp : PT X e (tTest r)) (hr : ∀ σV H Q, tE X.K cv (callF T n) W' a σV H Q → r σV H Q) : PT X e (tT X.K cv (callF T n) W' a) := by
  refine PT.mono hp fun σV H Q hq => hr _ _ _ ?_
  obtain ⟨g, st, σ, hE, hS, hev⟩ := hq
  refine ⟨g, st, σ, hE, hS, (Ent.bind hev).mono (fun r1 st1 h1 v1 g1 H1 f1 s1 hv1 _ => ?_) fun c st1 h1 => h1⟩
  have h1' : Ent ((toB r1 >>= fun b => pure b) st1) (fun b st' => ∀ g' H', Frm g H g' H' → SRep g' H' st' → Q b H') (ExcK cv W' g H σV) := by rw [bind_pure']; exact h1
  obtain ⟨b, rfl, rfl, h2⟩ := toB_get hv1 h1'
  exact ⟨b, rfl, Ent.pure h2 g1 H1 f1 s1⟩
theorem snd_cmpT (C : Cxt W cv T n N sc X) {l r : Expr} {o : Cm} {a b : Tm} {pos : Pos} (hm : behindInMarks (cmOf o) r = false) (ha : PE X l (tE X.K cv (callF T n) W' a)) (hb : PE X r (tE X.K cv (callF T n) W' b)) :
    PT X (.Compare l [cmOf o] [r] pos) (tT X.K cv (callF T n) W' (.cmp o a b)) := by
  refine tt_of (pt_cmpR (cmp_all C.units o) ha hb hm) fun σV H Q hq => ?_
  obtain ⟨g, st, σ, hE, hS, hev⟩ := hq
  exact two_in_row (f := fun x y => cmpOp o x y >>= fun k => pure (.bl k)) hE hS hev fun v1 v2 g2 H2 st2 r1 r2 _ s2 x1 x2 h => ⟨g2, st2, r1, r2, x1, x2, s2, bool_end s2 NoX.cmpOp (Keeps.cmpOp _) h⟩
theorem snd_chainT (C : Cxt W cv T n N sc X) {l m r : Expr} {o o' : Cm} {a b c : Tm} {pos : Pos} (hm : lastMarks [cmOf o, cmOf o'] [m, r] = false) (ha : PE X l (tE X.K cv (callF T n) W' a)) (hb : PE X m (tE X.K cv (callF T n) W' b)) (hc : PE X r (tE X.K cv (callF T n) W' c)) :
    PT X (.Compare l [cmOf o, cmOf o'] [m, r] pos) (tT X.K cv (callF T n) W' (.chain o o' a b c)) := by
  refine tt_of (pt_chain (cmp_all C.units o) (cmp_all C.units o') ha hb hc hm) fun σV H Q hq => ?_
  obtain ⟨g, st, σ, hE, hS, hev⟩ := hq
  refine two_in_row (f := fun x y => cmpOp o x y >>= fun k => if k then (do let z ← evE (callF T n) σ c; let k' ← cmpOp o' y z; pure (.bl k')) else pure (.bl false)) hE hS hev fun v1 v2 g2 H2 st2 r1 r2 f2 s2 x1 x2 h => ?_
  obtain ⟨k, hk, h⟩ := Keeps.ent Keeps.cmpOp NoX.cmpOp (Ent.bind h)
  refine ⟨g2, st2, r1, r2, x1, x2, s2, ?_⟩
  rw [hk]
  refine ⟨k, rfl, ?_⟩
  cases k with
  | false => exact Fin1.same (Ent.pure h) s2 (.bl _)
  | true =>
    rw [if_pos rfl] at h ⊢
    refine one_then (hE.mono f2) s2 h fun v3 g3 H3 st3 r3 f3 s3 x3 _ h => ?_
    exact ⟨g3, st3, r2, r3, x2.mono f3, x3, s3, bool_end s3 NoX.cmpOp (Keeps.cmpOp _) h⟩
theorem pt_ite {t x y : Expr} {c a b : Tm} {pos : Pos} (hc : PT X t (tT X.K cv (callF T n) W' c)) (ha : PT X x (tT X.K cv (callF T n) W' a)) (hb : PT X y (tT X.K cv (callF T n) W' b)) :
    PT X (.IfExp t x y pos) (tT X.K cv (callF T n) W' (.ite c a b)) := by
  refine ⟨fun pins s σV H Q I hq => ?_⟩
  obtain ⟨g, st, σ, hE, hS, hev⟩ := hq
  have e : (evE (callF T n) σ (.ite c a b) >>= toB) = ((evE (callF T n) σ c >>= toB) >>= fun k => if k then (evE (callF T n) σ a >>= toB) else (evE (callF T n) σ b >>= toB)) := by
    have h : evE (callF T n) σ (.ite c a b) = (evE (callF T n) σ c >>= fun x => toB x >>= fun k => if k then evE (callF T n) σ a else evE (callF T n) σ b) := rfl
    rw [h, bind_assoc', bind_assoc']
    congr 1; funext x
    rw [bind_assoc']
    congr 1; funext k
    cases k <;> rfl
  rw [e] at hev
  rw [show PySem.isTrue (.IfExp t x y pos) X.env (eval (.IfExp t x y pos) X.env) = (do if ← PySem.isTrue t X.env (eval t X.env) then PySem.isTrue x X.env (eval x X.env) else PySem.isTrue y X.env (eval y X.env)) from rfl]
  refine wpAny_bind (thn (hc.run pins s σV H (fun k H1 => if k = true then tT X.K cv (callF T n) W' a σV H1 Q else tT X.K cv (callF T n) W' b σV H1 Q) I ⟨g, st, σ, hE, hS, (Ent.bind hev).mono (fun k st1 h1 g1 H1 f1 s1 => ?_) fun c st1 h1 => h1⟩) fun d s1 ⟨H1, I1, q1⟩ => ?_)
  · cases k with
    | true => exact ⟨g1, st1, σ, hE.mono f1, s1, Ent.mono h1 (fun b s2 q g2 H2 f2 s3 => q g2 H2 (f1.trans f2) s3) fun c s2 q => ExcK.mono f1 q⟩
    | false => exact ⟨g1, st1, σ, hE.mono f1, s1, Ent.mono h1 (fun b s2 q g2 H2 f2 s3 => q g2 H2 (f1.trans f2) s3) fun c s2 q => ExcK.mono f1 q⟩
  · cases d with
    | true => exact ha.run pins s1 σV H1 Q I1 q1
    | false => exact hb.run pins s1 σV H1 Q I1 q1
theorem pw_and' {x y : Expr} {ys : List Expr} {a b : Tm} {pos : Pos} (ia : PT X x (tT X.K cv (callF T n) W' a)) (ib : PW X (.BoolOp .And (y :: ys) pos) (tT X.K cv (callF T n) W' b)) : PW X (.BoolOp .And (x :: y :: ys) pos) (tT X.K cv (callF T n) W' (.and a b)) :=
  ⟨fun whole pins s σV H Q I hq => (pw_and ia ib).run whole pins s σV H Q I (tT_and hq)⟩
theorem pw_or' {x y : Expr} {ys : List Expr} {a b : Tm} {pos : Pos} (ia : PT X x (tT X.K cv (callF T n) W' a)) (ib : PW X (.BoolOp .Or (y :: ys) pos) (tT X.K cv (callF T n) W' b)) : PW X (.BoolOp .Or (x :: y :: ys) pos) (tT X.K cv (callF T n) W' (.or a b)) :=
  ⟨fun whole pins s σV H Q I hq => (pw_or ia ib).run whole pins s σV H Q I (tT_or hq)⟩
theorem isNo_eq {b : Tm} (h : isNo b = true) : b = .no := by cases b <;> first | rfl | cases h
theorem isTup_eq {e : Expr} (h : isTup e = true) : ∃ es k p, e = .Tuple es k p := by cases e <;> first | exact ⟨_, _, _, rfl⟩ | cases h
/-- what is walked -/
theorem snd_src (C : Cxt W cv T n N sc X) {k : Ik} {a b : Tm} {tg it : Expr} {oka okb : Expr → Bool} (ha : ∀ e, oka e = true → PE X e (tE X.K cv (callF T n) W' a)) (hb : ∀ e, okb e = true → PE X e (tE X.K cv (callF T n) W' b))
    (h : srcB sc k b oka okb tg it = true) : PI X tg it (tI X.K cv (callF T n) W' k a b) := by
  cases k with
  | seq =>
    have h : (isNo b && oka it) = true := h
    simp only [Bool.and_eq_true] at h
    obtain rfl := isNo_eq h.1
    exact pi_seq (ha _ h.2)
  | zip =>
    simp only [srcB, Bool.and_eq_true] at h
    obtain ⟨h, ht⟩ := h
    obtain ⟨es, kk, tp, rfl⟩ := isTup_eq ht
    split at h
    · simp only [Bool.and_eq_true, beq_iff_eq] at h
      obtain ⟨⟨⟨⟨⟨rfl, h2⟩, h3⟩, h4⟩, h5⟩, h6⟩ := h
      exact pi_zp C h2 h5 h6 (ha _ h3) (hb _ h4)
    · cases h
  | enum =>
    simp only [srcB, Bool.and_eq_true] at h
    obtain ⟨⟨hn, h⟩, ht⟩ := h
    obtain rfl := isNo_eq hn
    obtain ⟨es, kk, tp, rfl⟩ := isTup_eq ht
    split at h
    · simp only [Bool.and_eq_true, beq_iff_eq] at h
      obtain ⟨⟨⟨rfl, h2⟩, h3⟩, h5⟩ := h
      exact pi_enm C h2 h5 (ha _ h3)
    · cases h
  | range1 =>
    simp only [srcB, Bool.and_eq_true] at h
    obtain ⟨hn, h⟩ := h
    obtain rfl := isNo_eq hn
    split at h
    · simp only [Bool.and_eq_true, beq_iff_eq] at h
      obtain ⟨⟨⟨rfl, h2⟩, h3⟩, h5⟩ := h
      exact pi_rng1 C h2 h5 (ha _ h3)
    · cases h
  | range2 =>
    simp only [srcB] at h
    split at h
    · simp only [Bool.and_eq_true, beq_iff_eq] at h
      obtain ⟨⟨⟨⟨⟨rfl, h2⟩, h3⟩, h4⟩, h5⟩, h6⟩ := h
      exact pi_rng2 C h2 h5 h6 (ha _ h3) (hb _ h4)
    · cases h
theorem tgIn_mem {own : List Nat} {t : Tg} (h : tgIn own t = true) : ∀ i ∈ t.slots, i ∈ own := by
  cases t with
  | one i =>
    intro j hj
    have hj : j ∈ [i] := hj
    rw [List.mem_singleton] at hj; subst hj
    have h : own.contains j = true := h
    simpa using h
  | many is =>
    intro j hj
    have h : is.all own.contains = true := h
    rw [List.all_eq_true] at h
    simpa using h j hj
theorem okA_stars : ∀ {as : Tms} {es : List Expr}, okA W N sc as es = true → es.all notStar = true
  | .nil, [], _ => rfl
  | .nil, _ :: _, h => by cases h
  | .cons a r, [], h => by cases h
  | .cons a r, e :: es, h => by
    have h : (okE W N sc a e && fresh a && notStar e && okA W N sc r es) = true := h
    simp only [Bool.and_eq_true] at h
    rw [List.all_cons, h.1.2, okA_stars h.2]; rfl
theorem okB_stars : ∀ {as : Tms} {es : List Expr}, okB W N sc as es = true → es.all notStar = true
  | .nil, [], _ => rfl
  | .nil, _ :: _, h => by cases h
  | .cons a r, [], h => by cases h
  | .cons a r, e :: es, h => by
    have h : (okE W N sc a e && notStar e && okB W N sc r es) = true := h
    simp only [Bool.and_eq_true] at h
    rw [List.all_cons, h.1.2, okB_stars h.2]; rfl
/-- what is had of an expression -/
structure Snd (X : Cx) (cv : Nat → Value) (T : Nat → Option Fn) (n : Nat) (W' : WX) (tm : Tm) (e : Expr) : Prop where
  pe : PE X e (tE X.K cv (callF T n) W' tm)
  pt : PT X e (tT X.K cv (callF T n) W' tm)
  pw : (∃ op xs pos, e = .BoolOp op xs pos) → PW X e (tT X.K cv (callF T n) W' tm)
theorem Snd.val {tm : Tm} (h : PE X e (tE X.K cv (callF T n) W' tm)) (he : ∀ whole, isTrue e X.env whole = (do let v ← whole; standAt e.pos; holding [v] (truthy v))) (hn : ∀ op xs pos, e ≠ .BoolOp op xs pos) : Snd X cv T n W' tm e :=
  ⟨h, pt_of h fun _ _ h2 => pt_val h2 he, fun ⟨_, _, _, z⟩ => absurd z (hn _ _ _)⟩
theorem blk_takes {s : Shared} {H : Hp} {scope : Scope} {Cc : Addr} {cl : List (Str × Addr)} {fp : List Addr} : Takes (X.blk s H scope (compEnvC scope cl Cc X.env) fp) (fun _ _ _ _ => False) := by
  intro u s' h
  obtain ⟨_, _, _, _, _, _, _, _, _, _, _, _, _, _, _, _, h⟩ := h
  exact h.elim
theorem comp_parts (C : Cxt W cv T n N sc X) {elt a b cond : Tm} {g : Tg} {k : Ik} {own : List Nat} (ha : ∀ e, okE W N sc a e = true → PE X e (tE X.K cv (callF T n) W' a)) (hb : ∀ e, okE W N sc b e = true → PE X e (tE X.K cv (callF T n) W' b))
    (he : ∀ (s : Shared) (H : Hp) (scope : Scope) (Cc : Addr) (cl : List (Str × Addr)) (fp : List Addr) (e : Expr), okE W N (relS scope sc) elt e = true → PE (X.blk s H scope (compEnvC scope cl Cc X.env) fp) e (tE X.K cv (callF T n) (fun _ _ _ _ => False) elt))
    (hc : ∀ (s : Shared) (H : Hp) (scope : Scope) (Cc : Addr) (cl : List (Str × Addr)) (fp : List Addr) (e : Expr), okE W N (relS scope sc) cond e = true → PT (X.blk s H scope (compEnvC scope cl Cc X.env) fp) e (tT X.K cv (callF T n) (fun _ _ _ _ => False) cond))
    (h : okE W N sc (.comp elt g k a b own cond) e = true) : ∃ e1 tg it ifs scope pos, e = .ListComp e1 [⟨tg, it, ifs, 0⟩] scope pos ∧ CompP W cv T n N sc X W' elt a b cond g k own e1 tg it ifs scope := by
  simp only [okE] at h
  split at h
  · simp only [Bool.and_eq_true, compB] at h
    obtain ⟨⟨⟨⟨⟨hh, ⟨⟨h1, h2⟩, h3⟩, h4⟩, h5⟩, h6⟩, h7⟩, h8⟩ := h
    have hc : cond = .lit (.bl true) := by
      split at h6
      · rfl
      · cases h6
    subst hc
    exact ⟨_, _, _, _, _, _, rfl, compP C (hot_no hh) h1 h2 (tgIn_mem h3) h4 h5 (snd_src C ha hb h8) (fun s H Cc cl fp => he s H _ Cc cl fp _ h7) (fun s H Cc cl fp => pts_none)⟩
  · simp only [Bool.and_eq_true, compB] at h
    obtain ⟨⟨⟨⟨⟨hh, ⟨⟨h1, h2⟩, h3⟩, h4⟩, h5⟩, h6⟩, h7⟩, h8⟩ := h
    exact ⟨_, _, _, _, _, _, rfl, compP C (hot_no hh) h1 h2 (tgIn_mem h3) h4 h5 (snd_src C ha hb h8) (fun s H Cc cl fp => he s H _ Cc cl fp _ h7) (fun s H Cc cl fp => pts_one (hc s H _ Cc cl fp _ h6))⟩
  · cases h
theorem snd_fr {a : Tm} (fa : fresh a = true) (ha : PE X e (tE X.K cv (callF T n) W' a)) : PE X e (tE X.K cv (callF T n) W' (.fr a)) := by
  refine PE.mono (PE.fz ha) fun σV H Q hq => ?_
  obtain ⟨g, st, σ, hE, hS, hev⟩ := hq
  have hev : Ent ((evE (callF T n) σ a >>= fun x => pure (frz x)) st) (Fin1 X.K g H true Q) (ExcK cv W' g H σV) := hev
  exact ⟨g, st, σ, hE, hS, (Ent.bind hev).mono (fun r1 st1 h1 v1 g1 H1 f1 s1 hv1 hf => freeze_new f1 s1 hv1 (hf fa) fun H2 f2 s2 hv2 => Ent.pure h1 v1 g1 H2 f2 s2 hv2 fun _ xs a e => absurd e (frz_not xs)) fun c st1 h1 => h1⟩

theorem fr_toB {F : Nat → List Rv → M Rv} {σ : En} {a : Tm} : (evE F σ (.fr a) >>= toB) = (evE F σ a >>= toB) := by
  have h : evE F σ (.fr a) = (evE F σ a >>= fun x => pure (frz x)) := rfl
  rw [h, bind_assoc']
  congr 1; funext x
  cases x <;> rfl
theorem fr_tT {a : Tm} {σV : L2.St} {H : Hp} {Q : Bool → Hp → Prop} (hq : tT X.K cv (callF T n) W' (.fr a) σV H Q) : tT X.K cv (callF T n) W' a σV H Q := by
  obtain ⟨g, st, σ, hE, hS, hev⟩ := hq
  rw [fr_toB] at hev
  exact ⟨g, st, σ, hE, hS, hev⟩
mutual
theorem sndE : ∀ (tm : Tm) {W : Wd} {sc : Scope} {X : Cx} {W' : WX} {e : Expr}, Cxt W cv T n N sc X → Takes X W' → okE W N sc tm e = true → Snd X cv T n W' tm e
  | .var i, W, sc, X, W', e, C, tk, h => by
    have h0 := h
    simp only [okE] at h
    split at h
    · exact .val (snd_var C h0) (fun _ => rfl) (by intros; exact fun z => by cases z)
    · cases h
  | .bor i, W, sc, X, W', e, C, tk, h => by
    have h0 := h
    simp only [okE] at h
    split at h
    · exact .val (snd_bor C h0) (fun _ => rfl) (by intros; exact fun z => by cases z)
    · cases h
  | .glob x l, W, sc, X, W', e, C, tk, h => by
    have h0 := h
    simp only [okE] at h
    split at h
    · exact .val (snd_glob C h0) (fun _ => rfl) (by intros; exact fun z => by cases z)
    · cases h
  | .lit l, W, sc, X, W', e, C, tk, h => by
    simp only [okE] at h
    split at h
    · exact .val (snd_lit (W := W) (N := N) (sc := sc) h) (fun _ => rfl) (by intros; exact fun z => by cases z)
    · cases h
  | .bin o a b, W, sc, X, W', e, C, tk, h => by
    simp only [okE] at h
    split at h
    · simp only [Bool.and_eq_true, decide_eq_true_eq] at h
      obtain ⟨⟨rfl, h2⟩, h3⟩ := h
      exact .val (snd_bin (sndE a C tk h2).pe (sndE b C tk h3).pe) (fun _ => rfl) (by intros; exact fun z => by cases z)
    · cases h
  | .neg a, W, sc, X, W', e, C, tk, h => by
    simp only [okE] at h
    split at h
    · exact .val (snd_neg (sndE a C tk h).pe) (fun _ => rfl) (by intros; exact fun z => by cases z)
    · cases h
  | .not a, W, sc, X, W', e, C, tk, h => by
    simp only [okE] at h
    split at h
    · exact ⟨snd_not (sndE a C tk h).pe, pt_not' (sndE a C tk h).pt, fun ⟨_, _, _, z⟩ => by cases z⟩
    · cases h
  | .and a b, W, sc, X, W', e, C, tk, h => by
    simp only [okE] at h
    split at h
    · simp only [Bool.and_eq_true] at h
      obtain ⟨⟨⟨h1, h2⟩, h3⟩, h4⟩ := h
      have ia := sndE a C tk h1
      have ib := sndE b C tk h4
      exact ⟨snd_and h3 ia.pe (pe_one ib.pe), (pw_and' ia.pt (pw_and1 ib.pt)).pt, fun _ => pw_and' ia.pt (pw_and1 ib.pt)⟩
    · simp only [Bool.and_eq_true] at h
      obtain ⟨⟨⟨h1, h2⟩, h3⟩, h4⟩ := h
      have ia := sndE a C tk h1
      have ib := sndE b C tk h4
      have w := pw_and' ia.pt (ib.pw ⟨_, _, _, rfl⟩)
      exact ⟨snd_and h3 ia.pe ib.pe, w.pt, fun _ => w⟩
    · cases h
  | .or a b, W, sc, X, W', e, C, tk, h => by
    simp only [okE] at h
    split at h
    · simp only [Bool.and_eq_true] at h
      obtain ⟨⟨⟨h1, h2⟩, h3⟩, h4⟩ := h
      have ia := sndE a C tk h1
      have ib := sndE b C tk h4
      exact ⟨snd_or h3 ia.pe (pe_one ib.pe), (pw_or' ia.pt (pw_or1 ib.pt)).pt, fun _ => pw_or' ia.pt (pw_or1 ib.pt)⟩
    · simp only [Bool.and_eq_true] at h
      obtain ⟨⟨⟨h1, h2⟩, h3⟩, h4⟩ := h
      have ia := sndE a C tk h1
      have ib := sndE b C tk h4
      have w := pw_or' ia.pt (ib.pw ⟨_, _, _, rfl⟩)
      exact ⟨snd_or h3 ia.pe ib.pe, w.pt, fun _ => w⟩
    · cases h
  | .cmp o a b, W, sc, X, W', e, C, tk, h => by
    simp only [okE] at h
    split at h
    · simp only [Bool.and_eq_true, decide_eq_true_eq, Bool.not_eq_true'] at h
      obtain ⟨⟨⟨rfl, h2⟩, h3⟩, h4⟩ := h
      have ia := (sndE a C tk h2).pe
      have ib := (sndE b C tk h3).pe
      exact ⟨snd_cmp C h4 ia ib, snd_cmpT C h4 ia ib, fun ⟨_, _, _, z⟩ => by cases z⟩
    · cases h
  | .chain o o' a b c, W, sc, X, W', e, C, tk, h => by
    simp only [okE] at h
    split at h
    · simp only [Bool.and_eq_true, decide_eq_true_eq, Bool.not_eq_true'] at h
      obtain ⟨⟨⟨⟨⟨rfl, rfl⟩, h2⟩, h3⟩, h4⟩, h5⟩ := h
      have ia := (sndE a C tk h2).pe
      have ib := (sndE b C tk h3).pe
      have ic := (sndE c C tk h4).pe
      exact ⟨snd_chain C h5 ia ib ic, snd_chainT C h5 ia ib ic, fun ⟨_, _, _, z⟩ => by cases z⟩
    · cases h
  | .ite c a b, W, sc, X, W', e, C, tk, h => by
    simp only [okE] at h
    split at h
    · simp only [Bool.and_eq_true] at h
      obtain ⟨⟨⟨⟨h1, h2⟩, h3⟩, h4⟩, h5⟩ := h
      have ic := (sndE c C tk h1).pt
      have ia := sndE a C tk h2
      have ib := sndE b C tk h3
      exact ⟨snd_ite h4 h5 ic ia.pe ib.pe, pt_ite ic ia.pt ib.pt, fun ⟨_, _, _, z⟩ => by cases z⟩
    · cases h
  | .call f as, W, sc, X, W', e, C, tk, h => by
    simp only [okE] at h
    split at h
    · simp only [Bool.and_eq_true, beq_iff_eq, List.contains_iff_mem] at h
      obtain ⟨⟨⟨⟨⟨rfl, h2⟩, h3⟩, h4⟩, h5⟩, hh⟩ := h
      exact .val (snd_call C (hot_no hh) tk h2 h3 h4 (okA_stars h5) (sndA as C tk h5)) (fun _ => rfl) (by intros; exact fun z => by cases z)
    · cases h
  | .bi b as, W, sc, X, W', e, C, tk, h => by
    have fin : ∀ {x : Str} {p pos : Pos} {e1 : Expr} {es : List Expr}, (x == biName b && bi0 b && glB sc x && okB W N sc as (e1 :: es) && !W.hot) = true → Snd X cv T n W' (.bi b as) (.Call (.Name x p) (e1 :: es) [] pos) := fun {x p pos e1 es} h => by
      simp only [Bool.and_eq_true, beq_iff_eq] at h
      obtain ⟨⟨⟨⟨rfl, h2⟩, h3⟩, h4⟩, hh⟩ := h
      exact .val (snd_bi C (hot_no hh) h2 h3 (okB_stars h4) (sndB as C tk h4)) (fun _ => rfl) (by intros; exact fun z => by cases z)
    simp only [okE] at h
    split at h
    · rename_i x p0 y p1 e1 e2 p2 pos
      rcases (Bool.or_eq_true _ _).mp h with h | h
      · simp only [Bool.and_eq_true, beq_iff_eq] at h
        obtain ⟨⟨⟨⟨⟨⟨h1, rfl⟩, rfl⟩, h3⟩, h4⟩, h5⟩, hh⟩ := h
        cases b <;> first | (cases h1; done) | skip
        match as, h5 with
        | .cons a (.cons b .nil), h5 =>
          have h5 : (okE W N sc a e1 && notStar e1 && (okE W N sc b e2 && notStar e2 && true)) = true := h5
          simp only [Bool.and_eq_true] at h5
          exact .val (snd_range2 C (hot_no hh) h3 h4 h5.1.2 h5.2.1.2 (sndE a C tk h5.1.1).pe (sndE b C tk h5.2.1.1).pe) (fun _ => rfl) (by intros; exact fun z => by cases z)
        | .nil, h5 => cases h5
        | .cons a .nil, h5 => simp [okB] at h5
        | .cons a (.cons b (.cons c r)), h5 => simp [okB] at h5
      · exact fin h
    · exact fin h
    · cases h
  | .setlen a, W, sc, X, W', e, C, tk, h => by
    simp only [okE] at h
    split at h
    · simp only [Bool.and_eq_true, beq_iff_eq] at h
      obtain ⟨⟨⟨⟨⟨⟨rfl, h2⟩, rfl⟩, h3⟩, h4⟩, h5⟩, hh⟩ := h
      exact .val (snd_setlen C (hot_no hh) h2 h3 h5 (sndE a C tk h4).pe) (fun _ => rfl) (by intros; exact fun z => by cases z)
    · cases h
  | .isi a t, W, sc, X, W', e, C, tk, h => by
    simp only [okE] at h
    split at h
    · simp only [Bool.and_eq_true, beq_iff_eq] at h
      obtain ⟨⟨⟨⟨⟨rfl, h2⟩, h3⟩, h4⟩, h5⟩, h6⟩ := h
      exact .val (snd_isi C h2 h4 h3 h6 (sndE a C tk h5).pe) (fun _ => rfl) (by intros; exact fun z => by cases z)
    · cases h
  | .idx a i, W, sc, X, W', e, C, tk, h => by
    simp only [okE] at h
    split at h
    · simp only [Bool.and_eq_true] at h
      exact .val (snd_idx h.2 (sndE a C tk h.1.1).pe (sndE i C tk h.1.2).pe) (fun _ => rfl) (by intros; exact fun z => by cases z)
    · cases h
  | .slice a lo hi, W, sc, X, W', e, C, tk, h => by
    simp only [okE] at h
    split at h
    · simp only [Bool.and_eq_true] at h
      obtain ⟨⟨h1, h2⟩, h3⟩ := h
      obtain rfl := isNo_eq h2
      obtain rfl := isNo_eq h3
      exact .val (snd_slice (sndE a C tk h1).pe po_no po_no) (fun _ => rfl) (by intros; exact fun z => by cases z)
    · simp only [Bool.and_eq_true, Bool.not_eq_true'] at h
      obtain ⟨⟨⟨h1, h2⟩, h3⟩, h4⟩ := h
      obtain rfl := isNo_eq h4
      exact .val (snd_slice (sndE a C tk h1).pe (po_yes h3 (sndE lo C tk h2).pe) po_no) (fun _ => rfl) (by intros; exact fun z => by cases z)
    · simp only [Bool.and_eq_true, Bool.not_eq_true'] at h
      obtain ⟨⟨⟨h1, h2⟩, h3⟩, h4⟩ := h
      obtain rfl := isNo_eq h2
      exact .val (snd_slice (sndE a C tk h1).pe po_no (po_yes h4 (sndE hi C tk h3).pe)) (fun _ => rfl) (by intros; exact fun z => by cases z)
    · simp only [Bool.and_eq_true, Bool.not_eq_true'] at h
      obtain ⟨⟨⟨⟨h1, h2⟩, h3⟩, h4⟩, h5⟩ := h
      exact .val (snd_slice (sndE a C tk h1).pe (po_yes h3 (sndE lo C tk h2).pe) (po_yes h5 (sndE hi C tk h4).pe)) (fun _ => rfl) (by intros; exact fun z => by cases z)
    · cases h
  | .rev a, W, sc, X, W', e, C, tk, h => by
    simp only [okE] at h
    split at h
    · exact .val (snd_rev (sndE a C tk h).pe) (fun _ => rfl) (by intros; exact fun z => by cases z)
    · cases h
  | .tup as, W, sc, X, W', e, C, tk, h => by
    simp only [okE] at h
    split at h
    · exact .val (snd_tup (sndA as C tk h)) (fun _ => rfl) (by intros; exact fun z => by cases z)
    · cases h
  | .lst as, W, sc, X, W', e, C, tk, h => by
    simp only [okE] at h
    split at h
    · exact .val (snd_lst (sndA as C tk h)) (fun _ => rfl) (by intros; exact fun z => by cases z)
    · cases h
  | .comp elt g k a b own cond, W, sc, X, W', e, C, tk, h => by
    obtain ⟨e1, tg, it, ifs, scope, pos, rfl, P⟩ := comp_parts C (fun e z => (sndE a C tk z).pe) (fun e z => (sndE b C tk z).pe) (fun s H scope Cc cl fp e z => (sndE elt (C.blk s H scope Cc cl fp) blk_takes z).pe) (fun s H scope Cc cl fp e z => (sndE cond (C.blk s H scope Cc cl fp) blk_takes z).pt) h
    exact .val (P.pe C) (fun _ => rfl) (by intros; exact fun z => by cases z)
  | .meth m o as, W, sc, X, W', e, C, tk, h => by
    simp only [okE] at h
    split at h
    · simp only [Bool.and_eq_true, beq_iff_eq] at h
      obtain ⟨⟨⟨⟨⟨⟨rfl, h2⟩, h3⟩, h4⟩, h5⟩, h6⟩, h7⟩ := h
      exact .val (snd_meth C h6 (beq_iff_eq.mpr h2) h3 h7 (sndE o C tk h4).pe (sndB as C tk h5)) (fun _ => rfl) (by intros; exact fun z => by cases z)
    · cases h
  | .fr a, W, sc, X, W', e, C, tk, h => by
    have h : (okE W N sc a e && fresh a) = true := h
    simp only [Bool.and_eq_true] at h
    have ia := sndE a C tk h.1
    exact ⟨snd_fr h.2 ia.pe, PT.mono ia.pt fun σV H Q hq => fr_tT hq, fun hb => ⟨fun whole pins s σV H Q I hq => (ia.pw hb).run whole pins s σV H Q I (fr_tT hq)⟩⟩
  | .no, W, sc, X, W', e, C, tk, h => by cases h
  | .told f cs a, W, sc, X, W', e, C, tk, h => by
    simp only [okE] at h
    split at h
    · simp only [Bool.and_eq_true, decide_eq_true_eq, List.contains_iff_mem, List.all_eq_true, List.any_eq_true, beq_iff_eq] at h
      obtain ⟨⟨⟨⟨⟨⟨⟨⟨⟨h1, h2⟩, h3⟩, h4⟩, hh⟩, h5⟩, h6⟩, h7⟩, h8⟩, h9⟩ := h
      exact .val (C.tolds h4 _ h1 X W' _ _ _ a cs _ _ _ rfl rfl rfl rfl rfl (C.lam h4) (gl_of C h2) h5 (by rw [C.hsc]; exact LamX.lamS_by h6) h8 h9 fun A outer s H E f c' hr => (sndE a (C.lamC (hot_no hh) A outer s H E f c' hr) lam_takes h7).pe) (fun _ => rfl) (by intros; exact fun z => by cases z)
    · cases h
  | .opq, W, sc, X, W', e, C, tk, h => ⟨⟨fun pins s σV H Q I hq => by obtain ⟨g, st, σ, hE, hS, hev⟩ := hq; exact hev.elim⟩, ⟨fun pins s σV H Q I hq => by obtain ⟨g, st, σ, hE, hS, hev⟩ := hq; exact hev.elim⟩, fun _ => ⟨fun whole pins s σV H Q I hq => by obtain ⟨g, st, σ, hE, hS, hev⟩ := hq; exact hev.elim⟩⟩
theorem sndA : ∀ (as : Tms) {W : Wd} {sc : Scope} {X : Cx} {W' : WX} {es : List Expr}, Cxt W cv T n N sc X → Takes X W' → okA W N sc as es = true → PA X es (tA X.K cv (callF T n) W' as)
  | .nil, W, sc, X, W', [], C, tk, h => snA_nil
  | .nil, W, sc, X, W', _ :: _, C, tk, h => by cases h
  | .cons a r, W, sc, X, W', [], C, tk, h => by cases h
  | .cons a r, W, sc, X, W', e :: es, C, tk, h => by
    have h : (okE W N sc a e && fresh a && notStar e && okA W N sc r es) = true := h
    simp only [Bool.and_eq_true] at h
    exact snA_cons h.1.1.2 h.1.2 (sndE a C tk h.1.1.1).pe (sndA r C tk h.2)
theorem sndB : ∀ (as : Tms) {W : Wd} {sc : Scope} {X : Cx} {W' : WX} {es : List Expr}, Cxt W cv T n N sc X → Takes X W' → okB W N sc as es = true → PA X es (tB' X.K cv (callF T n) W' as)
  | .nil, W, sc, X, W', [], C, tk, h => snB_nil
  | .nil, W, sc, X, W', _ :: _, C, tk, h => by cases h
  | .cons a r, W, sc, X, W', [], C, tk, h => by cases h
  | .cons a r, W, sc, X, W', e :: es, C, tk, h => by
    have h : (okE W N sc a e && notStar e && okB W N sc r es) = true := h
    simp only [Bool.and_eq_true] at h
    exact snB_cons h.1.2 (sndE a C tk h.1.1).pe (sndB r C tk h.2)
end
end
end Wk

end

section
set_option Elab.async false
set_option linter.all false
set_option maxRecDepth 100000
set_option maxHeartbeats 1000000
/-! Statements. -/
namespace Wk
open PySem PySem.Spec PyProof.Rows L2

/-! ### the look -/
def asgB (N : List Str) (sc : Scope) (i : Nat) (x : Str) : Bool := decide (N[i]? = some x) && locB sc x
/-- a comprehension's list is stored from within -/
def swB (sc : Scope) (ex : Expr) (x : Str) (p : Pos) : Bool := match ex with
  | .ListComp _ _ s cp => decide (sc.names.lookup x = some .local) && (p.line == cp.line) && !(s.names.any fun (n, k) => n == x && (k == .local || k == .cell))
  | _ => false
def notCs : Expr → Bool
  | .ListComp .. => false
  | .SetComp .. => false
  | .DictComp .. => false
  | _ => true
def noSC : Expr → Bool
  | .SetComp .. => false
  | .DictComp .. => false
  | _ => true
def notTup : Expr → Bool
  | .Tuple .. => false
  | .List .. => false
  | _ => true
def tup4 (e : Expr) (n : Nat) : Bool := match e with
  | .Tuple vs _ _ => decide (vs.length = n) && decide (4 ≤ n)
  | _ => false
/-- a name among the targets that is captured: the pair is built -/
def cellT (sc : Scope) (e : Expr) (ts : List Expr) : Bool := (match e with | .Tuple .. => true | _ => false) && ts.any fun t => match t with | .Name x _ => !decide (sc.names.lookup x = some .local) | _ => false
/-- .. constants alone: no swap -/
def consT (e : Expr) : Bool := match e with | .Tuple vs _ _ => vs.all (foldedForSure 8) | _ => false
/-- two, three names in step -/
def parN (sc : Scope) (N : List Str) : Nat → List Nat → List Expr → Bool
  | _, [], [] => true
  | l, i :: is, .Name x p :: es => decide (N[i]? = some x) && decide (sc.names.lookup x = some .local) && (p.line == l) && parN sc N l is es
  | _, _, _ => false
def isComp : Tm → Bool
  | .comp .. => true
  | _ => false
def lineOf (es : List Expr) : Nat := (es.head?.map (·.pos.line)).getD 0
section
variable (W : Wd) (N : List Str)
def okTb (sc : Scope) : Tb → List Stmt → Bool
  | .asg i e, [.Assign [.Name x p] ex _] => asgB N sc i x && okE W N sc e ex && fresh e && noSC ex && !swB sc ex x p
  | .ite c a b, [.If ec sa sb _] => okE W N sc c ec && okTb sc a sa && okTb sc b sb
  | _, _ => false
/-- a tuple's parts, new empty lists among them -/
def okO (sc : Scope) (t : Tms) (es : List Expr) : Bool := match t with
  | .nil => es.isEmpty
  | .cons a r => match es with
    | e :: es => (if isNewL a then (match e with | .List [] _ => true | _ => false) else okE W N sc a e && fresh a && notStar e) && okO sc r es
    | _ => false
mutual
def okS (sc : Scope) (s : Sm) (st : Stmt) : Bool := match s with
  | .opq => true
  | .unpO is es => match st with | .Assign [.Tuple ts kt pt] (.Tuple vs k2 pt2) _ => tgAll (fun _ => true) N sc (.many is) (.Tuple ts kt pt) && okO W N sc es vs && tup4 (.Tuple vs k2 pt2) ts.length && !W.hot | _ => false
  | .dct0 i => match st with | .Assign [.Name x p] (.Dict [] [] _) _ => asgB N sc i x | _ => false
  | .asg i e => match st with | .Assign [.Name x p] ex _ => asgB N sc i x && okE W N sc e ex && fresh e && noSC ex && !swB sc ex x p | _ => false
  | .asgO i e => match st with | .Assign [.Name x p] ex _ => asgB N sc i x && okE W N sc e ex && fresh e && noSC ex && (!swB sc ex x p || isComp e) | _ => false
  | .fz _ => false
  | .asgN is es => match st with
    | .Assign [.Tuple ts kt pt] (.Tuple vs k2 pt2) _ => okA W N sc es vs && decide (is.Nodup) && parN sc N (lineOf ts) is ts && decide (vs.length = ts.length) && (decide (is.length = 2) || decide (is.length = 3)) && !(vs.all (foldedForSure 8)) && !(vs.all (constantsAlone 8)) && !W.hot
    | _ => false
  | .unp is e => match st with | .Assign [.Tuple ts kt pt] ex _ => tgAll (fun _ => true) N sc (.many is) (.Tuple ts kt pt) && okE W N sc e ex && notCs ex && (notTup ex || tup4 ex ts.length || cellT sc ex ts || consT ex) && !W.hot | _ => false
  | .app i e => match st with | .Expr (.Call (.Attribute (.Name x p) m apos) [ex] [] cpos) _ => decide (N[i]? = some x) && visB sc x && nameOk x && m == ("append" : Str) && (apos.endLine == cpos.line) && okE W N sc e ex && fresh e && notStar ex | _ => false
  | .ext i e => match st with | .Expr (.Call (.Attribute (.Name x p) m apos) [ex] [] cpos) _ => decide (N[i]? = some x) && visB sc x && nameOk x && m == ("extend" : Str) && (apos.endLine == cpos.line) && okE W N sc e ex && fresh e && notStar ex | _ => false
  | .exp e => match st with | .Expr ex _ => okE W N sc e ex && notCs ex | _ => false
  | .ifS c a b => match st with | .If ec sa sb _ => okE W N sc c ec && okSs sc a sa && okSs sc b sb | _ => false
  | .forS g k a b body => match st with | .For tg it sb [] _ => tgAll (fun _ => true) N sc g tg && srcB sc k b (fun z => okE W N sc a z) (fun z => okE W N sc b z) tg it && isFrK k a b && notSet it && okSs sc body sb && !W.hot | _ => false
  | .whl c body => match st with | .While ec sb [] _ => okE W N sc c ec && okSs sc body sb | _ => false
  | .ret e => match st with | .Return (some ex) _ => okE W N sc e ex | _ => false
  | .raise c => match st with | .Raise (some (.Call (.Name x _) [.Constant (.str m) j p2] [] _)) none _ => W.cl.contains (x, c) && glB sc x && nameOk x && !W.hot | _ => false
  | .mov i j => match st with | .Assign [.Name x _] (.Name y _) _ => asgB N sc i x && decide (N[j]? = some y) && visB sc y && nameOk y && decide (i ≠ j) | _ => false
  | .tryK b x k cs => match st with
    | .Try body [.ExceptHandler (some (.Name cn _)) (some nm) [.Assign [.Name kn _] (.Name en _) _] _] [] [] _ =>
      W.tr.contains cn && glB sc cn && nameOk cn && decide (N[x]? = some nm) && decide (sc.names.lookup nm = some .local) && asgB N sc k kn && (nm == en) && nameOk en && okTb W N sc b body && cs.all (fun c => W.cl.any fun p => p.2 == c)
    | _ => false
def okSs (sc : Scope) (t : Sms) (sts : List Stmt) : Bool := match t with
  | .nil => sts.isEmpty
  | .cons s r => match s with
    | .fz _ => okSs sc r sts
    | s' => match sts with | st :: sts => okS sc s' st && okSs sc r sts | [] => false
end
end
/-! ### the reading -/
structure Sxt (X : Cx) (W' : WX) : Prop where
  fn : ∀ x, X.fn x = true
  own : PassesOwn (model X.prog X.w) X.A X.env X.xe
  tk : Takes X W'
  kind : X.env.scope.kind = .function
  stk : X.stack = X.env :: X.outer
  frm : X.env.frame = some X.env.locals
  ex : X.ex = []
def OwnF (H0 : Hp) (σV : L2.St) (σ : En) : Prop := ∀ (i : Nat) (xs : List PyData) (a : Addr), σ[i]? = some (some (.own xs)) → σV[i]? = some (some (.ref a)) → H0 a = none
/-- the state within a def: g0, H0 as at its entry; Hs as at the start of the innermost walk -/
structure StOk (K : PySem.W.Frag) (g0 : Gh) (H0 Hs : Hp) (g : Gh) (H : Hp) (σV : L2.St) (σ : En) (st : Sto) : Prop where
  env : EnvR K g H σV σ
  own : OwnF H0 σV σ
  sto : SRep g H st
  frm : Frm g0 H0 g H
  stl : Still Hs H
def FinS (K : PySem.W.Frag) (g0 : Gh) (H0 Hs : Hp) (D : Ends) : Fl × En → Sto → Prop := fun r st' => match r with
  | (.nx, σ') => ∀ g' H' σV', StOk K g0 H0 Hs g' H' σV' σ' st' → D.nx σV' H'
  | (.rt v, _) => Fin1 K g0 H0 true D.rt v st'
def ExcS (cv : Nat → Value) (W : WX) (g0 : Gh) (H0 : Hp) : Nat → Sto → Prop := fun c st' => ∀ g' H' σV', Frm g0 H0 g' H' → SRep g' H' st' → W (cv c) none σV' H'
def tS (K : PySem.W.Frag) (cv : Nat → Value) (F : Nat → List Rv → M Rv) (W : WX) (s : Sm) : TS := fun D σV H => ∃ g0 H0 Hs g st σ, StOk K g0 H0 Hs g H σV σ st ∧ Ent (evS F σ s st) (FinS K g0 H0 Hs D) (ExcS cv W g0 H0)
def tSs (K : PySem.W.Frag) (cv : Nat → Value) (F : Nat → List Rv → M Rv) (W : WX) (s : Sms) : TS := fun D σV H => ∃ g0 H0 Hs g st σ, StOk K g0 H0 Hs g H σV σ st ∧ Ent (evSs F σ s st) (FinS K g0 H0 Hs D) (ExcS cv W g0 H0)

section
variable {K : PySem.W.Frag} {cv : Nat → Value} {W : WX} {g0 g g1 : Gh} {H0 Hs H H1 : Hp} {σV : L2.St} {σ : En} {st st1 : Sto}
theorem ExcS.expr (h : StOk K g0 H0 Hs g H σV σ st) {c : Nat} (x : ExcS cv W g0 H0 c st1) : ExcK cv W g H σV c st1 := fun g' H' f s => x g' H' σV (h.frm.trans f) s
theorem set_get {α : Type} {l : List α} {i j : Nat} {x y : α} (h : (l.set i x)[j]? = some y) : (j = i ∧ x = y ∧ i < l.length) ∨ (j ≠ i ∧ l[j]? = some y) := by
  by_cases hj : j = i
  · subst hj
    by_cases hl : j < l.length
    · rw [List.getElem?_set_self hl] at h; exact .inl ⟨rfl, Option.some.inj h, hl⟩
    · rw [List.getElem?_eq_none (by simpa using hl)] at h; cases h
  · rw [List.getElem?_set_ne (Ne.symm hj)] at h; exact .inr ⟨hj, h⟩
/-- a value is stored: not one's own, or a list that nobody holds -/
theorem EnvR.setR {v : V} {r : Rv} (hE : EnvR K g H σV σ) (hv : VR K g H v r) (i : Nat) (hn : ∀ xs a, r = .own xs → v = .ref a → ∀ j ys, σ[j]? = some (some (.own ys)) → σV[j]? = some (some (.ref a)) → j = i) : EnvR K g H (σV.set i (some v)) (setR σ i r) := by
  unfold Wk.setR
  refine ⟨hE.tb, by rw [List.length_set, List.length_set]; exact hE.len, fun j r' h => ?_, fun j k xs ys a h1 h2 h3 h4 => ?_⟩
  · rcases set_get h with ⟨rfl, e, hl⟩ | ⟨hj, h⟩
    · cases e
      exact ⟨v, List.getElem?_set_self (by rw [hE.len]; exact hl), hv⟩
    · obtain ⟨w, e1, e2⟩ := hE.get j r' h
      exact ⟨w, by rw [List.getElem?_set_ne (Ne.symm hj)]; exact e1, e2⟩
  · rcases set_get h1 with ⟨rfl, e1, l1⟩ | ⟨n1, k1⟩ <;> rcases set_get h2 with ⟨rfl, e2, l2⟩ | ⟨n2, k2⟩
    · rfl
    · rw [List.getElem?_set_ne (Ne.symm n2)] at h4
      rw [List.getElem?_set_self (by rw [hE.len]; exact l1)] at h3
      exact (hn xs a (Option.some.inj e1) (Option.some.inj (Option.some.inj h3)) k ys k2 h4).symm
    · rw [List.getElem?_set_ne (Ne.symm n1)] at h3
      rw [List.getElem?_set_self (by rw [hE.len]; exact l2)] at h4
      exact hn ys a (Option.some.inj e2) (Option.some.inj (Option.some.inj h4)) j xs k1 h3
    · rw [List.getElem?_set_ne (Ne.symm n1)] at h3
      rw [List.getElem?_set_ne (Ne.symm n2)] at h4
      exact hE.sep j k xs ys a k1 k2 h3 h4
theorem OwnF.set {v : V} {r : Rv} (ho : OwnF H0 σV σ) (i : Nat) (hn : ∀ xs a, r = .own xs → v = .ref a → H0 a = none) : OwnF H0 (σV.set i (some v)) (setR σ i r) := fun j xs a h1 h2 => by
  rcases set_get h1 with ⟨rfl, e1, l1⟩ | ⟨n1, h1⟩
  · cases e1
    rcases set_get h2 with ⟨_, e2, l2⟩ | ⟨n2, h2⟩
    · cases e2; exact hn xs a rfl rfl
    · exact absurd rfl n2
  · rw [List.getElem?_set_ne (Ne.symm n1)] at h2
    exact ho j xs a h1 h2
/-- a list of one's own is shared from now on -/
theorem StOk.freeze (h : StOk K g0 H0 Hs g H σV σ st) {i : Nat} {xs : List PyData} (hi : σ[i]? = some (some (.own xs))) : ∃ a vs, σV[i]? = some (some (.ref a)) ∧ H a = some (.lst vs) ∧ ∀ o, StOk K g0 H0 Hs g (upd H a (.frz o (.lst vs))) σV (Wk.setR σ i (.d (.list xs))) st := by
  obtain ⟨v, h1, a, vs, rfl, h2, h3, h4⟩ := h.env.get i _ hi
  have nS : ∀ u, H a = some u → ¬ Fix u := fun u e s => by rw [h2] at e; cases e; exact s
  have il : i < σ.length := (List.getElem?_eq_some_iff.mp hi).1
  refine ⟨a, vs, h1, h2, fun o => ⟨⟨h.env.tb, by unfold Wk.setR; rw [List.length_set]; exact h.env.len, fun j r e => ?_, fun j k ys zs b e1 e2 e3 e4 => ?_⟩, fun j ys b e1 e2 => ?_, h.sto.upd h3 nS, h.frm.frzNew (h.own i xs a hi h1) h2, h.stl.trans (Still.upd nS)⟩⟩
  · rcases set_get e with ⟨rfl, e, _⟩ | ⟨hj, e⟩
    · cases e
      exact ⟨_, h1, .lst (.inl ⟨o, upd_same⟩) (h4.still (Still.upd nS))⟩
    · obtain ⟨v, e1, e2⟩ := h.env.get j r e
      refine ⟨v, e1, ?_⟩
      cases r with
      | d p => exact Rep.still (Still.upd nS) e2
      | own ys =>
        obtain ⟨b, ws, rfl, b1, b2, b3⟩ := e2
        have nb : b ≠ a := fun z => hj (h.env.sep j i ys xs a e hi (z ▸ e1) h1)
        exact ⟨b, ws, rfl, by rw [upd_ne nb]; exact b1, b2, b3.still (Still.upd nS)⟩
      | exc c =>
        obtain ⟨b, D, rfl, b1, b2, b3⟩ := e2
        exact ⟨b, D, rfl, by rw [upd_ne (excV_ne b1 h2)]; exact b1, b2, b3⟩
      | obj n => exact e2
  · rcases set_get e1 with ⟨_, e, _⟩ | ⟨_, e1⟩
    · cases e
    · rcases set_get e2 with ⟨_, e, _⟩ | ⟨_, e2⟩
      · cases e
      · exact h.env.sep j k ys zs b e1 e2 e3 e4
  · rcases set_get e1 with ⟨_, e, _⟩ | ⟨_, e1⟩
    · cases e
    · exact h.own j ys b e1 e2
end
end Wk

end

section
set_option Elab.async false
set_option linter.all false
set_option maxRecDepth 100000
set_option maxHeartbeats 1000000
/-! Small statements. -/
namespace Wk
open PySem PySem.Spec PyProof.Rows L2
section
variable {K : PySem.W.Frag} {cv : Nat → Value} {W : WX} {g0 g g1 : Gh} {H0 Hs H H1 : Hp} {σV : L2.St} {σ : En} {st st1 : Sto}
/-- a list of one's own is written -/
theorem StOk.write (h : StOk K g0 H0 Hs g H σV σ st) {i : Nat} {xs ys : List PyData} {a : Addr} {vs ws : List V} (hi : σ[i]? = some (some (.own xs))) (ha : σV[i]? = some (some (.ref a))) (hl : H a = some (.lst vs)) (hn : a ∉ g.fa) (hr : RepAll K H ws ys) :
    StOk K g0 H0 Hs g (upd H a (.lst ws)) σV (Wk.setR σ i (.own ys)) st := by
  have nS : ∀ u, H a = some u → ¬ Fix u := fun u e s => by rw [hl] at e; cases e; exact s
  have h0 : H0 a = none := h.own i xs a hi ha
  refine ⟨⟨h.env.tb, by unfold Wk.setR; rw [List.length_set]; exact h.env.len, fun j r e => ?_, fun j k ys zs b e1 e2 e3 e4 => ?_⟩, fun j ys b e1 e2 => ?_, h.sto.upd hn nS, h.frm.updNew (K := K) h0 hl, h.stl.trans (Still.upd nS)⟩
  · rcases set_get e with ⟨rfl, e, _⟩ | ⟨hj, e⟩
    · cases e
      exact ⟨_, ha, a, ws, rfl, upd_same, hn, hr.still (Still.upd nS)⟩
    · obtain ⟨v, e1, e2⟩ := h.env.get j r e
      refine ⟨v, e1, ?_⟩
      cases r with
      | d p => exact Rep.still (Still.upd nS) e2
      | own ys =>
        obtain ⟨b, ws, rfl, b1, b2, b3⟩ := e2
        have nb : b ≠ a := fun z => hj (h.env.sep j i ys xs a e hi (z ▸ e1) ha)
        exact ⟨b, ws, rfl, by rw [upd_ne nb]; exact b1, b2, b3.still (Still.upd nS)⟩
      | exc c =>
        obtain ⟨b, D, rfl, b1, b2, b3⟩ := e2
        exact ⟨b, D, rfl, by rw [upd_ne (excV_ne b1 hl)]; exact b1, b2, b3⟩
      | obj n => exact e2
  · rcases set_get e1 with ⟨rfl, e, _⟩ | ⟨n1, k1⟩ <;> rcases set_get e2 with ⟨rfl, e', _⟩ | ⟨n2, k2⟩
    · rfl
    · have e3 := e3.symm.trans ha
      cases e3
      exact (h.env.sep k j zs xs a k2 hi e4 ha).symm
    · have e4 := e4.symm.trans ha
      cases e4
      exact h.env.sep j k _ xs a k1 hi e3 ha
    · exact h.env.sep j k _ _ b k1 k2 e3 e4
  · rcases set_get e1 with ⟨rfl, _, _⟩ | ⟨_, e1⟩
    · rw [ha] at e2; cases e2; exact h0
    · exact h.own j ys b e1 e2
theorem StOk.mono (h : StOk K g0 H0 Hs g H σV σ st) (f : Frm g H g1 H1) (s : SRep g1 H1 st1) : StOk K g0 H0 Hs g1 H1 σV σ st1 := ⟨h.env.mono f, h.own, s, h.frm.trans f, h.stl.trans f.still⟩
/-- a value is stored -/
theorem StOk.store {v : V} {r : Rv} (h : StOk K g0 H0 Hs g H σV σ st) (f : Frm g H g1 H1) (s : SRep g1 H1 st1) (hv : VR K g1 H1 v r) (hf : ∀ xs a, r = .own xs → v = .ref a → H a = none) (i : Nat) : StOk K g0 H0 Hs g1 H1 (σV.set i (some v)) (Wk.setR σ i r) st1 :=
  ⟨(h.env.mono f).setR hv i (fun xs a e1 e2 j ys e3 e4 => by
      obtain ⟨w, q1, b, ws, rfl, q2, _⟩ := h.env.get j _ e3
      have q1 := e4.symm.trans q1
      cases q1
      have q3 := hf xs a e1 e2
      rw [q3] at q2; cases q2), h.own.set i fun xs a e1 e2 => h.frm.live a (hf xs a e1 e2), s, h.frm.trans f, h.stl.trans f.still⟩
end

section
variable {W : Wd} {cv : Nat → Value} {T : Nat → Option Fn} {n : Nat} {N : List Str} {sc : Scope} {X : Cx} {W' : WX}
theorem loc_of (C : Cxt W cv T n N sc X) {i : Nat} {x : Str} (h : asgB N sc i x = true) : X.N[i]? = some x ∧ Loc X.env.scope x := by
  unfold asgB at h
  simp only [Bool.and_eq_true, decide_eq_true_eq] at h
  refine ⟨by rw [C.hN]; exact h.1, ?_⟩
  rw [C.hsc]
  have h2 := h.2
  unfold locB at h2
  split at h2
  · exact .inl (by assumption)
  · exact .inr (by assumption)
  · cases h2
theorem swaps_eq (C : Cxt W cv T n N sc X) (S : Sxt X W') {ex : Expr} {x : Str} {p : Pos} {l : Nat} (h : noSC ex = true) : swapsWith ex (some (.Name x p)) l X.env = pure (swB sc ex x p) := by
  have hb : X.env.blockKind = .function := by unfold Env.blockKind; rw [S.kind]; rfl
  have hk : X.env.kindOf x = sc.names.lookup x := by rw [← C.hsc]; rfl
  cases ex with
  | ListComp elt gs s cp =>
    unfold swapsWith swB
    simp only [hb, hk, Expr.pos]
    have e : (List.lookup x sc.names == some NameKind.local) = decide (List.lookup x sc.names = some NameKind.local) := by
      cases List.lookup x sc.names with
      | none => rfl
      | some k => cases k <;> rfl
    rw [e]
    rfl
  | SetComp => cases h
  | DictComp => cases h
  | _ => rfl
variable {ex : Expr} {e : Tm} {x : Str} {p pos : Pos} {i : Nat} {D : Ends} {σV : L2.St} {H : Hp}
theorem asg_read (fe : fresh e = true) (h : tS X.K cv (callF T n) W' (.asg i e) D σV H) : tE X.K cv (callF T n) W' e σV H (FzV fun v H1 => D.nx (σV.set i (some v)) H1) := by
  obtain ⟨g0, H0, Hs, g, st, σ, hk, hev⟩ := h
  have hev : Ent ((evE (callF T n) σ e >>= fun x => pure (.nx, setR σ i (frz x))) st) (FinS X.K g0 H0 Hs D) (ExcS cv W' g0 H0) := hev
  refine ⟨g, st, σ, hk.env, hk.sto, (Ent.bind hev).mono (fun r st1 h v g1 H1 f1 s1 hv hf => ?_) fun c st1 h => ExcS.expr hk h⟩
  exact freeze_new f1 s1 hv (hf fe) fun H2 f2 s2 hv2 => Ent.pure h g1 H2 _ (hk.store f2 s2 hv2 (fun xs a e => absurd e (frz_not xs)) i)
theorem asgO_read (fe : fresh e = true) (h : tS X.K cv (callF T n) W' (.asgO i e) D σV H) : tE X.K cv (callF T n) W' e σV H (fun v H1 => D.nx (σV.set i (some v)) H1) := by
  obtain ⟨g0, H0, Hs, g, st, σ, hk, hev⟩ := h
  have hev : Ent ((evE (callF T n) σ e >>= fun x => pure (.nx, setR σ i x)) st) (FinS X.K g0 H0 Hs D) (ExcS cv W' g0 H0) := hev
  refine ⟨g, st, σ, hk.env, hk.sto, (Ent.bind hev).mono (fun r st1 h v g1 H1 f1 s1 hv hf => ?_) fun c st1 h => ExcS.expr hk h⟩
  exact Ent.pure h g1 H1 _ (hk.store f1 s1 hv (hf fe) i)
/-- name = e, by any reading of e -/
theorem ps_name (C : Cxt W cv T n N sc X) (S : Sxt X W') (hn : asgB N sc i x = true) (hs : noSC ex = true) (hsw : swB sc ex x p = false) {te : TE} (he : PE X ex te) : PS X (.Assign [.Name x p] ex pos) (tAsg te (gName i)) := by
  obtain ⟨h1, h2⟩ := loc_of C hn
  exact ps_set (by rw [C.hN]; exact C.nd) h1 h2 he (by rw [swaps_eq C S hs, hsw]) (.inl (S.fn x))
theorem swB_comp (h : swB sc ex x p = true) : sc.names.lookup x = some .local := by
  cases ex <;> first | (cases h; done) | skip
  unfold swB at h
  simp only [Bool.and_eq_true, decide_eq_true_eq] at h
  exact h.1.1
theorem ps_comp (C : Cxt W cv T n N sc X) (S : Sxt X W') {elt tg it : Expr} {ifs : List Expr} {scope : Scope} {cp : Pos} {te a b cond : Tm} {t : Tg} {k : Ik} {own : List Nat} (P : CompP W cv T n N sc X W' te a b cond t k own elt tg it ifs scope)
    (hn : asgB N sc i x = true) (hsw : swB sc (.ListComp elt [⟨tg, it, ifs, 0⟩] scope cp) x p = true) :
    PS X (.Assign [.Name x p] (.ListComp elt [⟨tg, it, ifs, 0⟩] scope cp) pos) (tAsg (tE X.K cv (callF T n) W' (.comp te t k a b own cond)) (gName i)) := by
  obtain ⟨h1, h2⟩ := loc_of C hn
  refine PS.mono (ps_setLc (C.calm P.hot) (by rw [C.hN]; exact C.nd) h1 (by rw [C.hsc]; exact swB_comp hsw) (by rw [swaps_eq C S rfl, hsw]) P.pi P.ok P.pg P.ifs P.elt P.set) fun D σV H hq => ?_
  rw [ownOk_snd]
  exact lc_read P.mem P.fr hq
end
end Wk

end

section
set_option Elab.async false
set_option linter.all false
set_option maxRecDepth 100000
set_option maxHeartbeats 1000000
/-! More statements. -/
namespace Wk
open PySem PySem.Spec PyProof.Rows L2
section
variable {W : Wd} {cv : Nat → Value} {T : Nat → Option Fn} {n : Nat} {N : List Str} {sc : Scope} {X : Cx} {W' : WX} {ex : Expr} {e : Tm} {x : Str} {p pos : Pos} {i : Nat} {D : Ends} {σV : L2.St} {H : Hp}
/-! ### in step -/
theorem par_line (C : Cxt W cv T n N sc X) : ∀ {l : Nat} {is : List Nat} {ts : List Expr}, parN sc N l is ts = true → ∃ xs : List (Str × Pos), ts = xs.map (fun q => Expr.Name q.1 q.2) ∧ is.length = xs.length ∧ (∀ q ∈ xs, sc.names.lookup q.1 = some .local ∧ (q.2.line == l) = true) ∧ ∀ (j i : Nat), is[j]? = some i → ∃ q, xs[j]? = some q ∧ N[i]? = some q.1
  | l, [], [], _ => ⟨[], rfl, rfl, (fun _ h => nomatch h), fun j i h => by simp at h⟩
  | l, [], _ :: _, h => by cases h
  | l, _ :: _, [], h => by cases h
  | l, i :: is, e :: es, h => by
    cases e with
    | Name x p =>
      have h : (decide (N[i]? = some x) && decide (sc.names.lookup x = some .local) && (p.line == l) && parN sc N l is es) = true := h
      simp only [Bool.and_eq_true, decide_eq_true_eq] at h
      obtain ⟨⟨⟨h1, h2⟩, h3⟩, h4⟩ := h
      obtain ⟨xs, rfl, e2, e3, e4⟩ := par_line C h4
      refine ⟨(x, p) :: xs, rfl, by simp [e2], fun q hq => ?_, fun j k hk => ?_⟩
      · rcases List.mem_cons.mp hq with rfl | hq
        · exact ⟨h2, h3⟩
        · exact e3 q hq
      · cases j with
        | zero => simp at hk; subst hk; exact ⟨_, rfl, h1⟩
        | succ j => obtain ⟨q, q1, q2⟩ := e4 j k (by simpa using hk); exact ⟨q, by simpa using q1, q2⟩
    | _ => cases h
theorem FinA.vals {K : PySem.W.Frag} {g : Gh} {H : Hp} {vs : List V} {rs : List Rv} (h : VRs K g H vs rs) : ∀ (j : Nat) (v : V), vs[j]? = some v → ∃ r, rs[j]? = some r ∧ VR K g H v r := by
  induction h with
  | nil => intro j v e; simp at e
  | cons a r ih =>
    intro j v e
    cases j with
    | zero => simp at e; subst e; exact ⟨_, rfl, a⟩
    | succ j => obtain ⟨r, h1, h2⟩ := ih j v (by simpa using e); exact ⟨r, by simpa using h1, h2⟩
theorem sw_par (C : Cxt W cv T n N sc X) (S : Sxt X W') {vs : List Expr} {x y : Str} {px py pt pt2 : Pos} {kt k2 : Nat} (hx : sc.names.lookup x = some .local) (hy : sc.names.lookup y = some .local) (l1 : (py.line == px.line) = true) (hxy : x ≠ y)
    (hl : vs.length = 2) (hst : vs.all notStar = true) (h1 : vs.all (foldedForSure 8) = false) (h2 : vs.all (constantsAlone 8) = false) :
    swappedStores [.Tuple [.Name x px, .Name y py] kt pt] (.Tuple vs k2 pt2) X.env = pure (some [x, y]) := by
  have hb : X.env.blockKind = .function := by unfold Env.blockKind; rw [S.kind]; rfl
  have kx : X.env.kindOf x = some .local := by rw [← hx, ← C.hsc]; rfl
  have ky : X.env.kindOf y = some .local := by rw [← hy, ← C.hsc]; rfl
  have l1 : py.line = px.line := by simpa using l1
  have hs : (vs.any fun | .Starred .. => true | _ => false) = false := by
    rw [List.any_eq_false]
    intro e he
    rw [List.all_eq_true] at hst
    have := hst e he
    cases e <;> first | (cases this; done) | simp
  have nd : [x, y].eraseDups = [x, y] := by
    simp [List.eraseDups_cons, hxy, Ne.symm hxy]
  unfold swappedStores
  simp [hb, kx, ky, l1, hl, hs, h1, h2, Expr.pos, nd]
  intro e he hm
  exact absurd hm (List.any_eq_false.mp hs e he)
theorem sw_par3 (C : Cxt W cv T n N sc X) (S : Sxt X W') {vs : List Expr} {x y z : Str} {px py pz pt pt2 : Pos} {kt k2 : Nat} (hx : sc.names.lookup x = some .local) (hy : sc.names.lookup y = some .local) (hz : sc.names.lookup z = some .local) (l1 : (py.line == px.line) = true) (l2 : (pz.line == px.line) = true) (hxy : x ≠ y) (hxz : x ≠ z) (hyz : y ≠ z)
    (hl : vs.length = 3) (hst : vs.all notStar = true) (h1 : vs.all (foldedForSure 8) = false) (h2 : vs.all (constantsAlone 8) = false) :
    swappedStores [.Tuple [.Name x px, .Name y py, .Name z pz] kt pt] (.Tuple vs k2 pt2) X.env = pure (some [x, y, z]) := by
  have hb : X.env.blockKind = .function := by unfold Env.blockKind; rw [S.kind]; rfl
  have kx : X.env.kindOf x = some .local := by rw [← hx, ← C.hsc]; rfl
  have ky : X.env.kindOf y = some .local := by rw [← hy, ← C.hsc]; rfl
  have kz : X.env.kindOf z = some .local := by rw [← hz, ← C.hsc]; rfl
  have l1 : py.line = px.line := by simpa using l1
  have l2 : pz.line = px.line := by simpa using l2
  have hs : (vs.any fun | .Starred .. => true | _ => false) = false := by
    rw [List.any_eq_false]
    intro e he
    rw [List.all_eq_true] at hst
    have := hst e he
    cases e <;> first | (cases this; done) | simp
  have nd : [x, y, z].eraseDups = [x, y, z] := by
    simp [List.eraseDups_cons, hxy, Ne.symm hxy, hxz, Ne.symm hxz, hyz, Ne.symm hyz]
  unfold swappedStores
  simp [hb, kx, ky, kz, l1, l2, hl, hs, h1, h2, Expr.pos, nd]
  intro e he hm
  exact absurd hm (List.any_eq_false.mp hs e he)
theorem VRs.two' {K : PySem.W.Frag} {g : Gh} {H : Hp} {vs : List V} {r1 r2 : Rv} (h : VRs K g H vs [r1, r2]) : ∃ v1 v2, vs = [v1, v2] ∧ VR K g H v1 r1 ∧ VR K g H v2 r2 := by
  cases h with
  | cons a r => cases r with
    | cons b r => cases r; exact ⟨_, _, rfl, a, b⟩
theorem VRs.three {K : PySem.W.Frag} {g : Gh} {H : Hp} {vs : List V} {r1 r2 r3 : Rv} (h : VRs K g H vs [r1, r2, r3]) : ∃ v1 v2 v3, vs = [v1, v2, v3] ∧ VR K g H v1 r1 ∧ VR K g H v2 r2 ∧ VR K g H v3 r3 := by
  cases h with
  | cons a r => cases r with
    | cons b r => cases r with
      | cons c r => cases r; exact ⟨_, _, _, rfl, a, b, c⟩
theorem StOk.put {K : PySem.W.Frag} {g0 g : Gh} {H0 Hs H : Hp} {σV : L2.St} {σ : En} {st : Sto} {v : V} {r : Rv} (h : StOk K g0 H0 Hs g H σV σ st) (hv : VR K g H v r) (hn : ∀ xs, r ≠ .own xs) (i : Nat) : StOk K g0 H0 Hs g H (σV.set i (some v)) (Wk.setR σ i r) st :=
  ⟨h.env.setR hv i fun xs _ e => absurd e (hn xs), h.own.set i fun xs _ e => absurd e (hn xs), h.sto, h.frm, h.stl⟩
theorem setRs_len : ∀ {is : List Nat} {rs : List Rv} {σ : En} {α : Type} {f : En → M α} {st : Sto} {Q : α → Sto → Prop} {E : Nat → Sto → Prop}, Ent ((setRs σ is rs >>= f) st) Q E → rs.length = is.length
  | [], [], _, _, _, _, _, _, _ => rfl
  | [], _ :: _, _, _, _, _, _, _, h => h.elim
  | _ :: _, [], _, _, _, _, _, _, h => h.elim
  | i :: is, r :: rs, σ, α, f, st, Q, E, h => by
    have h : Ent ((setRs (setR σ i r) is rs >>= f) st) Q E := h
    simp [setRs_len h]
theorem stm_par2 (C : Cxt W cv T n N sc X) (hh : W.hot = false) (S : Sxt X W') {i j : Nat} {es : Tms} {x y : Str} {px py pt pt2 pos : Pos} {kt k2 : Nat} {ea eb : Expr} (hi : N[i]? = some x) (hj : N[j]? = some y) (hij : i ≠ j)
    (hx : sc.names.lookup x = some .local) (hy : sc.names.lookup y = some .local) (hw : swappedStores [.Tuple [.Name x px, .Name y py] kt pt] (.Tuple [ea, eb] k2 pt2) X.env = pure (some [x, y])) (ha : PA X [ea, eb] (tA X.K cv (callF T n) W' es)) :
    PS X (.Assign [.Tuple [.Name x px, .Name y py] kt pt] (.Tuple [ea, eb] k2 pt2) pos) (tS X.K cv (callF T n) W' (.asgN [i, j] es)) := by
  refine PS.mono (ps_par (C.calm hh) (by rw [C.hN]; exact C.nd) (by rw [C.hN]; exact hi) (by rw [C.hN]; exact hj) hij (by rw [C.hsc]; exact hx) (by rw [C.hsc]; exact hy) ha hw) fun D σV H hq => ?_
  obtain ⟨g0, H0, Hs, g, st, σ, hk, hev⟩ := hq
  have hev : Ent ((evA (callF T n) σ es >>= fun xs => setRs σ [i, j] xs >>= fun σ1 => pure (.nx, σ1)) st) (FinS X.K g0 H0 Hs D) (ExcS cv W' g0 H0) := hev
  refine ⟨g, st, σ, hk.env, hk.sto, (Ent.bind hev).mono (fun rs st1 h vs g1 H1 f1 s1 hv hno => ?_) fun c st1 h => ExcS.expr hk h⟩
  have hl := setRs_len h
  match rs, hl, h, hv, hno with
  | [r1, r2], _, h, hv, hno =>
    obtain ⟨v1, v2, rfl, a1, a2⟩ := hv.two'
    exact ⟨v1, v2, rfl, Ent.pure h g1 H1 _ (((hk.mono f1 s1).put a1 (hno _ (by simp)) i).put a2 (hno _ (by simp)) j)⟩
theorem stm_par3 (C : Cxt W cv T n N sc X) (hh : W.hot = false) (S : Sxt X W') {i j l : Nat} {es : Tms} {x y z : Str} {px py pz pt pt2 pos : Pos} {kt k2 : Nat} {ea eb ec : Expr} (hi : N[i]? = some x) (hj : N[j]? = some y) (hl : N[l]? = some z) (hij : i ≠ j) (hil : i ≠ l) (hjl : j ≠ l)
    (hx : sc.names.lookup x = some .local) (hy : sc.names.lookup y = some .local) (hz : sc.names.lookup z = some .local) (hw : swappedStores [.Tuple [.Name x px, .Name y py, .Name z pz] kt pt] (.Tuple [ea, eb, ec] k2 pt2) X.env = pure (some [x, y, z])) (ha : PA X [ea, eb, ec] (tA X.K cv (callF T n) W' es)) :
    PS X (.Assign [.Tuple [.Name x px, .Name y py, .Name z pz] kt pt] (.Tuple [ea, eb, ec] k2 pt2) pos) (tS X.K cv (callF T n) W' (.asgN [i, j, l] es)) := by
  refine PS.mono (ps_par3 (C.calm hh) (by rw [C.hN]; exact C.nd) (by rw [C.hN]; exact hi) (by rw [C.hN]; exact hj) (by rw [C.hN]; exact hl) hij hil hjl (by rw [C.hsc]; exact hx) (by rw [C.hsc]; exact hy) (by rw [C.hsc]; exact hz) ha hw) fun D σV H hq => ?_
  obtain ⟨g0, H0, Hs, g, st, σ, hk, hev⟩ := hq
  have hev : Ent ((evA (callF T n) σ es >>= fun xs => setRs σ [i, j, l] xs >>= fun σ1 => pure (.nx, σ1)) st) (FinS X.K g0 H0 Hs D) (ExcS cv W' g0 H0) := hev
  refine ⟨g, st, σ, hk.env, hk.sto, (Ent.bind hev).mono (fun rs st1 h vs g1 H1 f1 s1 hv hno => ?_) fun c st1 h => ExcS.expr hk h⟩
  have hl := setRs_len h
  match rs, hl, h, hv, hno with
  | [r1, r2, r3], _, h, hv, hno =>
    obtain ⟨v1, v2, v3, rfl, a1, a2, a3⟩ := hv.three
    exact ⟨v1, v2, v3, rfl, Ent.pure h g1 H1 _ ((((hk.mono f1 s1).put a1 (hno _ (by simp)) i).put a2 (hno _ (by simp)) j).put a3 (hno _ (by simp)) l)⟩
/-! ### a tuple is unpacked -/
theorem swap_none {ts : List Expr} {kt : Nat} {pt : Pos} (h : (notTup ex || tup4 ex ts.length) = true) : swappedStores [.Tuple ts kt pt] ex X.env = pure none := by
  unfold swappedStores
  cases ex <;> first | rfl | skip
  case Tuple vs k p =>
    have h : tup4 (.Tuple vs k p) ts.length = true := by simpa [notTup] using h
    unfold tup4 at h
    simp only [Bool.and_eq_true, decide_eq_true_eq] at h
    have n2 : ts.length ≠ 2 := by omega
    have n3 : ts.length ≠ 3 := by omega
    simp [n2, n3]
theorem swap_cell (C : Cxt W cv T n N sc X) {ts : List Expr} {kt : Nat} {pt : Pos} (h : cellT sc ex ts = true) : swappedStores [.Tuple ts kt pt] ex X.env = pure none := by
  unfold cellT at h
  simp only [Bool.and_eq_true, List.any_eq_true] at h
  obtain ⟨h1, t, ht, h2⟩ := h
  cases ex <;> first | (cases h1; done) | skip
  rename_i vs k p
  have hl : ∀ l : Nat, (ts.filterMap fun t => match t with
      | .Name id pos => if (X.env.kindOf id == some NameKind.local && pos.line == l) = true then some id else none
      | _ => none).length ≠ ts.length := fun l z => by
    rw [List.filterMap_length_eq_length] at z
    have q := z t ht
    cases t <;> first | (cases h2; done) | skip
    rename_i x px
    have kx : X.env.kindOf x = sc.names.lookup x := by rw [← C.hsc]; rfl
    simp only [Bool.not_eq_true', decide_eq_false_iff_not] at h2
    dsimp only at q
    rw [if_neg (by rw [kx]; simp [h2])] at q
    cases q
  unfold swappedStores
  simp only [pure_bind]
  split
  · rfl
  · split
    · rfl
    · rw [if_pos (by simp only [Bool.or_eq_true, bne_iff_ne]; exact .inl (hl _))]
theorem swap_cons {ts : List Expr} {kt : Nat} {pt : Pos} (h : consT ex = true) : swappedStores [.Tuple ts kt pt] ex X.env = pure none := by
  unfold consT at h
  cases ex <;> first | (cases h; done) | skip
  rename_i vs k p
  have h : vs.all (foldedForSure 8) = true := h
  unfold swappedStores
  simp only [pure_bind]
  split
  · rfl
  · split
    · rfl
    · split
      · rfl
      · first | rfl | (rw [if_pos h])
theorem stm_unp (C : Cxt W cv T n N sc X) (hh : W.hot = false) (S : Sxt X W') {is : List Nat} {ts : List Expr} {kt : Nat} {pt : Pos} (ht : tgAll (fun _ => true) N sc (.many is) (.Tuple ts kt pt) = true) (hc : notCs ex = true) (hw : (notTup ex || tup4 ex ts.length || cellT sc ex ts || consT ex) = true) (he : PE X ex (tE X.K cv (callF T n) W' e)) :
    PS X (.Assign [.Tuple ts kt pt] ex pos) (tS X.K cv (callF T n) W' (.unp is e)) := by
  have hs : swapsWithSole [.Tuple ts kt pt] ex pos.line X.env = pure false := by cases ex <;> first | rfl | cases hc
  refine PS.mono (ps_asg he (pg_of (c := fun _ => true) (fun x _ => S.fn x) (C.calm hh) C.hN C.nd C.hsc ht) hs ((Bool.or_eq_true _ _).mp hw |>.elim (fun hw => (Bool.or_eq_true _ _).mp hw |>.elim swap_none (swap_cell C)) swap_cons)) fun D σV H hq => ?_
  obtain ⟨g0, H0, Hs, g, st, σ, hk, hev⟩ := hq
  have hev : Ent ((evE (callF T n) σ e >>= fun x => match x with
    | .d (.tuple ps) => setAll σ is ps >>= fun σ1 => pure (.nx, σ1)
    | _ => bad) st) (FinS X.K g0 H0 Hs D) (ExcS cv W' g0 H0) := hev
  refine ⟨g, st, σ, hk.env, hk.sto, (Ent.bind hev).mono (fun r st1 h v g1 H1 f1 s1 hv _ => ?_) fun c st1 h => ExcS.expr hk h⟩
  match r, hv, h with
  | .d (.tuple ps), hv, h =>
    refine gTg_okP (st := st1) (t := .many is) (P := fun σV σ => StOk X.K g0 H0 Hs g1 H1 σV σ st1) (fun σV σ i v p h hv => h.put (r := .d p) hv (fun _ z => by cases z) i) (hk.mono f1 s1) hv (Ent.bind h) fun σV2 σ2 h2 _ h3 => ?_
    exact Ent.pure h3 g1 H1 σV2 h2
end
end Wk

end

section
set_option Elab.async false
set_option linter.all false
set_option maxRecDepth 100000
set_option maxHeartbeats 2000000
/-! try: .. except X as n: kept = n, where the exception lives on as a value. -/
namespace Wk
open PySem PySem.Spec PyProof.Rows L2
section
variable {X : Cx} {pins : List (Addr × Obj)} {σ : L2.St} {H : Hp} {s : Shared}
/-- a caught exception's object is known from now on -/
theorem Inv.known {a : Addr} {oe : Obj} {vs : Array Value} {cls : Value} (I : L2.Inv X pins σ H s) (ha : s.heap.get? a = some oe) (hz : Zc cls none oe) (hv : oe.data = .fields vs) (na : H a = none) (n0 : X.s_0.heap.get? a = none) (nl : a ≠ X.env.locals) (nc : ∀ y c, X.env.cells.lookup y = some c → c ≠ a) (np : ∀ p ∈ X.pn ++ pins, p.1 ≠ a) :
    L2.Inv X pins σ (upd H a (ExcV cls a)) s := by
  have ne : ∀ {b : Addr} {u : HO}, H b = some u → b ≠ a := fun {b u} e z => by subst z; rw [na] at e; cases e
  refine ⟨I.ok, I.os, I.bare, ⟨I.base.keep, I.base.slot, fun b ob e n hx => ?_, I.base.there, fun b ys e => ?_, fun b ob u e => ?_, fun b ps e => ?_⟩, I.loc, I.cell, ?_, fun y c e => ?_, fun p hp => ?_, fun b u e => ?_, I.len⟩
  · rw [upd_ne fun z => by subst z; rw [n0] at e; cases e]
    exact I.base.free b ob e n hx
  · have q := I.base.tups b ys e
    rw [upd_ne (ne q)]; exact q
  · have q := I.base.frzs b ob u e
    rw [upd_ne (ne q)]; exact q
  · obtain ⟨m, q⟩ := I.base.tbls b ps e
    exact ⟨m, by rw [upd_ne (ne q)]; exact q⟩
  · rw [upd_ne (Ne.symm nl)]; exact I.free
  · rw [upd_ne (nc y c e)]; exact I.freeC y c e
  · obtain ⟨q1, q2, q3⟩ := I.pin p hp
    exact ⟨q1, by rw [upd_ne (np p hp)]; exact q2, q3⟩
  · by_cases hb : b = a
    · subst hb
      rw [upd_same] at e
      cases e
      exact ⟨⟨oe, vs, ha, hz, hv⟩, ⟨oe, ha⟩, fun h3 h4 ⟨o5, v5, q5, r5⟩ k5 => ⟨o5, v5, k5 o5 q5, r5⟩⟩
    · rw [upd_ne hb] at e
      refine (I.hok b u e).stay (fun c v _ q => q) (fun c q => ?_) fun c ys q => ?_
      · rw [upd_ne (ne q)]; exact q
      · rw [upd_ne (ne q)]; exact q
end
/-- what is wished of an exception of the body: i the clause's name, k where it is kept -/
def wKeep (K : PySem.W.Frag) (c : Value) (i k : Nat) (D : Ends) : WX := fun cls d σ H =>
  PySem.W.exmOne K cls c = some true ∧ d = none ∧ ∀ a, H a = none → D.nx (((σ.set i (some (.ref a))).set k (some (.ref a))).set i none) (upd H a (ExcV cls a))
section
variable {X : Cx} {x n kn : Str} {c : Value} {i k : Nat} {body : List Stmt} {np q2 q3 q4 hpos pos : Pos} {tb : WX → TS}
theorem ps_try_keep (st : X.stack = X.env :: X.outer) (fr : X.env.frame = some X.env.locals) (nd : X.N.Nodup) (ni : X.N[i]? = some n) (li : X.env.kindOf n = some .local) (nk : X.N[k]? = some kn) (lk : Loc X.env.scope kn) (fk : X.fn kn = true) (ex0 : X.ex = [])
    (db1 : (n == ("__debug__" : Str)) = false) (db2 : (n == ("__classdict__" : Str)) = false) (nm : Names X x c)
    (hb : ∀ (W : WX) (pn : List (Addr × Obj)) (xe : Value → Shared → Prop), Takes (X.tr pn xe) W → PassesOwn (model X.prog X.w) X.A X.env xe → PSs (X.tr pn xe) body (tb W)) :
    PS X (.Try body [.ExceptHandler (some (.Name x np)) (some n) [.Assign [.Name kn q2] (.Name n q3) q4] hpos] [] [] pos) (fun D σ H => tb (wKeep X.K c i k D) D σ H) := by
  constructor
  intro pins s0 σ0 H0 D I0 hrd
  have okX := I0.ok
  have frames : X.A.frames = some (X.env :: X.outer) := by rw [okX.frames, st]
  apply wpAny_Try_except
  have bodyRun := (hb (wKeep X.K c i k D) (X.pn ++ pins) (fun ev t1 => wpAny (model X.prog X.w) X.A (noteFrame ev X.env) (fun _ t2 => wpAny (model X.prog X.w) X.A (setFlight ev none) (fun _ t3 =>
    wpAny (model X.prog X.w) X.A (handleBy ev X.env [.ExceptHandler (some (.Name x np)) (some n) [.Assign [.Name kn q2] (.Name n q3) q4] hpos]) (SP X pins D) X.xe t3) X.xe t2) X.xe t1) ?caught PassesOwn.looking).run [] s0 σ0 H0 D (I0.toTry _) hrd
  case caught =>
    rintro u t0 ⟨a, B, sI, pins1, σ1, H1, cls, d, rfl, I1, keepB, slots, sky, na, hos, hag, hexm, rfl, fin⟩
    have J := I1.ofTry okX
    have sky1 : Sky B (X.env :: X.outer) a (Zc cls none) X.env.locals t0.heap := by rw [← st]; exact sky
    show wpAny (model X.prog X.w) X.A (noteFrame (.ref a) X.env) _ _ _
    refine sky1.land Zc.steady frames fr fun g1 fl1 sl1 => ?_
    have K1 : L2.Inv X pins σ1 H1 { t0 with heap := g1 } := J.landed keepB fl1.1 (slots.trans sl1) hos hag
    obtain ⟨o1, w1, e1, z1, d1⟩ := fl1.there
    have notStack : a ∉ frs (X.env :: X.outer) := fun hm => by
      obtain ⟨_, o9, e9, nf9⟩ := fl1.2.2.1.mem hm
      cases e1.symm.trans e9
      exact nf9 _ d1
    have aLoc : a ≠ X.env.locals := fun z => notStack (List.mem_filterMap.mpr ⟨X.env, by simp, by rw [fr, z]⟩)
    have aFs : a ∉ X.fs := fun hm => by
      obtain ⟨ev, hev, qv⟩ := List.mem_filterMap.mp hm
      exact notStack (List.mem_filterMap.mpr ⟨ev, List.mem_cons_of_mem _ hev, qv⟩)
    have aNew : ∀ o, sI.heap.get? a = some o → False := fun o e => by
      have h9 := keepB a o e (by rw [st]; exact notStack)
      rw [fl1.2.1] at h9; cases h9
    have a0 : X.s_0.heap.get? a = none := by
      cases q9 : X.s_0.heap.get? a with
      | none => rfl
      | some o =>
        obtain ⟨o8, e8⟩ := J.base.there a o q9 (by rw [ex0]; exact fun z => nomatch z)
        exact (aNew o8 e8).elim
    have suiteI := K1.suite e1 d1 na aLoc aFs
    refine wpAny_handleBy_cons (codeAny_handlers_test ?_) (by intro q; cases q)
    have looksCls : PySem.W.Looks (model X.prog X.w) g1 (typeOf (.ref a)) cls := fun _ _ _ _ kk qq => wpAny_typeOf_ref (kk _ _ e1) (by rw [z1.1]; exact qq)
    have matchesC := PySem.W.exm_one (M := model X.prog X.w) K1.kIn looksCls hexm
    have named : ∀ {Q E : Value → Shared → Prop}, Q c { t0 with heap := g1 } → wpAny (model X.prog X.w) (X.A.mark (some (.ref a))) (eval (.Name x np) X.env) Q E { t0 with heap := g1 } := fun {Q E} q => by
      obtain ⟨gl, nb, ho | ⟨ho, hv, hne⟩⟩ := nm
      · exact ld_glob (X := X.suite a ((a, o1) :: (X.pn ++ pins))) suiteI gl ho q nb
      · exact ld_blt (X := X.suite a ((a, o1) :: (X.pn ++ pins))) suiteI gl ho hv q hne nb
    apply named
    apply matchesC.here
    apply codeAny_handlers_suite_as
    refine HandSPX.lands_againZ fl1 fun g2 fl2 sl2 => ?_
    have K2 : L2.Inv X pins σ1 H1 { t0 with heap := g2 } := J.landed keepB fl2.1 ((slots.trans sl1).trans sl2) hos hag
    obtain ⟨o2, w2, e2, z2, d2⟩ := fl2.there
    have suite2 := K2.suite e2 d2 na aLoc aFs
    have noCell : ∀ y cc, X.env.cells.lookup y = some cc → cc ≠ a := fun y cc ec z => by
      obtain ⟨vv, ov, eo, dv⟩ := K2.cell y cc ec
      subst z
      cases eo.symm.trans e2
      rw [d2] at dv; cases dv
    have noPin : ∀ p ∈ X.pn ++ pins, p.1 ≠ a := fun p hp z => aNew p.2 (by rw [← z]; exact (J.pin p hp).1)
    refine store_ok (X := X.suite a ((a, o2) :: (X.pn ++ pins))) (v := .ref a) suite2 nd ni (.inl li) rfl (fun t5 I5 => ?_) (.inr li)
    have hlen : i < σ1.length := by rw [K2.len]; exact (List.getElem?_eq_some_iff.mp ni).1
    have step : PSs (X.suite a ((a, o2) :: (X.pn ++ pins))) [.Assign [.Name kn q2] (.Name n q3) q4] (tAsg (tVar i) (gName k)) :=
      pss_one (ps_set (X := X.suite a ((a, o2) :: (X.pn ++ pins))) nd nk lk (pe_var ni (.inl li) db1 db2) rfl (.inl fk))
    have goes := step.run [] t5 _ H1 { nx := fun σ' H' => σ' = (σ1.set i (some (.ref a))).set k (some (.ref a)) ∧ H' = H1, rt := fun _ _ => False, bk := fun _ _ => False, ct := fun _ _ => False } I5 ⟨.ref a, List.getElem?_set_self hlen, rfl, rfl⟩
    refine wpAny_mono goes (fun fl t6 hfl => ?_) fun _ _ z => False.elim z
    cases fl with
    | next =>
      obtain ⟨σ6, H6, I6, rfl, rfl⟩ := hfl
      refine gone_ok (X := X.suite a ((a, o2) :: (X.pn ++ pins))) I6 nd ni li fun t7 I7 => ?_
      have I8 := I7.unsuite okX
      obtain ⟨p1, p2, _⟩ := I7.pin (a, o2) (List.mem_append_left _ List.mem_cons_self)
      exact ⟨_, _, Inv.known I8 p1 z2 d2 na a0 aLoc noCell noPin, fin a na⟩
    | brk => obtain ⟨_, _, _, z⟩ := hfl; exact z.elim
    | cont => obtain ⟨_, _, _, z⟩ := hfl; exact z.elim
    | ret u => obtain ⟨_, _, _, _, _, z⟩ := hfl; exact z.elim
  refine wpAny_mono bodyRun (fun fl t1 hfl => ?_) fun _ _ z => z
  cases fl with
  | next =>
    obtain ⟨σ2, H2, J2, q⟩ := hfl
    exact wpAny_execs_nil ⟨σ2, H2, J2.ofTry okX, q⟩
  | brk =>
    obtain ⟨σ2, H2, J2, q⟩ := hfl
    exact ⟨σ2, H2, J2.ofTry okX, q⟩
  | cont =>
    obtain ⟨σ2, H2, J2, q⟩ := hfl
    exact ⟨σ2, H2, J2.ofTry okX, q⟩
  | ret u =>
    obtain ⟨v, σ2, H2, J2, rv, q⟩ := hfl
    exact ⟨v, σ2, H2, J2.ofTry okX, rv, q⟩
end
section
variable {W : Wd} {cv : Nat → Value} {T : Nat → Option Fn} {n : Nat} {N : List Str} {sc : Scope} {X : Cx} {W' : WX}
/-- a try's body -/
def tTb (K : PySem.W.Frag) (cv : Nat → Value) (F : Nat → List Rv → M Rv) (W : WX) (b : Tb) : TS := fun D σV H => ∃ g0 H0 Hs g st σ, StOk K g0 H0 Hs g H σV σ st ∧
  Ent (evTb F σ b st) (fun σ' st' => ∀ g' H' σV', StOk K g0 H0 Hs g' H' σV' σ' st' → D.nx σV' H') (ExcK cv W g H σV)
theorem Cxt.tr (C : Cxt W cv T n N sc X) (pn : List (Addr × Obj)) (xe : Value → Shared → Prop) : Cxt W cv T n N sc (X.tr pn xe) where
  hN := C.hN
  nd := C.nd
  hsc := C.hsc
  calm := C.calm
  roomH := C.roomH
  hd := C.hd
  fns := C.fns
  cns := C.cns
  bis := C.bis
  kits := C.kits
  cks := C.cks
  tries := C.tries
  tolds := C.tolds
  lam := fun z => let L := C.lam z; ⟨L.tab, L.qual, L.room⟩
  cls := C.cls
theorem sw_plain (C : Cxt W cv T n N sc X) (hk : X.env.scope.kind = .function) {ex : Expr} {x : Str} {p : Pos} {l : Nat} (h4 : noSC ex = true) (hsw : swB sc ex x p = false) : swapsWith ex (some (.Name x p)) l X.env = pure false := by
  have hb : X.env.blockKind = .function := by unfold Env.blockKind; rw [hk]; rfl
  have hkk : X.env.kindOf x = sc.names.lookup x := by rw [← C.hsc]; rfl
  rw [← hsw]
  cases ex with
  | ListComp elt gs s cp =>
    unfold swapsWith swB
    simp only [hb, hkk, Expr.pos]
    have e : (List.lookup x sc.names == some NameKind.local) = decide (List.lookup x sc.names = some NameKind.local) := by
      cases List.lookup x sc.names with
      | none => rfl
      | some k => cases k <;> rfl
    rw [e]; rfl
  | SetComp => cases h4
  | DictComp => cases h4
  | _ => rfl
theorem tTb_asg {K : PySem.W.Frag} {F : Nat → List Rv → M Rv} {i : Nat} {e : Tm} {D : Ends} {σV : L2.St} {H : Hp} (fe : fresh e = true) (hq : tTb K cv F W' (.asg i e) D σV H) : tE K cv F W' e σV H fun v H1 => D.nx (σV.set i (some v)) H1 := by
  obtain ⟨g0, H0, Hs, g, st, σ, hk, hev⟩ := hq
  have hev : Ent ((evE F σ e >>= fun x => pure (setR σ i x)) st) (fun σ' st' => ∀ g' H' σV', StOk K g0 H0 Hs g' H' σV' σ' st' → D.nx σV' H') (ExcK cv W' g H σV) := hev
  exact ⟨g, st, σ, hk.env, hk.sto, (Ent.bind hev).mono (fun r st1 h v g1 H1 f1 s1 hv hf => Ent.pure h g1 H1 _ (hk.store f1 s1 hv (hf fe) i)) fun c st1 h => h⟩
theorem tTb_ite {K : PySem.W.Frag} {F : Nat → List Rv → M Rv} {c : Tm} {a b : Tb} {D : Ends} {σV : L2.St} {H : Hp} (hq : tTb K cv F W' (.ite c a b) D σV H) : tT K cv F W' c σV H fun k H1 => if k = true then tTb K cv F W' a D σV H1 else tTb K cv F W' b D σV H1 := by
  obtain ⟨g0, H0, Hs, g, st, σ, hk, hev⟩ := hq
  have hev : Ent ((evE F σ c >>= fun x => toB x >>= fun k => if k then evTb F σ a else evTb F σ b) st) (fun σ' st' => ∀ g' H' σV', StOk K g0 H0 Hs g' H' σV' σ' st' → D.nx σV' H') (ExcK cv W' g H σV) := hev
  rw [← bind_assoc'] at hev
  refine ⟨g, st, σ, hk.env, hk.sto, (Ent.bind hev).mono (fun k st1 h g1 H1 f1 s1 => ?_) fun c st1 h => h⟩
  cases k with
  | true => exact ⟨g0, H0, Hs, g1, st1, σ, hk.mono f1 s1, h.mono (fun _ _ q => q) fun _ _ q => ExcK.mono f1 q⟩
  | false => exact ⟨g0, H0, Hs, g1, st1, σ, hk.mono f1 s1, h.mono (fun _ _ q => q) fun _ _ q => ExcK.mono f1 q⟩
theorem sndTb : ∀ (b : Tb) {X : Cx} {W' : WX} {sts : List Stmt}, Cxt W cv T n N sc X → Takes X W' → (∀ x, X.fn x = true) → X.env.scope.kind = .function → okTb W N sc b sts = true → PSs X sts (tTb X.K cv (callF T n) W' b)
  | .asg i e, X, W', sts, C, tk, fn, hk, h => by
    unfold okTb at h
    split at h
    · rename_i i' e' x p ex pos eb
      cases eb
      simp only [Bool.and_eq_true, Bool.not_eq_true'] at h
      obtain ⟨⟨⟨⟨h1, h2⟩, h3⟩, h4⟩, hsw⟩ := h
      obtain ⟨l1, l2⟩ := loc_of C h1
      have h5 := ps_set (X := X) (pos := pos) (pos' := p) (by rw [C.hN]; exact C.nd) l1 l2 (sndE e C tk h2).pe (sw_plain C hk h4 hsw) (.inl (fn x))
      have h6 : PS X (.Assign [.Name x p] ex pos) (tTb X.K cv (callF T n) W' (.asg i e)) := PS.mono h5 fun D σV H hq => tTb_asg h3 hq
      exact pss_one h6
    · rename_i eb; cases eb
    · cases h
  | .ite c a b, X, W', sts, C, tk, fn, hk, h => by
    unfold okTb at h
    split at h
    · rename_i eb; cases eb
    · rename_i eb
      cases eb
      simp only [Bool.and_eq_true] at h
      exact pss_one (PS.mono (ps_if (X := X) (sndE c C tk h.1.1).pt (sndTb a C tk fn hk h.1.2) (sndTb b C tk fn hk h.2)) fun D σV H hq => tTb_ite hq)
    · cases h
theorem StOk.unset {K : PySem.W.Frag} {g0 g : Gh} {H0 Hs H : Hp} {σV : L2.St} {σ : En} {st : Sto} (h : StOk K g0 H0 Hs g H σV σ st) (i : Nat) : StOk K g0 H0 Hs g H (σV.set i none) (σ.set i none) st := by
  have gt : ∀ {j : Nat} {r : Rv}, (σ.set i none)[j]? = some (some r) → j ≠ i ∧ σ[j]? = some (some r) := fun {j r} e => by
    rcases set_get e with ⟨_, e, _⟩ | e
    · cases e
    · exact e
  refine ⟨⟨h.env.tb, by rw [List.length_set, List.length_set]; exact h.env.len, fun j r e => ?_, fun j k xs ys b e1 e2 e3 e4 => ?_⟩, fun j xs b e1 e2 => ?_, h.sto, h.frm, h.stl⟩
  · obtain ⟨n1, e⟩ := gt e
    obtain ⟨v, e1, e2⟩ := h.env.get j r e
    exact ⟨v, by rw [List.getElem?_set_ne (Ne.symm n1)]; exact e1, e2⟩
  · obtain ⟨n1, e1⟩ := gt e1
    obtain ⟨n2, e2⟩ := gt e2
    rw [List.getElem?_set_ne (Ne.symm n1)] at e3
    rw [List.getElem?_set_ne (Ne.symm n2)] at e4
    exact h.env.sep j k xs ys b e1 e2 e3 e4
  · obtain ⟨n1, e1⟩ := gt e1
    rw [List.getElem?_set_ne (Ne.symm n1)] at e2
    exact h.own j xs b e1 e2
/-- a name's value goes to another name -/
theorem StOk.move {K : PySem.W.Frag} {g0 g : Gh} {H0 Hs H : Hp} {σV : L2.St} {σ : En} {st : Sto} (h : StOk K g0 H0 Hs g H σV σ st) {i j : Nat} {r : Rv} {v : V} (hj : σ[j]? = some (some r)) (hv : σV[j]? = some (some v)) (hr : VR K g H v r) :
    StOk K g0 H0 Hs g H (σV.set i (some v)) (setR (σ.set j none) i r) st := by
  have gt : ∀ {l : Nat} {q : Rv}, (σ.set j none)[l]? = some (some q) → l ≠ j ∧ σ[l]? = some (some q) := fun {l q} e => by
    rcases set_get e with ⟨_, e, _⟩ | e
    · cases e
    · exact e
  have k : StOk K g0 H0 Hs g H σV (σ.set j none) st := ⟨⟨h.env.tb, by rw [List.length_set]; exact h.env.len, fun l q e => h.env.get l q (gt e).2, fun l m xs ys b e1 e2 => h.env.sep l m xs ys b (gt e1).2 (gt e2).2⟩, fun l xs b e1 => h.own l xs b (gt e1).2, h.sto, h.frm, h.stl⟩
  refine ⟨k.env.setR hr i fun xs a e1 e2 l ys e3 e4 => ?_, k.own.set i fun xs a e1 e2 => h.own j xs a (e1 ▸ hj) (e2 ▸ hv), h.sto, h.frm, h.stl⟩
  obtain ⟨n1, e3⟩ := gt e3
  exact absurd (h.env.sep l j ys xs a e3 (e1 ▸ hj) e4 (e2 ▸ hv)) n1
theorem stm_mov (C : Cxt W cv T n N sc X) (S : Sxt X W') {i j : Nat} {st : Stmt} (h : okS W N sc (.mov i j) st = true) : PS X st (tS X.K cv (callF T n) W' (.mov i j)) := by
  simp only [okS] at h
  split at h
  · simp only [Bool.and_eq_true, decide_eq_true_eq] at h
    obtain ⟨⟨⟨⟨h1, h2⟩, h3⟩, h4⟩, h5⟩ := h
    obtain ⟨l1, l2⟩ := loc_of C h1
    refine PS.mono (ps_set (by rw [C.hN]; exact C.nd) l1 l2 (pe_var (by rw [C.hN]; exact h2) (vis_of C h3) (names_of h4).1 (names_of h4).2) rfl (.inl (S.fn _))) fun D σV H hq => ?_
    obtain ⟨g0, H0, Hs, g, st, σ, hk, hev⟩ := hq
    have hev : Ent ((getR σ j >>= fun x => pure (.nx, setR (σ.set j none) i x)) st) (FinS X.K g0 H0 Hs D) (ExcS cv W' g0 H0) := hev
    unfold getR at hev
    cases q : σ[j]? with
    | none => rw [q] at hev; exact hev.elim
    | some o =>
      cases o with
      | none => rw [q] at hev; exact hev.elim
      | some r =>
        rw [q] at hev
        obtain ⟨v, e1, e2⟩ := hk.env.get j r q
        exact ⟨v, e1, Ent.pure hev g H _ (hk.move q e1 e2)⟩
  · cases h
theorem set3 {α : Type} (l : List α) (x k : Nat) (a b c : α) : ((l.set x a).set k b).set x c = (l.set k b).set x c := by
  by_cases hxk : x = k
  · subst hxk; simp only [List.set_set]
  · rw [List.set_comm _ _ hxk, List.set_set]
theorem stm_try (C : Cxt W cv T n N sc X) (S : Sxt X W') {b : Tb} {x k : Nat} {cs : List Nat} {st : Stmt} (h : okS W N sc (.tryK b x k cs) st = true) : PS X st (tS X.K cv (callF T n) W' (.tryK b x k cs)) := by
  simp only [okS] at h
  split at h
  · rename_i body cn np nm kn q2 en q3 q4 hpos pos
    simp only [Bool.and_eq_true, List.contains_iff_mem, decide_eq_true_eq] at h
    obtain ⟨⟨⟨⟨⟨⟨⟨⟨⟨h1, h2⟩, h3⟩, h4⟩, h5⟩, h6⟩, h7⟩, h8⟩, h9⟩, h10⟩ := h
    obtain rfl := beq_iff_eq.mp h7
    obtain ⟨l1, l2⟩ := loc_of C h6
    obtain ⟨Cw, m1, m2⟩ := C.tries _ h1
    have lx : X.env.kindOf nm = some .local := by rw [← h5, ← C.hsc]; rfl
    refine PS.mono (ps_try_keep (c := .ref Cw) S.stk S.frm (by rw [C.hN]; exact C.nd) (by rw [C.hN]; exact h4) lx l1 l2 (S.fn _) S.ex (names_of h8).1 (names_of h8).2 ⟨gl_of C h2, (names_of h3).1, .inl m1⟩ (tb := fun W1 => tTb X.K cv (callF T n) W1 b) fun W1 pn xe tk _ => sndTb b (C.tr pn xe) tk S.fn S.kind h9) fun D σV H hq => ?_
    obtain ⟨g0, H0, Hs, g, st, σ, hk, hev⟩ := hq
    have hev : Ent (tryM (evTb (callF T n) σ b >>= fun σ1 => pure (Fl.nx, σ1)) (fun c => if cs.contains c then pure (.nx, (setR σ k (.exc c)).set x none) else bad) st) (FinS X.K g0 H0 Hs D) (ExcS cv W' g0 H0) := hev
    refine ⟨g0, H0, Hs, g, st, σ, hk, ?_⟩
    have ev : (evTb (callF T n) σ b >>= fun σ1 => pure (Fl.nx, σ1)) st = M.bind (evTb (callF T n) σ b) (fun σ1 => pure (Fl.nx, σ1)) st := rfl
    unfold tryM at hev
    rw [ev] at hev
    unfold M.bind at hev
    cases q : evTb (callF T n) σ b st with
    | ok σ1 st1 =>
      rw [q] at hev
      exact fun g' H' σV' hk' => hev g' H' σV' hk'
    | bad => rw [q] at hev; exact hev.elim
    | exc c st1 =>
      rw [q] at hev
      have hev : Ent ((if cs.contains c = true then pure (.nx, (setR σ k (.exc c)).set x none) else bad : M (Fl × En)) st1) (FinS X.K g0 H0 Hs D) (ExcS cv W' g0 H0) := hev
      obtain ⟨hc, hev⟩ := Ent.ite hev
      have hev := Ent.pure hev
      rw [List.contains_iff_mem] at hc
      have hcl := List.all_eq_true.mp h10 c hc
      obtain ⟨p, hp, hpc⟩ := List.any_eq_true.mp hcl
      obtain rfl := beq_iff_eq.mp hpc
      intro g' H' f1 s1
      have hne : W.tr ≠ [] := fun z => by rw [z] at h1; cases h1
      obtain ⟨D1, d1, d2⟩ := C.kits hne p hp
      refine ⟨m2 p hp, rfl, fun a na => ?_⟩
      rw [d1]
      have f2 : Frm g' H' g' (upd H' a (ExcV (.ref D1) a)) := .fresh na
      have k2 := (hk.mono f1 s1).mono f2 (s1.fresh na)
      have hv : VR X.K g' (upd H' a (ExcV (.ref D1) a)) (.ref a) (.exc p.2) := ⟨a, D1, rfl, upd_same, s1.nfa na, d2⟩
      have k3 := (k2.put hv (fun xs z => nomatch z) k).unset x
      rw [set3]
      exact hev g' _ _ k3
  · cases h
end
end Wk

end

section
set_option Elab.async false
set_option linter.all false
set_option maxRecDepth 100000
set_option maxHeartbeats 1000000
/-! append, extend, if, for, while, return, raise. -/
namespace Wk
open PySem PySem.Spec PyProof.Rows L2
section
variable {W : Wd} {cv : Nat → Value} {T : Nat → Option Fn} {n : Nat} {N : List Str} {sc : Scope} {X : Cx} {W' : WX} {ex : Expr} {e : Tm} {x : Str} {p pos : Pos} {i : Nat} {D : Ends} {σV : L2.St} {H : Hp}
theorem pe_slot (C : Cxt W cv T n N sc X) (h1 : N[i]? = some x) (h2 : visB sc x = true) (h3 : nameOk x = true) : PE X (.Name x p) (tVar i) :=
  pe_var (by rw [C.hN]; exact h1) (vis_of C h2) (names_of h3).1 (names_of h3).2
/-- a slot with a list of one's own -/
theorem own_slot {σ : En} {st : Sto} {α : Type} {f : List PyData → M α} {Q : α → Sto → Prop} {E : Nat → Sto → Prop} (h : Ent ((getR σ i >>= fun x => match x with
    | .own xs => f xs
    | _ => bad) st) Q E) : ∃ xs, σ[i]? = some (some (.own xs)) ∧ Ent (f xs st) Q E := by
  unfold getR at h
  cases q : σ[i]? with
  | none => rw [q] at h; exact h.elim
  | some o =>
    cases o with
    | none => rw [q] at h; exact h.elim
    | some r =>
      rw [q] at h
      cases r with
      | own xs => exact ⟨xs, rfl, h⟩
      | _ => exact h.elim
theorem setR_same {σ : En} {i : Nat} {r r' : Rv} : setR (setR σ i r) i r' = setR σ i r' := by unfold setR; rw [List.set_set]
theorem stm_app (C : Cxt W cv T n N sc X) {apos cpos : Pos} (h1 : N[i]? = some x) (h2 : visB sc x = true) (h3 : nameOk x = true) (hl : (apos.endLine == cpos.line) = true) (fe : fresh e = true) (hs : notStar ex = true) (he : PE X ex (tE X.K cv (callF T n) W' e)) :
    PS X (.Expr (.Call (.Attribute (.Name x p) "append" apos) [ex] [] cpos) pos) (tS X.K cv (callF T n) W' (.app i e)) := by
  have h := ps_expr (pos := pos) (pe_bm (apos := apos) (cpos := cpos) PySem.F.plainAttrs_list PySem.F.slot_list_append PySem.F.type_list_append mt_append (pe_slot (p := p) C h1 h2 h3) (pa_cons (PE.fz he) pa_nil (star_of hs)) rfl (by rw [star_of hs]; rfl) hl (star_of hs) rfl)
  refine PS.mono h fun D σV H hq => ?_
  obtain ⟨g0, H0, Hs, g, st, σ, hk, hev⟩ := hq
  have hev : Ent ((getR σ i >>= fun x => match x with
    | .own xs => (evE (callF T n) σ e >>= fun y => toP y >>= fun p => if decide (xs.length < sizeLine) then pure (.nx, setR σ i (.own (xs ++ [p]))) else bad)
    | _ => bad) st) (FinS X.K g0 H0 Hs D) (ExcS cv W' g0 H0) := hev
  obtain ⟨xs, hi, hev⟩ := own_slot (f := fun xs => (evE (callF T n) σ e >>= fun y => toP y >>= fun p => if decide (xs.length < sizeLine) then pure (Fl.nx, setR σ i (.own (xs ++ [p]))) else bad)) hev
  obtain ⟨v, hv, a, vs, rfl, ha, na, hr⟩ := hk.env.get i _ hi
  refine ⟨_, hv, .inl ⟨rfl, vs, SqL.of ha⟩, g, st, σ, hk.env, hk.sto, (Ent.bind hev).mono (fun r st1 h w g1 H1 f1 s1 hw hf => ?_) fun c st1 h => ExcS.expr hk h⟩
  refine freeze_new f1 s1 hw (hf fe) fun H2 f2 s2 hw2 => ?_
  have hp : ∃ q, Rep X.K H2 w q ∧ Ent ((if decide (xs.length < sizeLine) then pure (.nx, setR σ i (.own (xs ++ [q]))) else bad : M (Fl × En)) st1) (FinS X.K g0 H0 Hs D) (ExcS cv W' g0 H0) := by
    cases r with
    | d q => exact ⟨q, hw2, h⟩
    | own q => exact ⟨.list q, hw2, h⟩
    | exc c => exact h.elim
    | obj n => exact h.elim
  obtain ⟨q, q1, q2⟩ := hp
  obtain ⟨z, q2⟩ := Ent.ite q2
  have z := of_decide_eq_true z
  have k2 := hk.mono f2 s2
  obtain ⟨_, e1, b, vs2, e2, hb, nb, hr2⟩ := k2.env.get i _ hi
  rw [hv] at e1; cases e1; cases e2
  have ev : vs2 = vs := by
    have := f2.keep _ _ ha na (fun _ z => nomatch z)
    rw [hb] at this
    cases this; rfl
  subst ev
  exact ⟨a, vs2, w, rfl, rfl, hb, by rw [hr.length]; exact z, Ent.pure q2 g1 _ σV (k2.write hi hv hb nb (hr2.append (.cons q1 .nil)))⟩
theorem stm_ext (C : Cxt W cv T n N sc X) {apos cpos : Pos} (h1 : N[i]? = some x) (h2 : visB sc x = true) (h3 : nameOk x = true) (hl : (apos.endLine == cpos.line) = true) (fe : fresh e = true) (hs : notStar ex = true) (he : PE X ex (tE X.K cv (callF T n) W' e)) :
    PS X (.Expr (.Call (.Attribute (.Name x p) "extend" apos) [ex] [] cpos) pos) (tS X.K cv (callF T n) W' (.ext i e)) := by
  have h := ps_expr (pos := pos) (pe_bm (apos := apos) (cpos := cpos) PySem.F.plainAttrs_list PySem.F.slot_list_extend PySem.F.type_list_extend mt_extend (pe_slot (p := p) C h1 h2 h3) (pa_cons he pa_nil (star_of hs)) rfl (by rw [star_of hs]; rfl) hl (star_of hs) rfl)
  refine PS.mono h fun D σV H hq => ?_
  obtain ⟨g0, H0, Hs, g, st, σ, hk, hev⟩ := hq
  have hev : Ent ((getR σ i >>= fun x => match x with
    | .own xs => (evE (callF T n) σ e >>= fun y => ownOf y >>= fun ps => if okLen (xs.length + ps.length) then pure (.nx, setR σ i (.own (xs ++ ps))) else bad)
    | _ => bad) st) (FinS X.K g0 H0 Hs D) (ExcS cv W' g0 H0) := hev
  obtain ⟨xs, hi, hev⟩ := own_slot (f := fun xs => (evE (callF T n) σ e >>= fun y => ownOf y >>= fun ps => if okLen (xs.length + ps.length) then pure (Fl.nx, setR σ i (.own (xs ++ ps))) else bad)) hev
  obtain ⟨v, hv, a, vs, rfl, ha, na, hr⟩ := hk.env.get i _ hi
  refine ⟨_, hv, .inl ⟨rfl, vs, SqL.of ha⟩, g, st, σ, hk.env, hk.sto, (Ent.bind hev).mono (fun r st1 h w g1 H1 f1 s1 hw hf => ?_) fun c st1 h => ExcS.expr hk h⟩
  match r, hw, h with
  | .own ps, hw, h =>
    obtain ⟨b, ws, rfl, hb, nb, hrb⟩ := hw
    obtain ⟨z, q2⟩ := Ent.ite h
    have z := okLen_le z
    have k2 := hk.mono f1 s1
    have ha1 := f1.keep _ _ ha na (fun _ z => nomatch z)
    obtain ⟨_, e1, b2, vs2, e2, hb2, nb2, hr2⟩ := k2.env.get i _ hi
    rw [hv] at e1; cases e1; cases e2
    have ev : vs2 = vs := by
      rw [hb2] at ha1
      cases ha1; rfl
    subst ev
    exact ⟨a, b, vs2, ws, rfl, rfl, hb2, hb, by rw [hr2.length, hrb.length]; exact z, Ent.pure q2 g1 _ σV (k2.write hi hv hb2 nb2 (hr2.append hrb))⟩
theorem stm_exp (hc : notCs ex = true) (he : PE X ex (tE X.K cv (callF T n) W' e)) : PS X (.Expr ex pos) (tS X.K cv (callF T n) W' (.exp e)) := by
  refine PS.mono (ps_expr he (by cases ex <;> first | rfl | cases hc)) fun D σV H hq => ?_
  obtain ⟨g0, H0, Hs, g, st, σ, hk, hev⟩ := hq
  have hev : Ent ((evE (callF T n) σ e >>= fun _ => pure (.nx, σ)) st) (FinS X.K g0 H0 Hs D) (ExcS cv W' g0 H0) := hev
  exact ⟨g, st, σ, hk.env, hk.sto, (Ent.bind hev).mono (fun r st1 h v g1 H1 f1 s1 hv _ => Ent.pure h g1 H1 σV (hk.mono f1 s1)) fun c st1 h => ExcS.expr hk h⟩
theorem stm_if {ec : Expr} {c : Tm} {a b : Sms} {sa sb : List Stmt} (hc : PT X ec (tT X.K cv (callF T n) W' c)) (ha : PSs X sa (tSs X.K cv (callF T n) W' a)) (hb : PSs X sb (tSs X.K cv (callF T n) W' b)) : PS X (.If ec sa sb pos) (tS X.K cv (callF T n) W' (.ifS c a b)) := by
  refine PS.mono (ps_if hc ha hb) fun D σV H hq => ?_
  obtain ⟨g0, H0, Hs, g, st, σ, hk, hev⟩ := hq
  have hev : Ent ((evE (callF T n) σ c >>= fun x => toB x >>= fun k => if k then evSs (callF T n) σ a else evSs (callF T n) σ b) st) (FinS X.K g0 H0 Hs D) (ExcS cv W' g0 H0) := hev
  rw [← bind_assoc'] at hev
  refine ⟨g, st, σ, hk.env, hk.sto, (Ent.bind hev).mono (fun k st1 h g1 H1 f1 s1 => ?_) fun c st1 h => ExcS.expr hk h⟩
  cases k with
  | true => exact ⟨g0, H0, Hs, g1, st1, σ, hk.mono f1 s1, h⟩
  | false => exact ⟨g0, H0, Hs, g1, st1, σ, hk.mono f1 s1, h⟩
theorem stm_ret (he : PE X ex (tE X.K cv (callF T n) W' e)) (fe : fresh e = true) : PS X (.Return (some ex) pos) (tS X.K cv (callF T n) W' (.ret e)) := by
  refine PS.mono (ps_ret he) fun D σV H hq => ?_
  obtain ⟨g0, H0, Hs, g, st, σ, hk, hev⟩ := hq
  have hev : Ent ((evE (callF T n) σ e >>= fun x => pure (.rt x, σ)) st) (FinS X.K g0 H0 Hs D) (ExcS cv W' g0 H0) := hev
  exact ⟨g, st, σ, hk.env, hk.sto, (Ent.bind hev).mono (fun r st1 h v g1 H1 f1 s1 hv hf => Ent.pure h v g1 H1 (hk.frm.trans f1) s1 hv fun _ xs a e1 e2 => hk.frm.live a (hf fe xs a e1 e2)) fun c st1 h => ExcS.expr hk h⟩
theorem stm_retB (C : Cxt W cv T n N sc X) (h1 : N[i]? = some x) (h2 : visB sc x = true) (h3 : nameOk x = true) : PS X (.Return (some (.Name x p)) pos) (tS X.K cv (callF T n) W' (.ret (.bor i))) := by
  refine PS.mono (ps_ret (pe_slot C h1 h2 h3)) fun D σV H hq => ?_
  obtain ⟨g0, H0, Hs, g, st, σ, hk, hev⟩ := hq
  have hev : Ent ((getR σ i >>= fun x => pure (.rt x, σ)) st) (FinS X.K g0 H0 Hs D) (ExcS cv W' g0 H0) := hev
  unfold getR at hev
  cases q : σ[i]? with
  | none => rw [q] at hev; exact hev.elim
  | some o =>
    cases o with
    | none => rw [q] at hev; exact hev.elim
    | some r =>
      rw [q] at hev
      obtain ⟨v, hv, hr⟩ := hk.env.get i r q
      exact ⟨v, hv, Ent.pure hev v g H hk.frm hk.sto hr fun _ xs a e1 e2 => hk.own i xs a (e1 ▸ q) (e2 ▸ hv)⟩
theorem stm_raise (C : Cxt W cv T n N sc X) (hh : W.hot = false) (S : Sxt X W') {c : Nat} {m : Str} {j : Nat} {p2 p3 : Pos} (hc : (x, c) ∈ W.cl) (hg : glB sc x = true) (hn : nameOk x = true) : PS X (.Raise (some (.Call (.Name x p) [.Constant (.str m) j p2] [] p3)) none pos) (tS X.K cv (callF T n) W' (.raise c)) := by
  obtain ⟨C1, bmB, B, newId, initId, F, h1, h2, h3, h4, h5, h6⟩ := C.cls _ hc
  refine PS.mono (ps_raise (C.calm hh) S.tk (pmk_own F h1 h2 h3 (raises_own h4 h5) (gl_of C hg) (names_of hn).1)) fun D σV H hq => ?_
  obtain ⟨g0, H0, Hs, g, st, σ, hk, hev⟩ := hq
  have hev : ExcS cv W' g0 H0 c st := hev
  have := hev g H σV hk.frm hk.sto
  have h6 : cv c = .ref C1 := h6
  rw [h6] at this
  exact this
end
end Wk

end

section
set_option Elab.async false
set_option linter.all false
set_option maxRecDepth 100000
set_option maxHeartbeats 1000000
/-! a, b, c, d = [], .., ..: new empty lists stay one's own. -/
namespace Wk
open PySem PySem.Spec PyProof.Rows L2
/-- lists of one's own among values: new since H, each at its own place -/
structure OwnS (H : Hp) (vs : List V) (rs : List Rv) : Prop where
  new : ∀ (i : Nat) (xs : List PyData) (a : Addr), rs[i]? = some (.own xs) → vs[i]? = some (.ref a) → H a = none
  sep : ∀ (i j : Nat) (xs ys : List PyData) (a : Addr), rs[i]? = some (.own xs) → rs[j]? = some (.own ys) → vs[i]? = some (.ref a) → vs[j]? = some (.ref a) → i = j
def FinO (K : PySem.W.Frag) (g : Gh) (H : Hp) (Q : List V → Hp → Prop) : List Rv → Sto → Prop := fun rs st' => ∀ vs g' H', Frm g H g' H' → SRep g' H' st' → VRs K g' H' vs rs → OwnS H vs rs → Q vs H'
def tOwn (K : PySem.W.Frag) (cv : Nat → Value) (F : Nat → List Rv → M Rv) (W : WX) (as : Tms) : TA := fun σV H Q => ∃ g st σ, EnvR K g H σV σ ∧ SRep g H st ∧ Ent (evO F σ as st) (FinO K g H Q) (ExcK cv W g H σV)
theorem OwnS.nil {H : Hp} : OwnS H [] [] := ⟨fun i _ _ h => by simp at h, fun i _ _ _ _ h => by simp at h⟩
theorem OwnS.plain {H H' : Hp} {v : V} {r : Rv} {vs : List V} {rs : List Rv} (h : OwnS H' vs rs) (lv : ∀ a, H' a = none → H a = none) (hn : ∀ xs, r ≠ .own xs) : OwnS H (v :: vs) (r :: rs) where
  new := fun i xs a e1 e2 => by
    cases i with
    | zero => simp at e1; exact absurd e1 (hn xs)
    | succ i => exact lv a (h.new i xs a (by simpa using e1) (by simpa using e2))
  sep := fun i j xs ys a e1 e2 e3 e4 => by
    cases i with
    | zero => simp at e1; exact absurd e1 (hn xs)
    | succ i =>
      cases j with
      | zero => simp at e2; exact absurd e2 (hn ys)
      | succ j => rw [h.sep i j xs ys a (by simpa using e1) (by simpa using e2) (by simpa using e3) (by simpa using e4)]
theorem OwnS.more {H H' : Hp} {p : Addr} {vs : List V} {rs : List Rv} {zs : List PyData} (h : OwnS H' vs rs) (lv : ∀ a, H' a = none → H a = none) (hp : H p = none) (hp' : H' p ≠ none) : OwnS H (.ref p :: vs) (.own zs :: rs) where
  new := fun i xs a e1 e2 => by
    cases i with
    | zero => simp at e2; subst e2; exact hp
    | succ i => exact lv a (h.new i xs a (by simpa using e1) (by simpa using e2))
  sep := fun i j xs ys a e1 e2 e3 e4 => by
    cases i with
    | zero =>
      simp at e3; subst e3
      cases j with
      | zero => rfl
      | succ j => exact absurd (h.new j ys p (by simpa using e2) (by simpa using e4)) hp'
    | succ i =>
      cases j with
      | zero =>
        simp at e4; subst e4
        exact absurd (h.new i xs p (by simpa using e1) (by simpa using e3)) hp'
      | succ j => rw [h.sep i j xs ys a (by simpa using e1) (by simpa using e2) (by simpa using e3) (by simpa using e4)]
section
variable {W : Wd} {cv : Nat → Value} {T : Nat → Option Fn} {n : Nat} {N : List Str} {sc : Scope} {X : Cx} {W' : WX}
theorem sndO (C : Cxt W cv T n N sc X) (tk : Takes X W') : ∀ (as : Tms) {es : List Expr}, okO W N sc as es = true → PA X es (tOwn X.K cv (callF T n) W' as)
  | .nil, [], h => by
    refine PA.mono pa_nil fun σV H Q hq => ?_
    obtain ⟨g, st, σ, hE, hS, hev⟩ := hq
    exact Ent.pure (show Ent ((pure [] : M (List Rv)) st) _ _ from hev) [] g H .refl hS .nil .nil
  | .nil, _ :: _, h => by cases h
  | .cons a r, [], h => by cases h
  | .cons a r, e :: es, h => by
    unfold okO at h
    rw [Bool.and_eq_true] at h
    obtain ⟨h1, h2⟩ := h
    have ih := sndO C tk r h2
    cases hn : isNewL a with
    | true =>
      rw [hn, if_pos rfl] at h1
      split at h1
      case h_2 => cases h1
      refine PA.mono (pa_cons (pe_lst pa_nil) ih rfl) fun σV H Q hq => ?_
      obtain ⟨g, st, σ, hE, hS, hev⟩ := hq
      have hev : Ent ((evO (callF T n) σ r >>= fun xs => pure (.own [] :: xs)) st) (FinO X.K g H Q) (ExcK cv W' g H σV) := by
        have e : evO (callF T n) σ (.cons a r) = (evO (callF T n) σ r >>= fun xs => pure (.own [] :: xs)) := by rw [evO, if_pos hn]
        rw [e] at hev; exact hev
      refine ⟨by rw [List.length_nil]; exact Nat.zero_le _, fun p hp => ?_⟩
      have f1 : Frm g H g (upd H p (.lst [])) := .fresh hp
      have s1 := hS.fresh (o := .lst []) hp
      refine ⟨g, st, σ, hE.mono f1, s1, (Ent.bind hev).mono (fun rs st2 h2 vs g3 H3 f3 s3 hvs ho => ?_) fun c st2 h2 => ExcK.mono f1 h2⟩
      have hpH : H3 p = some (.lst []) := f3.keep _ _ upd_same (s1.nfaT p) (fun _ z => nomatch z)
      refine Ent.pure h2 (.ref p :: vs) g3 H3 (f1.trans f3) s3 (.cons ⟨p, [], rfl, hpH, s3.nfaT p, .nil⟩ hvs) (ho.more f1.live hp (by rw [upd_same]; simp))
    | false =>
      rw [hn, if_neg (by simp)] at h1
      simp only [Bool.and_eq_true] at h1
      obtain ⟨⟨h3, h4⟩, h5⟩ := h1
      refine PA.mono (pa_cons (PE.fz (sndE a C tk h3).pe) ih (star_of h5)) fun σV H Q hq => ?_
      obtain ⟨g, st, σ, hE, hS, hev⟩ := hq
      have hev : Ent ((evE (callF T n) σ a >>= fun x => evO (callF T n) σ r >>= fun xs => pure (frz x :: xs)) st) (FinO X.K g H Q) (ExcK cv W' g H σV) := by
        have e : evO (callF T n) σ (.cons a r) = (evE (callF T n) σ a >>= fun x => evO (callF T n) σ r >>= fun xs => pure (frz x :: xs)) := by rw [evO, if_neg (by rw [hn]; simp)]
        rw [e] at hev; exact hev
      refine ⟨g, st, σ, hE, hS, (Ent.bind hev).mono (fun r1 st1 h1 v1 g1 H1 f1 s1 hv1 hf => ?_) fun c st1 h1 => h1⟩
      rw [h4] at hf
      refine freeze_new f1 s1 hv1 (hf rfl) fun H2 f2 s2 hv2 => ?_
      refine ⟨g1, st1, σ, hE.mono f2, s2, (Ent.bind h1).mono (fun rs st2 h2 vs g3 H3 f3 s3 hvs ho => ?_) fun c st2 h2 => ExcK.mono f2 h2⟩
      exact Ent.pure h2 (v1 :: vs) g3 H3 (f2.trans f3) s3 (.cons (hv2.mono f3) hvs) (ho.plain f2.live frz_not)
theorem gMany_own {K : PySem.W.Frag} {g0 g : Gh} {H0 Hs H : Hp} {st : Sto} {Q : L2.St → Hp → Prop} : ∀ {is : List Nat} {rs : List Rv} {vs : List V} {σV : L2.St} {σ : En} {R : En → Sto → Prop} {E : Nat → Sto → Prop}, StOk K g0 H0 Hs g H σV σ st → VRs K g H vs rs →
    OwnS H0 vs rs → (∀ (i : Nat) (xs : List PyData) (a : Addr), rs[i]? = some (.own xs) → vs[i]? = some (.ref a) → ∀ (j : Nat) (ys : List PyData), σ[j]? = some (some (.own ys)) → σV[j]? ≠ some (some (.ref a))) → Ent (setRs σ is rs st) R E → (∀ σV' σ', StOk K g0 H0 Hs g H σV' σ' st → R σ' st → Q σV' H) → gMany is vs σV H Q
  | [], _, _, σV, σ, R, E, hk, .nil, ho, hd, h, k => ⟨rfl, k σV σ hk h⟩
  | [], _, _, σV, σ, R, E, hk, .cons _ _, ho, hd, h, k => h.elim
  | i :: is, _, _, σV, σ, R, E, hk, .nil, ho, hd, h, k => h.elim
  | i :: is, _, _, σV, σ, R, E, hk, .cons (v := v) (vs := vs) (r := r) (rs := rs) a ar, ho, hd, h, k => by
    refine ⟨v, vs, rfl, ?_⟩
    have hk2 : StOk K g0 H0 Hs g H (σV.set i (some v)) (Wk.setR σ i r) st :=
      ⟨hk.env.setR a i fun xs b e1 e2 j ys e3 e4 => absurd e4 (hd 0 xs b (by rw [← e1]; rfl) (by rw [← e2]; rfl) j ys e3), hk.own.set i fun xs b e1 e2 => ho.new 0 xs b (by rw [← e1]; rfl) (by rw [← e2]; rfl), hk.sto, hk.frm, hk.stl⟩
    refine gMany_own (R := R) (E := E) hk2 ar ⟨fun j xs b e1 e2 => ho.new (j + 1) xs b (by simpa using e1) (by simpa using e2), fun j l xs ys b e1 e2 e3 e4 => Nat.succ.inj (ho.sep (j + 1) (l + 1) xs ys b (by simpa using e1) (by simpa using e2) (by simpa using e3) (by simpa using e4))⟩ (fun j xs b e1 e2 l ys e3 e4 => ?_) h k
    unfold Wk.setR at e3
    rcases set_get e3 with ⟨rfl, e, hl⟩ | ⟨nl, e3⟩
    · rw [List.getElem?_set_self (by rw [hk.env.len]; exact hl)] at e4
      have e5 : v = .ref b := Option.some.inj (Option.some.inj e4)
      have := ho.sep 0 (j + 1) ys xs b (by rw [← Option.some.inj e]; rfl) (by simpa using e1) (by rw [e5]; rfl) (by simpa using e2)
      omega
    · rw [List.getElem?_set_ne (Ne.symm nl)] at e4
      exact hd (j + 1) xs b (by simpa using e1) (by simpa using e2) l ys e3 e4
theorem stm_unpO (C : Cxt W cv T n N sc X) (hh : W.hot = false) (S : Sxt X W') {is : List Nat} {es : Tms} {ts vs : List Expr} {kt k2 : Nat} {pt pt2 pos : Pos} (ht : tgAll (fun _ => true) N sc (.many is) (.Tuple ts kt pt) = true) (ho : okO W N sc es vs = true) (hw : tup4 (.Tuple vs k2 pt2) ts.length = true) :
    PS X (.Assign [.Tuple ts kt pt] (.Tuple vs k2 pt2) pos) (tS X.K cv (callF T n) W' (.unpO is es)) := by
  refine PS.mono (ps_asg (pe_tup (sndO C S.tk es ho)) (pg_of (c := fun _ => true) (fun x _ => S.fn x) (C.calm hh) C.hN C.nd C.hsc ht) rfl (swap_none (by rw [hw]; simp))) fun D σV H hq => ?_
  obtain ⟨g0, H0, Hs, g, st, σ, hk, hev⟩ := hq
  have hev : Ent ((evO (callF T n) σ es >>= fun xs => if okLen xs.length then (setRs σ is xs >>= fun σ1 => pure (.nx, σ1)) else bad) st) (FinS X.K g0 H0 Hs D) (ExcS cv W' g0 H0) := hev
  refine ⟨g, st, σ, hk.env, hk.sto, (Ent.bind hev).mono (fun rs st1 h ws g1 H1 f1 s1 hv hs => ?_) fun c st1 h => ExcS.expr hk h⟩
  obtain ⟨z, h⟩ := Ent.ite h
  have hl := setRs_len h
  refine ⟨by rw [hv.length]; exact okLen_le z, fun p hp => ⟨p, ws, rfl, SqT.of upd_same, by rw [hv.length, hl], ?_⟩⟩
  have f2 : Frm g1 H1 g1 (upd H1 p (.tup ws)) := .fresh hp
  have hk1 := (hk.mono f1 s1).mono f2 (s1.fresh hp)
  refine gMany_own hk1 (hv.mono f2) ⟨fun i xs a e1 e2 => hk.frm.live a (hs.new i xs a e1 e2), hs.sep⟩ (fun i xs a e1 e2 j ys e3 e4 => ?_) (Ent.bind h) fun σV2 σ2 h2 h3 => Ent.pure h3 g1 _ σV2 h2
  obtain ⟨w, q1, b, us, q2, q3, _⟩ := hk.env.get j _ e3
  have e5 := e4.symm.trans q1
  have e6 : w = .ref a := (Option.some.inj (Option.some.inj e5)).symm
  rw [e6] at q2
  cases q2
  have q4 := hs.new i xs a e1 e2
  rw [q3] at q4
  cases q4
end
end Wk

end

section
set_option Elab.async false
set_option linter.all false
set_option maxRecDepth 100000
set_option maxHeartbeats 1000000
/-! for, while; all statements. -/
namespace Wk
open PySem PySem.Spec PyProof.Rows L2
section
variable {W : Wd} {cv : Nat → Value} {T : Nat → Option Fn} {n : Nat} {N : List Str} {sc : Scope} {X : Cx} {W' : WX} {ex : Expr} {e : Tm} {x : Str} {p pos : Pos} {i : Nat} {D : Ends} {σV : L2.St} {H : Hp}
theorem StOk.rebase {K : PySem.W.Frag} {g0 g : Gh} {H0 Hs Hs' H : Hp} {σV : L2.St} {σ : En} {st : Sto} (h : StOk K g0 H0 Hs g H σV σ st) (s : Still Hs' H) : StOk K g0 H0 Hs' g H σV σ st := ⟨h.env, h.own, h.sto, h.frm, s⟩
theorem StOk.yield {K : PySem.W.Frag} {g0 g : Gh} {H0 Hs H H2 : Hp} {σV : L2.St} {σ : En} {st : Sto} (h : StOk K g0 H0 Hs g H σV σ st) (hh : H2 = H ∨ ∃ t o, H t = none ∧ H2 = upd H t (.tup o)) : StOk K g0 H0 Hs g H2 σV σ st := by
  rcases hh with rfl | ⟨t, o, hn, rfl⟩
  · exact h
  · exact h.mono (.fresh hn) (h.sto.fresh hn)
theorem loop_cons {f : PyData → En → M (Fl × En)} {x : PyData} {xs : List PyData} {σ : En} : loopM f (x :: xs) σ = (f x σ >>= fun r => match r with
    | (.nx, σ1) => loopM f xs σ1
    | (.rt v, σ1) => pure (.rt v, σ1)) := rfl
theorem stm_for (C : Cxt W cv T n N sc X) (hh : W.hot = false) (S : Sxt X W') {g : Tg} {k : Ik} {a b : Tm} {body : Sms} {tg it : Expr} {sb : List Stmt} (ht : tgAll (fun _ => true) N sc g tg = true) (hi : PI X tg it (tI X.K cv (callF T n) W' k a b)) (hfr : isFrK k a b = true) (hs : notSet it = true)
    (hb : PSs X sb (tSs X.K cv (callF T n) W' body)) : PS X (.For tg it sb [] pos) (tS X.K cv (callF T n) W' (.forS g k a b body)) := by
  have hset : ∀ x, foldedSetIterable it X.env x = pure x := by intro x; cases it <;> first | rfl | cases hs
  refine PS.mono (ps_for S.own (C.calm hh) hi (pg_of (c := fun _ => true) (fun x _ => S.fn x) (C.calm hh) C.hN C.nd C.hsc ht) hb hset) fun D σV H hq => ?_
  obtain ⟨g0, H0, Hs, gg, st, σ, hk, hev⟩ := hq
  generalize hf : (fun (p : PyData) (σ1 : En) => bindTg g p σ1 >>= fun σ2 => evSs (callF T n) σ2 body) = f
  have hev : Ent (((evE (callF T n) σ a >>= fun x => evE (callF T n) σ b >>= fun y => walk k x y) >>= fun xs => loopM f xs σ) st) (FinS X.K g0 H0 Hs D) (ExcS cv W' g0 H0) := by
    have e : evS (callF T n) σ (.forS g k a b body) = ((evE (callF T n) σ a >>= fun x => evE (callF T n) σ b >>= fun y => walk k x y) >>= fun xs => loopM f xs σ) := by
      have e1 : evS (callF T n) σ (.forS g k a b body) = (evE (callF T n) σ a >>= fun x => evE (callF T n) σ b >>= fun y => walk k x y >>= fun xs => loopM (fun (p : PyData) (σ1 : En) => bindTg g p σ1 >>= fun σ2 => evSs (callF T n) σ2 body) xs σ) := by rw [evS]
      rw [e1, hf]; simp only [bind_assoc']
    rw [← e]; exact hev
  refine ⟨gg, st, σ, hk.env, hk.sto, (Ent.bind hev).mono (fun ps st1 h1 g1 H1 J St f1 s1 src hst hfz hlen => ?_) fun c st1 h => ExcS.expr hk h⟩
  have stay := hfz hfr
  refine ⟨fun i m σV' H' => m = ps.length - i ∧ i ≤ ps.length ∧ ∃ g' st' σ', StOk X.K g0 H0 H1 g' H' σV' σ' st' ∧ Ent (loopM f (ps.drop i) σ' st') (FinS X.K g0 H0 Hs D) (ExcS cv W' g0 H0), ⟨ps.length, by simp, Nat.zero_le _, g1, st1, σ, (hk.mono f1 s1).rebase .refl, by simpa using h1⟩, ?_⟩
  have still1 : Still Hs H1 := (hk.mono f1 s1).stl
  rintro i m σV' H' ⟨rfl, hi2, g2, st2, σ2, hk2, hcm⟩
  have hst2 : St g2 H' := stay _ _ _ _ hst hk2.stl
  by_cases hlt : i < ps.length
  · refine .inr ⟨src.go _ _ _ hst2 hlt, fun σV3 H3 => ∃ m', m' < ps.length - i ∧ (m' = ps.length - (i + 1) ∧ i + 1 ≤ ps.length ∧ ∃ g' st' σ', StOk X.K g0 H0 H1 g' H3 σV3 σ' st' ∧ Ent (loopM f (ps.drop (i + 1)) σ' st') (FinS X.K g0 H0 Hs D) (ExcS cv W' g0 H0)), fun _ _ h => h, fun x H3 hy => ?_⟩
    obtain ⟨p, hp, hxp, hH3⟩ := src.yld _ _ _ _ _ hlt hst2 hy
    have hk3 := hk2.yield hH3
    rw [List.drop_eq_getElem_cons hlt] at hcm
    have ep : ps[i] = p := by rw [List.getElem?_eq_getElem hlt] at hp; exact Option.some.inj hp
    rw [ep, loop_cons, ← hf, bind_assoc', hf] at hcm
    refine gTg_okP (P := fun σV σ => StOk X.K g0 H0 H1 g2 H3 σV σ st2) (fun σV σ i v p h hv => h.put (r := .d p) hv (fun _ z => by cases z) i) hk3 hxp (Ent.bind hcm) fun σV4 σ4 hk4 _ h4 => ?_
    refine ⟨g0, H0, H1, g2, st2, σ4, hk4, (Ent.bind h4).mono (fun r st5 h5 => ?_) fun c st5 h5 => h5⟩
    obtain ⟨fl, σ5⟩ := r
    cases fl with
    | nx => exact fun g5 H5 σV5 hk5 => ⟨_, by omega, rfl, hlt, g5, st5, σ5, hk5, h5⟩
    | rt v =>
      have h6 : Fin1 X.K g0 H0 true D.rt v st5 := h5
      exact h6
  · have e : i = ps.length := by omega
    rw [e, List.drop_length] at hcm
    exact .inl ⟨src.stop _ _ _ hst2 e, Ent.pure hcm g2 H' σV' (hk2.rebase (still1.trans hk2.stl))⟩
theorem stm_while (S : Sxt X W') {c : Tm} {body : Sms} {sb : List Stmt} (hc : PT X ex (tT X.K cv (callF T n) W' c)) (hb : PSs X sb (tSs X.K cv (callF T n) W' body)) : PS X (.While ex sb [] pos) (tS X.K cv (callF T n) W' (.whl c body)) := by
  refine PS.mono (ps_while S.own hc hb) fun D σV H hq => ?_
  obtain ⟨g0, H0, Hs, gg, st, σ, hk, hev⟩ := hq
  generalize hf : (fun (σ1 : En) => evE (callF T n) σ1 c >>= fun x => toB x) = f
  have hev : Ent (whileM f (fun σ1 => evSs (callF T n) σ1 body) mostTurns σ st) (FinS X.K g0 H0 Hs D) (ExcS cv W' g0 H0) := by
    have e1 : evS (callF T n) σ (.whl c body) = whileM (fun (σ1 : En) => evE (callF T n) σ1 c >>= fun x => toB x) (fun σ1 => evSs (callF T n) σ1 body) mostTurns σ := by rw [evS]
    rw [← hf, ← e1]; exact hev
  generalize mostTurns = mm at hev
  refine ⟨fun m σV' H' => ∃ g' st' σ', StOk X.K g0 H0 Hs g' H' σV' σ' st' ∧ Ent (whileM f (fun σ1 => evSs (callF T n) σ1 body) m σ' st') (FinS X.K g0 H0 Hs D) (ExcS cv W' g0 H0), ⟨mm, gg, st, σ, hk, hev⟩, ?_⟩
  rintro m σV' H' ⟨g2, st2, σ2, hk2, hev⟩
  cases m with
  | zero => exact hev.elim
  | succ m =>
    have hev : Ent ((f σ2 >>= fun k => if k then (evSs (callF T n) σ2 body >>= fun r => match r with
        | (.nx, σ1) => whileM f (fun σ1 => evSs (callF T n) σ1 body) m σ1
        | (.rt v, σ1) => pure (.rt v, σ1)) else pure (.nx, σ2)) st2) (FinS X.K g0 H0 Hs D) (ExcS cv W' g0 H0) := hev
    have hev2 := Ent.bind hev
    rw [← hf] at hev2
    refine ⟨g2, st2, σ2, hk2.env, hk2.sto, hev2.mono (fun k st3 h3 g3 H3 f3 s3 => ?_) fun c st1 h => ExcS.expr hk2 h⟩
    rw [hf] at h3
    have hk3 := hk2.mono f3 s3
    cases k with
    | false => exact Ent.pure h3 g3 H3 σV' hk3
    | true =>
      have h3 : Ent ((evSs (callF T n) σ2 body >>= fun r => match r with
        | (.nx, σ1) => whileM f (fun σ1 => evSs (callF T n) σ1 body) m σ1
        | (.rt v, σ1) => pure (.rt v, σ1)) st3) (FinS X.K g0 H0 Hs D) (ExcS cv W' g0 H0) := h3
      show if true = true then _ else _
      rw [if_pos rfl]
      refine ⟨fun σV4 H4 => ∃ m', m' < m + 1 ∧ ∃ g' st' σ', StOk X.K g0 H0 Hs g' H4 σV4 σ' st' ∧ Ent (whileM f (fun σ1 => evSs (callF T n) σ1 body) m' σ' st') (FinS X.K g0 H0 Hs D) (ExcS cv W' g0 H0), fun _ _ h => h, g0, H0, Hs, g3, st3, σ2, hk3, (Ent.bind h3).mono (fun r st5 h5 => ?_) fun c st5 h5 => h5⟩
      obtain ⟨fl, σ5⟩ := r
      cases fl with
      | nx => exact fun g5 H5 σV5 hk5 => ⟨m, Nat.lt_succ_self m, g5, st5, σ5, hk5, h5⟩
      | rt v =>
        have h6 : Fin1 X.K g0 H0 true D.rt v st5 := h5
        exact h6
/-! ### blocks -/
theorem stm_nil : PSs X [] (tSs X.K cv (callF T n) W' .nil) := by
  refine PSs.mono pss_nil fun D σV H hq => ?_
  obtain ⟨g0, H0, Hs, g, st, σ, hk, hev⟩ := hq
  exact Ent.pure hev g H σV hk
theorem stm_cons {s : Sm} {r : Sms} {st : Stmt} {sts : List Stmt} (h1 : PS X st (tS X.K cv (callF T n) W' s)) (h2 : PSs X sts (tSs X.K cv (callF T n) W' r)) : PSs X (st :: sts) (tSs X.K cv (callF T n) W' (.cons s r)) := by
  refine PSs.mono (pss_cons h1 h2) fun D σV H hq => ?_
  obtain ⟨g0, H0, Hs, g, st, σ, hk, hev⟩ := hq
  have hev : Ent ((evS (callF T n) σ s >>= fun t => match t with
    | (.nx, σ1) => evSs (callF T n) σ1 r
    | (.rt v, σ1) => pure (.rt v, σ1)) st) (FinS X.K g0 H0 Hs D) (ExcS cv W' g0 H0) := hev
  refine ⟨g0, H0, Hs, g, st, σ, hk, (Ent.bind hev).mono (fun r st5 h5 => ?_) fun c st5 h5 => h5⟩
  obtain ⟨fl, σ5⟩ := r
  cases fl with
  | nx => exact fun g5 H5 σV5 hk5 => ⟨g0, H0, Hs, g5, st5, σ5, hk5, h5⟩
  | rt v =>
    have h6 : Fin1 X.K g0 H0 true D.rt v st5 := h5
    exact h6
theorem stm_fz {i : Nat} {r : Sms} {sts : List Stmt} (h2 : PSs X sts (tSs X.K cv (callF T n) W' r)) : PSs X sts (tSs X.K cv (callF T n) W' (.cons (.fz i) r)) := by
  refine PSs.pre h2 fun D σV H pins s I hq => ?_
  obtain ⟨g0, H0, Hs, g, st, σ, hk, hev⟩ := hq
  have hev : Ent (((getR σ i >>= fun x => (pure (Fl.nx, setR σ i (frz x)) : M (Fl × En))) >>= fun t => match t with
    | (.nx, σ1) => evSs (callF T n) σ1 r
    | (.rt v, σ1) => pure (.rt v, σ1)) st) (FinS X.K g0 H0 Hs D) (ExcS cv W' g0 H0) := hev
  rw [bind_assoc'] at hev
  unfold getR at hev
  cases q : σ[i]? with
  | none => rw [q] at hev; exact hev.elim
  | some o =>
    cases o with
    | none => rw [q] at hev; exact hev.elim
    | some v =>
      rw [q] at hev
      have same : frz v = v → ∃ H', L2.Inv X pins σV H' s ∧ tSs X.K cv (callF T n) W' r D σV H' := fun e => by
        refine ⟨H, I, g0, H0, Hs, g, st, σ, hk, ?_⟩
        have hev : Ent (evSs (callF T n) (setR σ i (frz v)) r st) (FinS X.K g0 H0 Hs D) (ExcS cv W' g0 H0) := hev
        have es : setR σ i (frz v) = σ := by
          rw [e]; unfold setR
          apply List.ext_getElem?
          intro j
          by_cases hj : j = i
          · subst hj; rw [List.getElem?_set_self (List.getElem?_eq_some_iff.mp q).1, q]
          · rw [List.getElem?_set_ne (Ne.symm hj)]
        rw [es] at hev
        exact hev
      cases v with
      | own xs =>
        obtain ⟨a, vs, h1, h2, h3⟩ := hk.freeze q
        obtain ⟨o, ho⟩ := Inv.lst_there I h2
        exact ⟨_, Inv.freeze I h2 ho, g0, H0, Hs, g, st, _, h3 o, hev⟩
      | d p => exact same rfl
      | exc c => exact same rfl
      | obj n => exact same rfl
theorem isComp_eq {e : Tm} (h : isComp e = true) : ∃ elt g k a b own cond, e = .comp elt g k a b own cond := by
  cases e <;> first | (cases h; done) | exact ⟨_, _, _, _, _, _, _, rfl⟩
theorem okSs_fz {i : Nat} {r : Sms} {sts : List Stmt} : okSs W N sc (.cons (.fz i) r) sts = okSs W N sc r sts := rfl
theorem parN_two (C : Cxt W cv T n N sc X) {l : Nat} {is : List Nat} {ts : List Expr} (h : parN sc N l is ts = true) (hl : is.length = 2) : ∃ i j x y px py, is = [i, j] ∧ ts = [.Name x px, .Name y py] ∧ N[i]? = some x ∧ N[j]? = some y ∧ sc.names.lookup x = some .local ∧ sc.names.lookup y = some .local ∧ (py.line == px.line) = true := by
  obtain ⟨xs, rfl, e2, e3, e4⟩ := par_line C h
  match is, xs, hl, e2, e3, e4 with
  | [i, j], [(x, px), (y, py)], _, _, e3, e4 =>
    obtain ⟨q, q1, q2⟩ := e4 0 i rfl
    obtain ⟨r, r1, r2⟩ := e4 1 j rfl
    cases q1; cases r1
    have a1 := e3 (x, px) (by simp)
    have a2 := e3 (y, py) (by simp)
    refine ⟨i, j, x, y, px, py, rfl, rfl, q2, r2, a1.1, a2.1, ?_⟩
    rw [beq_iff_eq, beq_iff_eq.mp a1.2, beq_iff_eq.mp a2.2]
theorem parN_three (C : Cxt W cv T n N sc X) {l : Nat} {is : List Nat} {ts : List Expr} (h : parN sc N l is ts = true) (hl : is.length = 3) : ∃ i j k x y z px py pz, is = [i, j, k] ∧ ts = [.Name x px, .Name y py, .Name z pz] ∧ N[i]? = some x ∧ N[j]? = some y ∧ N[k]? = some z ∧ sc.names.lookup x = some .local ∧ sc.names.lookup y = some .local ∧ sc.names.lookup z = some .local ∧ (py.line == px.line) = true ∧ (pz.line == px.line) = true := by
  obtain ⟨xs, rfl, e2, e3, e4⟩ := par_line C h
  match is, xs, hl, e2, e3, e4 with
  | [i, j, k], [(x, px), (y, py), (z, pz)], _, _, e3, e4 =>
    obtain ⟨q, q1, q2⟩ := e4 0 i rfl
    obtain ⟨r, r1, r2⟩ := e4 1 j rfl
    obtain ⟨t, t1, t2⟩ := e4 2 k rfl
    cases q1; cases r1; cases t1
    have a1 := e3 (x, px) (by simp)
    have a2 := e3 (y, py) (by simp)
    have a3 := e3 (z, pz) (by simp)
    refine ⟨i, j, k, x, y, z, px, py, pz, rfl, rfl, q2, r2, t2, a1.1, a2.1, a3.1, ?_, ?_⟩
    · rw [beq_iff_eq, beq_iff_eq.mp a1.2, beq_iff_eq.mp a2.2]
    · rw [beq_iff_eq, beq_iff_eq.mp a1.2, beq_iff_eq.mp a3.2]
theorem nd_ne {N : List Str} (nd : N.Nodup) {i j : Nat} {x y : Str} (h1 : N[i]? = some x) (h2 : N[j]? = some y) (h : i ≠ j) : x ≠ y := fun e => h (nodup_ix nd h1 (e ▸ h2))

theorem StOk.drop {K : PySem.W.Frag} {g0 g : Gh} {H0 Hs H : Hp} {σV : L2.St} {σ : En} {st : Sto} (h : StOk K g0 H0 Hs g H σV σ st) (i : Nat) (o : Option V) : StOk K g0 H0 Hs g H (σV.set i o) (σ.set i none) st := by
  have k := h.unset i
  have gt : ∀ {j : Nat} {r : Rv}, (σ.set i none)[j]? = some (some r) → (σV.set i none)[j]? = (σV.set i o)[j]? := fun {j r} e => by
    rcases set_get e with ⟨_, e, _⟩ | ⟨n1, _⟩
    · cases e
    · rw [List.getElem?_set_ne (Ne.symm n1), List.getElem?_set_ne (Ne.symm n1)]
  refine ⟨⟨k.env.tb, by have := k.env.len; rw [List.length_set] at this ⊢; exact this, fun j r e => ?_, fun j l xs ys b e1 e2 e3 e4 => ?_⟩, fun j xs b e1 e2 => ?_, k.sto, k.frm, k.stl⟩
  · obtain ⟨v, e1, e2⟩ := k.env.get j r e
    exact ⟨v, by rw [← gt e]; exact e1, e2⟩
  · exact k.env.sep j l xs ys b e1 e2 (by rw [gt e1]; exact e3) (by rw [gt e2]; exact e4)
  · exact k.own j xs b e1 (by rw [gt e1]; exact e2)
mutual
theorem sndS (C : Cxt W cv T n N sc X) (S : Sxt X W') : ∀ (s : Sm) {st : Stmt}, okS W N sc s st = true → PS X st (tS X.K cv (callF T n) W' s)
  | .asg i e, st, h => by
    simp only [okS] at h
    split at h
    · rename_i x p ex pos
      simp only [Bool.and_eq_true, Bool.not_eq_true'] at h
      obtain ⟨⟨⟨⟨h1, h2⟩, h3⟩, h4⟩, hsw⟩ := h
      exact PS.mono (ps_name C S h1 h4 hsw (PE.fz (sndE e C S.tk h2).pe)) fun D σV H hq => asg_read h3 hq
    · cases h
  | .asgO i e, st, h => by
    simp only [okS] at h
    split at h
    · rename_i x p ex pos
      simp only [Bool.and_eq_true, Bool.or_eq_true, Bool.not_eq_true'] at h
      obtain ⟨⟨⟨⟨h1, h2⟩, h3⟩, h4⟩, h5⟩ := h
      cases hsw : swB sc ex x p with
      | false => exact PS.mono (ps_name C S h1 h4 hsw (sndE e C S.tk h2).pe) fun D σV H hq => asgO_read h3 hq
      | true =>
        have h5 : isComp e = true := by
          rcases h5 with h5 | h5
          · rw [hsw] at h5; cases h5
          · exact h5
        obtain ⟨elt, g, k, a, b, own, cond, rfl⟩ := isComp_eq h5
        obtain ⟨e1, tg, it, ifs, scope, cp, rfl, P⟩ := comp_parts C (fun e z => (sndE a C S.tk z).pe) (fun e z => (sndE b C S.tk z).pe) (fun s H scope Cc cl fp e z => (sndE elt (C.blk s H scope Cc cl fp) blk_takes z).pe) (fun s H scope Cc cl fp e z => (sndE cond (C.blk s H scope Cc cl fp) blk_takes z).pt) h2
        exact PS.mono (ps_comp C S P h1 hsw) fun D σV H hq => asgO_read rfl hq
    · cases h
  | .fz i, st, h => by cases h
  | .asgN is es, st, h => by
    simp only [okS] at h
    split at h
    · rename_i ts kt pt vs k2 pt2 pos
      simp only [Bool.and_eq_true, decide_eq_true_eq, Bool.or_eq_true, Bool.not_eq_true'] at h
      obtain ⟨⟨⟨⟨⟨⟨⟨h1, h2⟩, h3⟩, h4⟩, h5⟩, h6⟩, h7⟩, hh⟩ := h
      have ha := sndA es C S.tk h1
      have hst := okA_stars h1
      rcases h5 with h5 | h5
      · obtain ⟨i, j, x, y, px, py, rfl, rfl, e1, e2, l1, l2, n1⟩ := parN_two C h3 h5
        have hij : i ≠ j := fun z => by subst z; simp at h2
        have hv : vs.length = 2 := h4
        match vs, hv, ha, hst, h6, h7 with
        | [ea, eb], hv, ha, hst, h6, h7 => exact stm_par2 C hh S e1 e2 hij l1 l2 (sw_par C S l1 l2 n1 (nd_ne C.nd e1 e2 hij) rfl hst h6 h7) ha
      · obtain ⟨i, j, k, x, y, z, px, py, pz, rfl, rfl, e1, e2, e3, l1, l2, l3, n1, n2⟩ := parN_three C h3 h5
        have hij : i ≠ j := fun z => by subst z; simp at h2
        have hik : i ≠ k := fun z => by subst z; simp at h2
        have hjk : j ≠ k := fun z => by subst z; simp at h2
        have hv : vs.length = 3 := h4
        match vs, hv, ha, hst, h6, h7 with
        | [ea, eb, ec], hv, ha, hst, h6, h7 => exact stm_par3 C hh S e1 e2 e3 hij hik hjk l1 l2 l3 (sw_par3 C S l1 l2 l3 n1 n2 (nd_ne C.nd e1 e2 hij) (nd_ne C.nd e1 e3 hik) (nd_ne C.nd e2 e3 hjk) rfl hst h6 h7) ha
    · cases h
  | .unp is e, st, h => by
    simp only [okS] at h
    split at h
    · simp only [Bool.and_eq_true] at h
      obtain ⟨⟨⟨⟨h1, h2⟩, h3⟩, h4⟩, hh⟩ := h
      exact stm_unp C (hot_no hh) S h1 h3 h4 (sndE e C S.tk h2).pe
    · cases h
  | .app i e, st, h => by
    simp only [okS] at h
    split at h
    · simp only [Bool.and_eq_true, decide_eq_true_eq] at h
      obtain ⟨⟨⟨⟨⟨⟨⟨h1, h2⟩, h3⟩, h4⟩, h5⟩, h6⟩, h7⟩, h8⟩ := h
      obtain rfl := beq_iff_eq.mp h4
      exact stm_app C h1 h2 h3 h5 h7 h8 (sndE e C S.tk h6).pe
    · cases h
  | .ext i e, st, h => by
    simp only [okS] at h
    split at h
    · simp only [Bool.and_eq_true, decide_eq_true_eq] at h
      obtain ⟨⟨⟨⟨⟨⟨⟨h1, h2⟩, h3⟩, h4⟩, h5⟩, h6⟩, h7⟩, h8⟩ := h
      obtain rfl := beq_iff_eq.mp h4
      exact stm_ext C h1 h2 h3 h5 h7 h8 (sndE e C S.tk h6).pe
    · cases h
  | .exp e, st, h => by
    simp only [okS] at h
    split at h
    · simp only [Bool.and_eq_true] at h
      exact stm_exp h.2 (sndE e C S.tk h.1).pe
    · cases h
  | .ifS c a b, st, h => by
    simp only [okS] at h
    split at h
    · simp only [Bool.and_eq_true] at h
      exact stm_if (sndE c C S.tk h.1.1).pt (sndSs C S a h.1.2) (sndSs C S b h.2)
    · cases h
  | .forS g k a b body, st, h => by
    simp only [okS] at h
    split at h
    · simp only [Bool.and_eq_true] at h
      obtain ⟨⟨⟨⟨⟨h1, h2⟩, h3⟩, h4⟩, h5⟩, hh⟩ := h
      exact stm_for C (hot_no hh) S h1 (snd_src C (fun e z => (sndE a C S.tk z).pe) (fun e z => (sndE b C S.tk z).pe) h2) h3 h4 (sndSs C S body h5)
    · cases h
  | .whl c body, st, h => by
    simp only [okS] at h
    split at h
    · simp only [Bool.and_eq_true] at h
      exact stm_while S (sndE c C S.tk h.1).pt (sndSs C S body h.2)
    · cases h
  | .ret e, st, h => by
    simp only [okS] at h
    split at h
    · cases hf : fresh e with
      | true => exact stm_ret (sndE e C S.tk h).pe hf
      | false =>
        cases e <;> first | (cases hf; done) | skip
        rename_i i
        simp only [okE] at h
        split at h
        · simp only [Bool.and_eq_true, decide_eq_true_eq] at h
          exact stm_retB C h.1.1 h.1.2 h.2
        · cases h
    · cases h
  | .raise c, st, h => by
    simp only [okS] at h
    split at h
    · simp only [Bool.and_eq_true, List.contains_iff_mem] at h
      exact stm_raise C (hot_no h.2) S h.1.1.1 h.1.1.2 h.1.2
    · cases h
  | .mov i j, st, h => stm_mov C S h
  | .dct0 i, st, h => by
    simp only [okS] at h
    split at h
    · obtain ⟨l1, l2⟩ := loc_of C h
      refine PS.mono (ps_set (by rw [C.hN]; exact C.nd) l1 l2 pe_dnewK rfl (.inl (S.fn _))) fun D σV H hq => ?_
      obtain ⟨g0, H0, Hs, g, st, σ, hk, hev⟩ := hq
      intro p hp
      exact Ent.pure hev g _ _ ((hk.mono (.fresh hp) (hk.sto.fresh hp)).drop i _)
    · cases h
  | .unpO is es, st, h => by
    simp only [okS] at h
    split at h
    · simp only [Bool.and_eq_true] at h
      obtain ⟨⟨⟨h1, h2⟩, h3⟩, hh⟩ := h
      exact stm_unpO C (hot_no hh) S h1 h2 h3
    · cases h
  | .opq, st, h => ⟨fun pins s σV H D I hq => by obtain ⟨g0, H0, Hs, g, st, σ, hk, hev⟩ := hq; exact hev.elim⟩
  | .tryK b x k cs, st, h => stm_try C S h
theorem sndSs (C : Cxt W cv T n N sc X) (S : Sxt X W') : ∀ (s : Sms) {sts : List Stmt}, okSs W N sc s sts = true → PSs X sts (tSs X.K cv (callF T n) W' s)
  | .nil, [], h => stm_nil
  | .nil, _ :: _, h => by cases h
  | .cons s r, sts, h => by
    by_cases hs : ∃ i, s = .fz i
    · obtain ⟨i, rfl⟩ := hs
      exact stm_fz (sndSs C S r h)
    · cases sts with
      | nil => cases s <;> first | (cases h; done) | exact absurd ⟨_, rfl⟩ hs
      | cons st sts =>
        have h : (okS W N sc s st && okSs W N sc r sts) = true := by
          cases s <;> first | exact h | exact absurd ⟨_, rfl⟩ hs
        simp only [Bool.and_eq_true] at h
        exact stm_cons (sndS C S s h.1) (sndSs C S r h.2)
end
end
end Wk

end

section
set_option Elab.async false
set_option linter.all false
set_option maxRecDepth 100000
set_option maxHeartbeats 2000000
/-! A def that raises nothing, called within an except suite. -/
namespace Wk
open PySem PySem.Spec PyProof.Rows L2 L2H
structure FnQ (P : Program) (w : World) (K : PySem.W.Frag) (mg : Str → Option Value) (base : Heap) (k : Nat) (f : Addr) (fd : FuncData) (ps : List Str) (sp : Sp) : Prop where
  len : ∀ vs H Q E, sp vs H Q E → vs.length = ps.length
  run : ∀ (A : Around) (outer : List Env) (s : Shared) (H : Hp) (args : Args) (us : List Value) (vs : List V) (Q : VK) (E : XK), RoomH k A → Env0 P w K mg base A outer s H → BindsTo s fd args (ps.zip us) → Vals vs us → sp vs H Q E →
    codeAny (model P w) A (.call (.ref f) args) (CR (L2.CX P w) outer P w H s Q E) s
/-- the context of such a def's body -/
def cxQ (P : Program) (w : World) (K : PySem.W.Frag) (mg : Str → Option Value) (base : Heap) (N : List Str) (qual : Str) (scope : Scope) (f : Addr) (cd : Value) (A : Around) (outer : List Env) (s : Shared) (H : Hp) (E : XK) : Cx :=
  { cxOf (L2.CX P w) P w K mg base N qual scope f cd A outer s H E with calm := false }
theorem inv_startQ {P : Program} {w : World} {K : PySem.W.Frag} {mg : Str → Option Value} {base : Heap} {N ps : List Str} {qual : Str} {scope : Scope} {f : Addr} {cd : Value} {A : Around} {outer : List Env} {s s1 : Shared} {H : Hp} {E : XK} {us : List Value} {vs : List V}
    (S : FnScope N ps scope) (e0 : Env0 P w K mg base A outer s H) (hl : vs.length = ps.length) (r : Vals vs us)
    (x : InCallC s s.heap.objs.size (bindL (envOfC qual scope s.heap.objs.size f cd).kindOf (ps.zip us) fun _ => none) (cellsFrom (s.heap.objs.size + 1) scope.names []) (bindC (envOfC qual scope s.heap.objs.size f cd).kindOf (ps.zip us) fun _ => none) s1) :
    L2.Inv (cxQ P w K mg base N qual scope f cd A outer s H E) [] (L2.start N vs) H s1 := by
  have hpl : ps.length ≤ N.length := by have := congrArg List.length S.pre; rw [List.length_take] at this; omega
  obtain ⟨h1, tk, rfl, hk⟩ := x.done
  have noA : ∀ b : Addr, b ∉ (cxQ P w K mg base N qual scope f cd A outer s H E).ex := fun b z => absurd (show b ∈ ([] : List Addr) from z) (by simp)
  refine ⟨⟨e0.mod, S.kind, rfl, rfl, Nat.le_refl _, fun y z c h1 h2 => ?_, fun y hy => ?_, fun y c _ h => ?_, (fun z => Bool.noConfusion (show false = true from z)), Around.frames_deeper e0.frames, .inr ⟨rfl, rfl⟩, fun b z => absurd z (noA b), e0.bs, e0.bsz, fun b _ _ => noA b, fun b z => absurd z (noA b), e0.funs, e0.frf⟩,
    rfl, e0.bare, Un.kept hk, ⟨_, x.toInCall.ns, fun i y v h1 h2 h3 => ?_⟩, fun y c h => ⟨_, x.cell y c h⟩, e0.hok.fresh (Nat.le_refl _), fun y c h => ?_, fun q hq => absurd (show q ∈ ([] : List (Addr × Obj)) ++ [] from hq) (by simp), e0.hok.kept hk, ?_⟩
  · exact name_of_addr x.apart (PySem.mem_of_lookup h1) (PySem.mem_of_lookup h2)
  · have hy : scope.names.lookup y = some .cell ∨ scope.names.lookup y = some .free := hy
    rcases hy with hy | hy
    · exact cell_has hy
    · exact absurd rfl (S.nofree _ (PySem.mem_of_lookup hy))
  · exact Nat.le_of_lt (x.above y c (PySem.mem_of_lookup h))
  · have hi : i < vs.length := by
      unfold L2.start at h2
      by_cases hi : i < vs.length
      · exact hi
      · rw [List.getElem?_append_right (by simpa using hi)] at h2
        rw [List.getElem?_replicate] at h2
        split at h2 <;> cases h2
    have ha : vs[i]? = some v := by
      unfold L2.start at h2
      rw [List.getElem?_append_left (by simpa using hi), List.getElem?_map] at h2
      cases e : vs[i]? with
      | none => rw [e] at h2; cases h2
      | some a => rw [e] at h2; cases h2; rfl
    obtain ⟨u, hu, rv⟩ := r.get ha
    have hp : ps[i]? = some y := by
      rw [← S.pre, List.getElem?_take_of_lt (by omega)]; exact h1
    have ndP : ps.Nodup := by rw [← S.pre]; exact S.nd.sublist (List.take_sublist _ _)
    refine ⟨u, rv, ?_⟩
    rcases S.par y (List.mem_of_getElem? hp) with k | k
    · exact .inl ⟨k, bindL_get ndP hp hu k⟩
    · obtain ⟨c, e⟩ := cell_has (n := s.heap.objs.size + 1) k
      refine .inr ⟨.inl k, c, e, ?_⟩
      have q := x.cell y c e
      rw [bindC_get ndP hp hu (by show scope.names.lookup y ≠ _; rw [k]; decide)] at q
      exact q
  · exact e0.hok.fresh (Nat.le_of_lt (x.above y c (PySem.mem_of_lookup h)))
  · unfold L2.start
    show _ = N.length
    rw [List.length_append, List.length_map, List.length_replicate]
    omega
theorem fn_ofQ {P : Program} {w : World} {K : PySem.W.Frag} {mg : Str → Option Value} {base : Heap} {k : Nat} {x qual : Str} {st : Stmt} {f : Addr} {fd : FuncData} {N ps : List Str} {sp : Sp} (F : L2.Fun K x qual st f fd) (S : FnScope N ps (defScope st))
    (len : ∀ vs H Q E, sp vs H Q E → vs.length = ps.length)
    (hbody : ∀ (cdv : Value) (A : Around) (outer : List Env) (s : Shared) (H : Hp) (vs : List V) (Q : VK) (E : XK), RoomH k (A.deeper (envOfC qual (defScope st) s.heap.objs.size f cdv)) → sp vs H Q E →
      ∃ t, PSs (cxQ P w K mg base N qual (defScope st) f cdv A outer s H E) (defBody st) t ∧ t { nx := fun _ H' => Q .non H', rt := Q } (L2.start N vs) H) :
    FnQ P w K mg base (k + 1) f fd ps sp := by
  obtain ⟨oc, od, kV, doc, pm, an, cdv, ct, osl, rfl, lk, hcd⟩ := F.ex
  refine ⟨len, fun A outer s H args us vs Q E hr e0 hb r hsp => ?_⟩
  have hl := len _ _ _ _ hsp
  have KX : K.In s.heap := e0.mod.kin.keeps fun b o e => (e0.bs b o e).1
  have lim : s.heap.NoLimit := e0.mod.nolimit.keeps fun b o e => (e0.bs b o e).1
  have hkind : ∀ y ∈ ps.zip us, (defScope st).names.lookup y.1 = some .local ∨ ((defScope st).names.lookup y.1 = some .cell ∧ ((cellsFrom (s.heap.objs.size + 1) (defScope st).names []).lookup y.1).isSome = true) := fun ⟨n, v⟩ hy => by
    rcases S.par n (List.of_mem_zip hy).1 with q | q
    · exact .inl q
    · exact .inr ⟨q, PySem.W.cellsFrom_some _ _ _ (.inl q)⟩
  refine codeAny_call_function hr.depth (KX _ _ lk) rfl S.co S.gen rfl (PySem.W.codeRec_of KX hcd) (hb _ _ _ _ ?_)
  refine wpAny_newFunctionEnv_cells S.kind hkind fun env he s1 x => ?_
  subst he
  refine ⟨lim.keeps x.toInCall.keep, codeAny_func ?_⟩
  obtain ⟨t, ht, hq⟩ := hbody cdv A outer s H vs Q E (hr.deeper _) hsp
  have I : L2.Inv (cxQ P w K mg base N qual (defScope st) f cdv A outer s H E) [] (L2.start N vs) H s1 := inv_startQ S e0 hl r x
  refine wpAny_mono (ht.run [] s1 (L2.start N vs) H _ I hq) (fun fl s' hs => ?_) fun e s' hs => hs
  have fin : ∀ {σ' : L2.St} {H' : Hp} {v : V} {u : Value}, L2.Inv (cxQ P w K mg base N qual (defScope st) f cdv A outer s H E) [] σ' H' s' → RelV v u → Q v H' → CE outer P w H s Q u s' :=
    fun {σ' H' v u} J rv q => ⟨v, H', J.os, J.bare, J.base, J.hok, rv, q⟩
  cases fl with
  | ret u =>
    obtain ⟨v, σ', H', J, rv, q⟩ := hs
    exact fin J rv q
  | next =>
    obtain ⟨σ', H', J, q⟩ := hs
    exact fin (v := V.non) (u := Value.none) J rfl q
  | brk =>
    obtain ⟨_, _, _, q⟩ := hs
    exact False.elim q
  | cont =>
    obtain ⟨_, _, _, q⟩ := hs
    exact False.elim q
section
variable {X : Cx} {k : Nat} {f : Addr} {fd : FuncData} {ps : List Str} {sp : Sp} {E : L2.St → XK} {x : Str} {q pos : Pos} {e : Expr} {es : List Expr} {t : TA}
theorem pe_callQ (F : FnQ X.prog X.w X.K X.mg X.base k f fd ps sp) (hr : RoomH k X.A) (hg : Gl X x) (hm : X.mg x = some (.ref f)) (hk : PySem.W.keepIn X.K (.ref f) = true) (hb : L2.Binds X.K fd ps []) (hx : ∀ σ, PassesAt (L2.CX X.prog X.w) X σ (E σ))
    (ha : PA X (e :: es) t) (hdb : (x == ("__debug__" : Str)) = false := by decide) (he : starEach (e :: es) X.env = (false, eval e X.env) :: starEach es X.env := by rfl) (hpl : (backTo pos (starEach es X.env)).any (·.1) = false := by rfl) :
    PE X (.Call (.Name x q) (e :: es) [] pos) (tCallS sp E t) := by
  refine ⟨fun pins s σ H Q I h => ?_⟩
  refine wpAny_Call_Name_kw (ld_glob I hg hm ?_ hdb)
  refine PySem.W.callWith_K (h₀ := X.base) I.ok.mod.kin hk (thn (ha.run pos pins s σ H _ I h) fun us s1 ⟨vs, H1, I1, r, q⟩ => ⟨I1.kIn, ?_⟩) he hpl
  have hl : us.length = ps.length := by rw [← r.length]; exact F.len _ _ _ _ q
  have b := hb s1 us I1.kIn (by rw [List.append_nil]; exact hl)
  rw [List.append_nil] at b
  refine wpAny_call (codeAny_mono (F.run X.A X.stack s1 H1 ⟨us, []⟩ us vs Q (E σ) hr I1.env0 b r q) fun r s' hq => ?_)
  cases r with
  | error e => exact hx σ pins H1 s1 e s' I1 hq
  | ok fl =>
    cases fl with
    | ret u => exact I1.after hq
    | next => exact False.elim hq
    | brk => exact False.elim hq
    | cont => exact False.elim hq
end
end Wk

end

section
set_option Elab.async false
set_option linter.all false
set_option maxRecDepth 100000
set_option maxHeartbeats 2000000
/-! told(lambda: a): a refusal is handed to a def, within the except suite. -/
namespace Wk
open PySem PySem.Spec PyProof.Rows L2 L2H
section
variable {X : Cx} {pins : List (Addr × Obj)} {σ : L2.St} {H : Hp} {s : Shared}
theorem Inv.suiteK (I : L2.Inv X pins σ H s) (a : Addr) : L2.Inv (X.suite a (X.pn ++ pins)) [] σ H s :=
  ⟨I.ok.suite _ _, I.os, I.bare, I.base, I.loc, I.cell, I.free, I.freeC, fun p hp => I.pin p (by rw [List.append_nil] at hp; exact hp), I.hok, I.len⟩
theorem Inv.unsuiteK {a : Addr} {pn' : List (Addr × Obj)} (I : L2.Inv (X.suite a (X.pn ++ pins)) pn' σ H s) (ok : X.Ok) : L2.Inv X pins σ H s :=
  ⟨ok, I.os, I.bare, I.base, I.loc, I.cell, I.free, I.freeC, fun p hp => I.pin p (List.mem_append_left _ hp), I.hok, I.len⟩
end
/-- what is wished of an exception of the body: i the clause's name, ts what is told behind it -/
def wRet (K : PySem.W.Frag) (L : Nat) (c : Value) (i : Nat) (ts : TE) (D : Ends) : WX := fun cls d σ H =>
  PySem.W.exmOne K cls c = some true ∧ d = none ∧ (σ.length = L → ∀ a, H a = none → ts (σ.set i (some (.ref a))) (upd H a (ExcV cls a)) D.rt)
section
variable {X : Cx} {x n : Str} {c : Value} {i : Nat} {body : List Stmt} {ex : Expr} {np rp hpos pos : Pos} {tb : WX → TS} {ts : TE}
theorem ps_try_ret (st : X.stack = X.env :: X.outer) (fr : X.env.frame = some X.env.locals) (nd : X.N.Nodup) (ni : X.N[i]? = some n) (li : X.env.kindOf n = some .local) (ex0 : X.ex = []) (nm : Names X x c)
    (hs : ∀ (a : Addr) (pn' : List (Addr × Obj)), PE (X.suite a pn') ex ts)
    (hb : ∀ (W : WX) (pn : List (Addr × Obj)) (xe : Value → Shared → Prop), Takes (X.tr pn xe) W → PassesOwn (model X.prog X.w) X.A X.env xe → PSs (X.tr pn xe) body (tb W)) :
    PS X (.Try body [.ExceptHandler (some (.Name x np)) (some n) [.Return (some ex) rp] hpos] [] [] pos) (fun D σ H => tb (wRet X.K X.N.length c i ts D) D σ H) := by
  constructor
  intro pins s0 σ0 H0 D I0 hrd
  have okX := I0.ok
  have frames : X.A.frames = some (X.env :: X.outer) := by rw [okX.frames, st]
  apply wpAny_Try_except
  have bodyRun := (hb (wRet X.K X.N.length c i ts D) (X.pn ++ pins) (fun ev t1 => wpAny (model X.prog X.w) X.A (noteFrame ev X.env) (fun _ t2 => wpAny (model X.prog X.w) X.A (setFlight ev none) (fun _ t3 =>
    wpAny (model X.prog X.w) X.A (handleBy ev X.env [.ExceptHandler (some (.Name x np)) (some n) [.Return (some ex) rp] hpos]) (SP X pins D) X.xe t3) X.xe t2) X.xe t1) ?caught PassesOwn.looking).run [] s0 σ0 H0 D (I0.toTry _) hrd
  case caught =>
    rintro u t0 ⟨a, B, sI, pins1, σ1, H1, cls, d, rfl, I1, keepB, slots, sky, na, hos, hag, hexm, rfl, fin⟩
    have J := I1.ofTry okX
    have sky1 : Sky B (X.env :: X.outer) a (Zc cls none) X.env.locals t0.heap := by rw [← st]; exact sky
    show wpAny (model X.prog X.w) X.A (noteFrame (.ref a) X.env) _ _ _
    refine sky1.land Zc.steady frames fr fun g1 fl1 sl1 => ?_
    have K1 : L2.Inv X pins σ1 H1 { t0 with heap := g1 } := J.landed keepB fl1.1 (slots.trans sl1) hos hag
    obtain ⟨o1, w1, e1, z1, d1⟩ := fl1.there
    have notStack : a ∉ frs (X.env :: X.outer) := fun hm => by
      obtain ⟨_, o9, e9, nf9⟩ := fl1.2.2.1.mem hm
      cases e1.symm.trans e9
      exact nf9 _ d1
    have aLoc : a ≠ X.env.locals := fun z => notStack (List.mem_filterMap.mpr ⟨X.env, by simp, by rw [fr, z]⟩)
    have aFs : a ∉ X.fs := fun hm => by
      obtain ⟨ev, hev, qv⟩ := List.mem_filterMap.mp hm
      exact notStack (List.mem_filterMap.mpr ⟨ev, List.mem_cons_of_mem _ hev, qv⟩)
    have aNew : ∀ o, sI.heap.get? a = some o → False := fun o e => by
      have h9 := keepB a o e (by rw [st]; exact notStack)
      rw [fl1.2.1] at h9; cases h9
    have a0 : X.s_0.heap.get? a = none := by
      cases q9 : X.s_0.heap.get? a with
      | none => rfl
      | some o =>
        obtain ⟨o8, e8⟩ := J.base.there a o q9 (by rw [ex0]; exact fun z => nomatch z)
        exact (aNew o8 e8).elim
    have suiteI := K1.suite e1 d1 na aLoc aFs
    refine wpAny_handleBy_cons (codeAny_handlers_test ?_) (by intro q; cases q)
    have looksCls : PySem.W.Looks (model X.prog X.w) g1 (typeOf (.ref a)) cls := fun _ _ _ _ kk qq => wpAny_typeOf_ref (kk _ _ e1) (by rw [z1.1]; exact qq)
    have matchesC := PySem.W.exm_one (M := model X.prog X.w) K1.kIn looksCls hexm
    have named : ∀ {Q E : Value → Shared → Prop}, Q c { t0 with heap := g1 } → wpAny (model X.prog X.w) (X.A.mark (some (.ref a))) (eval (.Name x np) X.env) Q E { t0 with heap := g1 } := fun {Q E} q => by
      obtain ⟨gl, nb, ho | ⟨ho, hv, hne⟩⟩ := nm
      · exact ld_glob (X := X.suite a ((a, o1) :: (X.pn ++ pins))) suiteI gl ho q nb
      · exact ld_blt (X := X.suite a ((a, o1) :: (X.pn ++ pins))) suiteI gl ho hv q hne nb
    apply named
    apply matchesC.here
    apply codeAny_handlers_suite_as
    refine HandSPX.lands_againZ fl1 fun g2 fl2 sl2 => ?_
    have K2 : L2.Inv X pins σ1 H1 { t0 with heap := g2 } := J.landed keepB fl2.1 ((slots.trans sl1).trans sl2) hos hag
    obtain ⟨o2, w2, e2, z2, d2⟩ := fl2.there
    have noCell : ∀ y cc, X.env.cells.lookup y = some cc → cc ≠ a := fun y cc ec z => by
      obtain ⟨vv, ov, eo, dv⟩ := K2.cell y cc ec
      subst z
      cases eo.symm.trans e2
      rw [d2] at dv; cases dv
    have noPin : ∀ p ∈ X.pn ++ pins, p.1 ≠ a := fun p hp z => aNew p.2 (by rw [← z]; exact (J.pin p hp).1)
    have K3 : L2.Inv X pins σ1 (upd H1 a (ExcV cls a)) { t0 with heap := g2 } := Inv.known K2 e2 z2 d2 na a0 aLoc noCell noPin
    have suite2 := Inv.suiteK K3 a
    refine store_ok (X := X.suite a (X.pn ++ pins)) (v := .ref a) suite2 nd ni (.inl li) rfl (fun t5 I5 => ?_) (.inr li)
    have step : PSs (X.suite a (X.pn ++ pins)) [.Return (some ex) rp] _ := pss_one (ps_ret (pos := rp) (hs a _))
    have goes := step.run [] t5 _ (upd H1 a (ExcV cls a)) { nx := fun _ _ => False, rt := D.rt, bk := fun _ _ => False, ct := fun _ _ => False } I5 (fin I1.len a na)
    refine wpAny_mono goes (fun fl t6 hfl => ?_) fun _ _ z => False.elim z
    cases fl with
    | ret u =>
      obtain ⟨v, σ6, H6, I6, rv, q6⟩ := hfl
      refine gone_ok (X := X.suite a (X.pn ++ pins)) I6 nd ni li fun t7 I7 => ?_
      exact ⟨v, _, H6, Inv.unsuiteK I7 okX, rv, q6⟩
    | next => obtain ⟨_, _, _, z⟩ := hfl; exact z.elim
    | brk => obtain ⟨_, _, _, z⟩ := hfl; exact z.elim
    | cont => obtain ⟨_, _, _, z⟩ := hfl; exact z.elim
  refine wpAny_mono bodyRun (fun fl t1 hfl => ?_) fun _ _ z => z
  cases fl with
  | next =>
    obtain ⟨σ2, H2, J2, q⟩ := hfl
    exact wpAny_execs_nil ⟨σ2, H2, J2.ofTry okX, q⟩
  | brk =>
    obtain ⟨σ2, H2, J2, q⟩ := hfl
    exact ⟨σ2, H2, J2.ofTry okX, q⟩
  | cont =>
    obtain ⟨σ2, H2, J2, q⟩ := hfl
    exact ⟨σ2, H2, J2.ofTry okX, q⟩
  | ret u =>
    obtain ⟨v, σ2, H2, J2, rv, q⟩ := hfl
    exact ⟨v, σ2, H2, J2.ofTry okX, rv, q⟩
end
/-! ### the lambda is made -/
section
variable {X : Cx} {pins : List (Addr × Obj)} {σ : L2.St} {H : Hp} {s : Shared}
open LamX in
theorem lam_make3 {q : Str} {c P : Addr} {params : Arguments} {body : Expr} {scope : Scope} {pos : Pos} {E : Value → Shared → Prop} {Q : Value → Shared → Prop} (I : L2.Inv X pins σ H s) (TB : TabB X.base X.mg c P) (hcode : X.env.code = .ref c)
    (hq : X.env.qual ++ "<lambda>" = q) (hT : Tabs [(P, q)] H) (hdef : defaultsOf params X.env = ([], [])) (hfree : ∀ y ∈ scope.names, y.2 = .free → ∃ c, X.env.cells.lookup y.1 = some c)
    (h : ∀ (f c' : Addr) (pm ctv : Value) (H1 : Hp) (s' : Shared), L2.Inv X pins σ H1 s' → ExtN H H1 → (∀ b, H1 b = none → H b = none) → Tabs [(P, q)] H1 →
      s'.heap.get? f = some (PySem.W.kla_obj "<lambda>" (X.env.qual ++ "<lambda>") params body scope (cloFrom X.env.cells scope.names []) pm c' ctv) → H1 f = none → f ∉ frs X.stack → H1 c' = some (CodeO c' (X.env.qual ++ "<lambda>")) → Q (.ref f) s') :
    wpAny (model X.prog X.w) X.A (eval (.Lambda params body scope pos) X.env) Q E s := by
  subst hq
  obtain ⟨ps, hP, ht, ha⟩ := hT _ List.mem_cons_self
  have hP : H P = some (.tbl ps) := hP
  refine PySem.W.kla_eval hdef ?_
  have bP : s.heap.BuiltinsAt X.mg P := TB.bm.keeps I.bk
  have hP' : s.heap.get? P = some { cls := .none, data := .fields ps } := I.hok P _ hP
  have off : ∀ f, s.heap.objs.size ≤ f → f ∉ frs X.stack := fun f hf z => by
    rcases List.mem_cons.mp (I.stkSub _ z) with e | e
    · have h1 := I.lt
      rw [← e] at h1
      exact absurd h1 (Nat.not_lt.mpr hf)
    · exact I.nofs hf e
  cases hc : codeAmong pos ps.toList with
  | some cv =>
    obtain ⟨c', e, hco⟩ := ha pos cv hc
    subst e
    refine PySem.W.kla_makeFunctionHit (mg := X.mg) (c := c) (P := P) (ps := ps) (closure_ok hfree) I.ok.glob (I.mod.glob.keeps I.bk) hcode (TB.code.keeps I.bk) hP' ht hc bP fun ctv h' tk hx hsz => ?_
    exact h h'.objs.size c' ((X.mg "__name__").getD .none) ctv H _ (I.kept fun b o e => Heap.get?_push_of_some _ (hx b o e)) (ExtN.refl H) (fun _ z => z) hT (Heap.get?_push_size _ rfl) (I.hok.fresh hsz) (off _ hsz) hco
  | none =>
    refine PySem.W.kla_makeFunction (mg := X.mg) (c := c) (P := P) (ps := ps) (closure_ok hfree) I.ok.glob (I.mod.glob.keeps I.bk) hcode (TB.code.keeps I.bk) hP' ht hc TB.gP bP fun c' ctv h' tk hx hge hlt hrec htb => ?_
    obtain ⟨c2, oc, vs, t, e2, hoc, hd, hv⟩ := hrec
    cases e2
    have hsz : s.heap.objs.size ≤ h'.objs.size := by omega
    have nC : H c' = none := I.hok.fresh hge
    have nF : H h'.objs.size = none := I.hok.fresh hsz
    have hPs := Heap.lt_size hP'
    have n1 : h'.objs.size ≠ c' := by omega
    have n2 : h'.objs.size ≠ P := fun z => absurd (Nat.lt_of_lt_of_le hPs hsz) (by rw [z]; exact Nat.lt_irrefl _)
    have I1 := inv_table (t' := tk) (more := #[rawInt pos.line, rawInt pos.col, .ref c']) (h' := h'.push (PySem.W.kla_obj "<lambda>" (X.env.qual ++ "<lambda>") params body scope (cloFrom X.env.cells scope.names []) ((X.mg "__name__").getD .none) c' ctv)) I hP
      (fun b o hb e => Heap.get?_push_of_some _ (hx b o hb e)) (Heap.get?_push_of_some _ htb) hge ⟨oc, vs, t, Heap.get?_push_of_some _ hoc, hd, hv⟩
    have hE : ExtN H (upd (upd H P (.tbl (ps ++ #[rawInt pos.line, rawInt pos.col, .ref c']))) c' (CodeO c' (X.env.qual ++ "<lambda>"))) := fun b o e n => by
      have m1 : b ≠ c' := fun z => by rw [z, nC] at e; cases e
      have m2 : b ≠ P := fun z => by rw [z, hP] at e; cases e; exact n _ rfl
      rw [upd_ne m1, upd_ne m2]; exact e
    have eL : (ps ++ #[rawInt pos.line, rawInt pos.col, .ref c']).toList = ps.toList ++ [rawInt pos.line, rawInt pos.col, .ref c'] := by simp
    refine h h'.objs.size c' ((X.mg "__name__").getD .none) ctv _ _ I1 hE (fun b z => ?_) (fun p hp => ?_) (Heap.get?_push_size _ rfl) ?_ (off _ hsz) upd_same
    · by_cases m1 : b = c'
      · rw [m1, upd_same] at z; cases z
      · by_cases m2 : b = P
        · rw [upd_ne m1, m2, upd_same] at z; cases z
        · rw [upd_ne m1, upd_ne m2] at z; exact z
    · rw [List.mem_singleton] at hp
      rw [hp]
      refine ⟨_, by rw [upd_ne (ne_of_none hP nC), upd_same], by rw [eL]; exact PySem.TriplesOk_snoc _ _ _ _ ht, fun p' cv hcv => ?_⟩
      rw [eL] at hcv
      rcases among_app _ ht hcv with z | z
      · obtain ⟨c0, e1, e2⟩ := ha p' cv z
        exact ⟨c0, e1, hE _ _ e2 codeO_ne⟩
      · exact ⟨c', z, upd_same⟩
    · rw [upd_ne n1, upd_ne n2]; exact nF
end
end Wk

end

section
set_option Elab.async false
set_option linter.all false
set_option maxRecDepth 100000
set_option maxHeartbeats 2000000
/-! told(lambda: a): the def's promise. -/
namespace Wk
open PySem PySem.Spec PyProof.Rows L2 L2H
/-- the look at a def that calls what it got, and hands a refusal on -/
def toldB (st : Stmt) (a e we cn : Str) : Bool := (match defBody st with
  | [.Try [.Return (some (.Call (.Name a' _) [] [] _)) _] [.ExceptHandler (some (.Name we' _)) (some e') [.Return (some (.Call (.Name cn' _) [.Name e2 _] [] _)) _] _] [] [] _] => a' == a && we' == we && e' == e && cn' == cn && e2 == e
  | _ => false) && C8.scC [a, e] [a] (defScope st) && visB (defScope st) a && decide ((defScope st).names.lookup e = some .local) && glB (defScope st) we && glB (defScope st) cn && nameOk a && nameOk e && nameOk we && nameOk cn
theorem frm_ext {g : Gh} {H H1 : Hp} {st : Sto} (e : LamX.ExtN H H1) (lv : ∀ b, H1 b = none → H b = none) (s : SRep g H st) : Frm g H g H1 where
  keep := fun a o h _ t => e a o h t
  still := fun a o h st => e a o h fun ps z => by subst z; exact st.elim
  new := fun a h => .inl h
  pa := List.prefix_rfl
  live := lv
  tb := rfl
section
variable {P : Program} {w : World} {K : PySem.W.Frag} {mg : Str → Option Value} {base : Heap} {cv : Nat → Value} {T : Nat → Option Fn} {n fc : Nat} {cl : List (Str × Nat)} {x a e we cn : Str} {st : Stmt} {g aq CS : Addr} {fd fdq : FuncData} {psq : List Str}
theorem told_prom (F : L2.Fun K x x st g fd) (hmg : mg x = some (.ref g)) (hb : L2.Binds K fd [a] []) (hB : toldB st a e we cn = true) (hx : nameOk x = true)
    (hQ : FnQ P w K mg base n aq fdq psq (spF K cv T n fc)) (hqm : mg cn = some (.ref aq)) (hqk : PySem.W.keepIn K (.ref aq) = true) (hqb : L2.Binds K fdq psq [])
    (hwe : mg we = some (.ref CS)) (hex : ∀ p ∈ cl, PySem.W.exmOne K (cv p.2) (.ref CS) = some true) (hkit : ∀ p ∈ cl, ∃ D, cv p.2 = .ref D ∧ ExKit K D p.2) :
    ToldR P w K mg base cv T n cl x fc := by
  intro X W' params body scope tm cs lpos p pos e1 e2 e3 e4 e5 L1 hg na LS fa hcs hbody
  subst e1 e2 e3 e4 e5
  obtain ⟨oc, od, kV, doc, pm, an, cdv, ct, osl, rfl, lk, hcd⟩ := F.ex
  unfold toldB at hB
  simp only [Bool.and_eq_true, decide_eq_true_eq] at hB
  obtain ⟨⟨⟨⟨⟨⟨⟨⟨⟨hB, h1⟩, h2⟩, h3⟩, h4⟩, h5⟩, h6⟩, h7⟩, h8⟩, h9⟩ := hB
  split at hB
  case h_2 => cases hB
  rename_i a' p1 p2 p3 we' p4 e' cn' p5 e2' p6 p7 p8 p9 p10 hdb
  simp only [Bool.and_eq_true, beq_iff_eq] at hB
  obtain ⟨⟨⟨⟨rfl, rfl⟩, rfl⟩, rfl⟩, rfl⟩ := hB
  have S := C8.fnScope_by h1
  obtain ⟨c, Pt, t1, hcode, TB⟩ := L1.tab
  have hTk : tabsK X.K = [(Pt, lamQ)] := by unfold tabsK; rw [t1]
  have hva : Vis (defScope st) a' := by
    unfold visB at h2
    split at h2
    · exact .inl (by assumption)
    · exact .inr (.inl (by assumption))
    · exact .inr (.inr (by assumption))
    · cases h2
  have gl : ∀ {y : Str}, glB (defScope st) y = true → (defScope st).names.lookup y = some .globalImplicit := fun {y} h => by
    unfold glB at h
    split at h
    · assumption
    · cases h
  refine ⟨fun pins s σ H Q I hq => ?_⟩
  obtain ⟨gg, st0, σe, hE, hS, hev⟩ := hq
  have hT : LamX.Tabs [(Pt, lamQ)] H := by rw [← hTk, ← hE.tb]; exact hS.2.2.2
  have hev : Ent (tryM (evE (callF T n) σe tm) (fun c => if cs.contains c then quiet (callF T n fc [.exc c]) else bad) st0) (Fin1 X.K gg H true Q) (ExcK cv W' gg H σ) := hev
  have hpar : params = ⟨[], [], none, [], [], none, []⟩ := by
    obtain ⟨q1, q2, q3, q4, q5, q6, q7⟩ := params
    unfold noArgs at na
    simp only [Bool.and_eq_true, List.isEmpty_iff, Option.isNone_iff_eq_none] at na
    obtain ⟨⟨⟨⟨⟨⟨rfl, rfl⟩, rfl⟩, rfl⟩, rfl⟩, rfl⟩, rfl⟩ := na
    rfl
  have hdef : defaultsOf params X.env = ([], []) := by rw [hpar]; rfl
  have hbind : ∀ (q : Str) (cl : List (Str × Addr)) (pm cv ctv : Value), bindArgs (PySem.W.kla_fn "<lambda>" q params body scope cl pm cv ctv) ⟨[], []⟩ = pure [] := fun q cl pm cv ctv => by rw [hpar]; rfl
  refine wpAny_Call_Name_kw (ld_glob I hg hmg ?_ (names_of hx).1)
  refine PySem.W.callWith_K (h₀ := X.base) I.ok.mod.kin F.kp ?_ (by rfl) (by rfl)
  show wpAny _ _ (spliced ((false, eval (.Lambda params body scope lpos) X.env) :: backTo pos (starEach [] X.env))) _ _ s
  refine Calls.spliced_cons (lam_make3 I TB hcode L1.qual hT hdef (LS.has I.ok) fun f c' pm' ctv H1 s' I1 eN lv T1 hf hfn hfr hco => ?_)
  refine Calls.spliced_nil ⟨I1.kIn, ?_⟩
  have fr1 : Frm gg H gg H1 := frm_ext eN lv hS
  have hS1 : SRep gg H1 st0 := ⟨hS.1, hS.2.1, hS.2.2.1, by rw [hE.tb, hTk]; exact T1⟩
  have rc : codeAny (model X.prog X.w) X.A (.call (.ref g) ⟨[.ref f], []⟩) (CR (L2.CX X.prog X.w) X.stack X.prog X.w H1 s' Q (fun _ _ _ => False)) s' := by
    refine LamX.run_ofS (N := [a', e2']) (ps := [a']) (us := [.ref f]) (vs := [.ref f]) lk hcd S L1.room I1.env0 (hb s' [.ref f] I1.kIn rfl) (.cons rfl .nil) rfl fun hr' => ?_
    rw [hdb]
    have hrq : RoomH n (X.A.deeper (envOfC x (defScope st) s'.heap.objs.size g cdv)) := ⟨by have := hr'.dp; omega, by have := hr'.un; omega⟩
    have pq : ∀ (b : Addr) (pn' : List (Addr × Obj)), PE (Cx.suite (cxOf (L2.CX X.prog X.w) X.prog X.w X.K X.mg X.base [a', e2'] x (defScope st) g cdv X.A X.stack s' H1 (fun _ _ _ => False)) b pn') (.Call (.Name cn' p5) [.Name e2' p6] [] p7) (tCallS (spF X.K cv T n fc) (fun _ => fun _ _ _ => False) (tCons (tVar 1) tNil)) := fun b pn' =>
      pe_callQ (X := Cx.suite (cxOf (L2.CX X.prog X.w) X.prog X.w X.K X.mg X.base [a', e2'] x (defScope st) g cdv X.A X.stack s' H1 (fun _ _ _ => False)) b pn') hQ ⟨hrq.dp, hrq.un⟩ (gl h5) hqm hqk hqb (fun σ => passAt LamX.takes0 σ) (pa_cons (pe_var rfl (.inl h3) (names_of h7).1 (names_of h7).2) pa_nil) (names_of h9).1
    refine ⟨_, pss_one (ps_try_ret (X := (cxOf (L2.CX X.prog X.w) X.prog X.w X.K X.mg X.base [a', e2'] x (defScope st) g cdv X.A X.stack s' H1 (fun _ _ _ => False))) (c := .ref CS) (i := 1) (n := e2') (ts := (tCallS (spF X.K cv T n fc) (fun _ => fun _ _ _ => False) (tCons (tVar 1) tNil)))
      (tb := fun W D σZ HZ => ∃ Ech : XK, (∀ cls d σ' H', Ech cls d H' → W cls d σ' H') ∧ σZ[0]? = some (some (.ref f)) ∧ HZ c' = some (LamX.CodeO c' (X.env.qual ++ "<lambda>")) ∧ tE X.K cv (callF T n) (fun cls d _ H => Ech cls d H) tm σ HZ D.rt)
      rfl rfl S.nd rfl (by show (defScope st).names.lookup e2' = _; exact h3) rfl ⟨gl h4, (names_of h8).1, .inl hwe⟩ pq (fun W pn xe tk _ => ⟨fun pins2 s2 σZ HZ D I2 h' => ?_⟩)), ?_⟩
    · obtain ⟨Ech, hW, k1, k2, k3⟩ := h'
      have hp := LamX.pe_act (i := 0) (p1 := p1) (p2 := p2) I1 LS hf hfn hfr (hbind _ _ _ _ _) tk hW hr' (fun A outer s H hr2 => hbody A outer s H Ech f c' hr2) rfl hva (names_of h6).1 (names_of h6).2
      exact (pss_one (ps_ret (pos := p3) hp)).run pins2 s2 σZ HZ D I2 ⟨k1, k2, k3⟩
    · refine ⟨fun cls d H' => PySem.W.exmOne X.K cls (.ref CS) = some true ∧ d = none ∧ ∀ σ', σ'.length = 2 → ∀ b, H' b = none → (tCallS (spF X.K cv T n fc) (fun _ => fun _ _ _ => False) (tCons (tVar 1) tNil)) (σ'.set 1 (some (.ref b))) (upd H' b (ExcV cls b)) Q, fun cls d σ' H' k => ⟨k.1, k.2.1, fun hl b nb => k.2.2 σ' hl b nb⟩, rfl, hco, gg, st0, σe, hE.mono fr1, hS1, ?_⟩
      unfold tryM at hev
      cases q : evE (callF T n) σe tm st0 with
      | bad => rw [q] at hev; exact hev.elim
      | ok r st1 =>
        rw [q] at hev
        rw [fa]
        exact Fin1.mono fr1 hev
      | exc cc st1 =>
        rw [q] at hev
        have hev : Ent ((if cs.contains cc = true then quiet (callF T n fc [.exc cc]) else bad : M Rv) st1) (Fin1 X.K gg H true Q) (ExcK cv W' gg H σ) := hev
        obtain ⟨hc, hev⟩ := Ent.ite hev
        have hev := Ent.quiet hev
        rw [List.contains_iff_mem] at hc
        intro g' H' f2 s2
        obtain ⟨pc, hpc, rfl⟩ := hcs cc hc
        obtain ⟨D1, d1, d2⟩ := hkit pc hpc
        refine ⟨hex pc hpc, rfl, fun σ' hl b nb => ?_⟩
        rw [d1]
        refine ⟨.ref b, List.getElem?_set_self (by omega), g', st1, [.exc pc.2], f2.tb.trans hE.tb, .cons ⟨b, D1, rfl, upd_same, s2.nfa nb, d2⟩ .nil, fun r hr xs z => ?_, s2.fresh nb, hev.mono (fun r st2 q => Fin1.mono (fr1.trans (f2.trans (.fresh nb))) q) fun _ _ z => z.elim⟩
        rw [List.mem_singleton] at hr
        subst hr
        cases z
  refine wpAny_call (codeAny_mono rc fun r s2 hq => ?_)
  cases r with
  | error e =>
    obtain ⟨_, _, _, _, _, _, _, _, _, _, _, _, z⟩ := hq
    exact z.elim
  | ok fl =>
    cases fl with
    | ret u => exact I1.after hq
    | next => exact False.elim hq
    | brk => exact False.elim hq
    | cont => exact False.elim hq
end
end Wk

end

section
set_option Elab.async false
set_option linter.all false
set_option maxRecDepth 100000
set_option maxHeartbeats 1000000
/-! Defs; the law. -/
namespace Wk
open PySem PySem.Spec PyProof.Rows L2
/-- a def that is handed a lambda -/
structure Td where
  x : Str
  st : Stmt
  a : Str
  e : Str
  we : Str
  fc : Nat
/-- what is known of the text: a def's number tells its statement, names, parameters -/
structure Txt where
  W : Wd
  T : Nat → Option Fn
  st : Nat → Stmt
  N : Nat → List Str
  ps : Nat → List Str
  td : List Td
  /-- its own name -/
  qn : Nat → Str
/-- the look at a def -/
def Txt.lookW (t : Txt) (W : Wd) (f : Nat) : Bool := match t.T f with
  | some fn => C8.scC (t.N f) (t.ps f) (defScope (t.st f)) && decide (fn.np = (t.ps f).length) && decide (fn.ns = (t.N f).length) && decide ((t.ps f).length ≤ (t.N f).length) && okSs W (t.N f) (defScope (t.st f)) fn.body (defBody (t.st f))
  | none => false
def Txt.look (t : Txt) (f : Nat) : Bool := t.lookW t.W f
/-- a def in the heap -/
structure DefAt (K : PySem.W.Frag) (mg : Str → Option Value) (x y : Str) (st : Stmt) (ps : List Str) (a : Addr) (fd : FuncData) : Prop where
  fn : Fun K y y st a fd
  mg : mg x = some (.ref a)
  bd : Binds K fd ps []
structure WdOk (K : PySem.W.Frag) (mg : Str → Option Value) (cv : Nat → Value) (W : Wd) : Prop where
  cns : ∀ p ∈ W.cn, ∃ u, mg p.2.1 = some u ∧ RelV (litV p.2.2) u
  bis : ∀ x ∈ biNames, mg x = none
  kits : W.tr ≠ [] → ∀ p ∈ W.cl, ∃ D, cv p.2 = .ref D ∧ ExKit K D p.2
  cks : ∀ q ∈ W.ck, q ∈ excTab ∧ ∃ C, mg q.1 = some (.ref C) ∧ PySem.W.nsIn K mainGlobals q.1 = some (some (.ref C))
  tries : ∀ x ∈ W.tr, ∃ C, mg x = some (.ref C) ∧ ∀ p ∈ W.cl, PySem.W.exmOne K (cv p.2) (.ref C) = some true
  cls : ∀ p ∈ W.cl, ∃ (C : Addr) (bmB : List Value) (B newId initId : String), PySem.ExcBaseFacts B newId initId bmB ∧ PySem.W.excIn K C bmB newId = true ∧ mg p.1 = some (.ref C) ∧ PySem.W.keepIn K (.ref C) = true ∧ PySem.W.subIn K (.ref C) (.type "BaseException") = some true ∧ PySem.W.typeIn K (.ref C) = some (.type "type") ∧ cv p.2 = .ref C
section
variable {P : Program} {w : World} {K : PySem.W.Frag} {mg : Str → Option Value} {base : Heap} {cv : Nat → Value} {t : Txt} {x : Str}
theorem start_get {vs : List V} {N : List Str} {i : Nat} {v : V} (h : vs[i]? = some v) : (L2.start N vs)[i]? = some (some v) := by
  unfold L2.start
  have hi := (List.getElem?_eq_some_iff.mp h).1
  rw [List.getElem?_append_left (by simpa using hi), List.getElem?_map, h]; rfl
theorem VRs.get {K : PySem.W.Frag} {g : Gh} {H : Hp} {vs : List V} {rs : List Rv} (h : VRs K g H vs rs) : ∀ (j : Nat) (r : Rv), rs[j]? = some r → ∃ v, vs[j]? = some v ∧ VR K g H v r := by
  induction h with
  | nil => intro j v e; simp at e
  | cons a r ih =>
    intro j v e
    cases j with
    | zero => simp at e; subst e; exact ⟨_, rfl, a⟩
    | succ j => obtain ⟨r, h1, h2⟩ := ih j v (by simpa using e); exact ⟨r, by simpa using h1, h2⟩
theorem env0_get {rs : List Rv} {k i : Nat} {r : Rv} (h : (rs.map some ++ List.replicate k (none : Option Rv))[i]? = some (some r)) : rs[i]? = some r := by
  by_cases hi : i < rs.length
  · rw [List.getElem?_append_left (by simpa using hi), List.getElem?_map] at h
    cases q : rs[i]? with
    | none => rw [q] at h; cases h
    | some r' => rw [q] at h; cases h; rfl
  · rw [List.getElem?_append_right (by simpa using hi)] at h
    rw [List.getElem?_replicate] at h
    split at h <;> cases h
/-- a body's reading, from the evaluation of the call -/
theorem body_read {n f : Nat} {fn : Fn} {N : List Str} {np : Nat} (hT : t.T f = some fn) (l2 : fn.np = np) (l3 : fn.ns = N.length) (l4 : np ≤ N.length) {vs : List V} {H : Hp} {Q : VK} {E : XK} (h : spF K cv t.T (n + 1) f vs H Q E) :
    vs.length = np ∧ tSs K cv (callF t.T n) (fun cls d _ H => E cls d H) fn.body { nx := fun _ H' => Q .non H', rt := Q } (L2.start N vs) H := by
  have run : ∀ {rs : List Rv} {st : Sto} {Q : Rv → Sto → Prop} {E : Nat → Sto → Prop}, Ent (callF t.T (n + 1) f rs st) Q E → rs.length = fn.np ∧ Ent (evSs (callF t.T n) (rs.map some ++ List.replicate (fn.ns - fn.np) none) fn.body st) (fun r st' => match r with
    | (.rt r, _) => Q r st'
    | (.nx, _) => Q (.d .none) st') E := fun {rs st Q E} h => by
    have h : Ent ((match t.T f with | some fn => runFn (callF t.T n) fn rs | none => bad : M Rv) st) Q E := h
    rw [hT] at h
    have h : Ent ((runFn (callF t.T n) fn rs : M Rv) st) Q E := h
    unfold runFn at h
    obtain ⟨z, h⟩ := Ent.ite h
    refine ⟨z, (Ent.bind h).mono (fun r st' q => ?_) fun _ _ q => q⟩
    obtain ⟨fl, σ⟩ := r
    cases fl <;> exact q
  obtain ⟨g, st, rs, htb, h1, hno, hS, h⟩ := h
  obtain ⟨hlen, h⟩ := run h
  refine ⟨by rw [h1.length, hlen, l2], g, H, H, g, st, _, ⟨⟨htb, ?_, fun i r hi => ?_, fun i j xs ys b e1 _ _ _ => ?_⟩, fun i xs b e1 _ => ?_, hS, .refl, .refl⟩, h.mono (fun r st' q => ?_) fun c st' q g' H' σV' f1 s1 => q g' H' f1 s1⟩
  · unfold L2.start
    rw [List.length_append, List.length_append, List.length_map, List.length_map, List.length_replicate, List.length_replicate, h1.length, hlen, l2, l3]
  · obtain ⟨v, e1, e2⟩ := h1.get i r (env0_get hi)
    exact ⟨v, start_get e1, e2⟩
  · exact absurd rfl (hno _ (List.mem_of_getElem? (env0_get e1)) xs)
  · exact absurd rfl (hno _ (List.mem_of_getElem? (env0_get e1)) xs)
  · obtain ⟨fl, σ⟩ := r
    cases fl with
    | rt r => exact q
    | nx => exact fun g' H' σV' hk => q .non g' H' hk.frm hk.sto .non fun _ _ _ e => by cases e
theorem def_ok (hs : t.W.slk = 0) (wd : WdOk K mg cv t.W) (df : ∀ f ∈ t.W.fns, ∃ a fd, DefAt K mg (t.W.nm f) (t.qn f) (t.st f) (t.ps f) a fd) (lk : ∀ f ∈ t.W.fns, t.look f = true) : ∀ (n : Nat) (f : Nat), f ∈ t.W.fns → ∀ a fd, DefAt K mg (t.W.nm f) (t.qn f) (t.st f) (t.ps f) a fd → FnOk P w K mg base (L2.CX P w) n a fd (t.ps f) (spF K cv t.T n f)
  | 0, f, hf, a, fd, d => ⟨fun vs H Q E h => by obtain ⟨_, _, _, _, _, _, _, h⟩ := h; exact h.elim, fun A outer s H args us vs Q E _ _ _ _ h => by obtain ⟨_, _, _, _, _, _, _, h⟩ := h; exact h.elim⟩
  | n + 1, f, hf, a, fd, d => by
    have l := lk f hf
    unfold Txt.look Txt.lookW at l
    split at l
    · rename_i fn hT
      simp only [Bool.and_eq_true, decide_eq_true_eq] at l
      obtain ⟨⟨⟨⟨l1, l2⟩, l3⟩, l4⟩, l5⟩ := l
      have S := C8.fnScope_by l1
      refine d.fn.okX S (fun vs H Q E h => (body_read hT l2 l3 l4 h).1) fun cdv A outer s H vs Q E hr h => ?_
      have C : Cxt t.W cv t.T n (t.N f) (defScope (t.st f)) (cxOf (L2.CX P w) P w K mg base (t.N f) (t.qn f) (defScope (t.st f)) a cdv A outer s H E) := {
        hN := rfl, nd := S.nd, hsc := rfl, calm := fun _ => rfl, roomH := ⟨by rw [hs]; exact hr.dp, by rw [hs]; exact hr.un⟩, hd := fun _ => hr.hd, cns := wd.cns, bis := wd.bis, kits := wd.kits, cks := wd.cks, tries := wd.tries, cls := wd.cls
        tolds := fun z => by rw [hs] at z; cases z
        lam := fun z => by rw [hs] at z; cases z
        fns := fun f' hf' => by
          obtain ⟨a', fd', d'⟩ := df f' hf'
          exact ⟨a', fd', t.ps f', def_ok hs wd df lk n f' hf' a' fd' d', d'.mg, d'.fn.kp, d'.bd⟩ }
      have X : Sxt (cxOf (L2.CX P w) P w K mg base (t.N f) (t.qn f) (defScope (t.st f)) a cdv A outer s H E) (fun cls d _ H => E cls d H) := {
        fn := fun _ => rfl, stk := rfl, frm := rfl, ex := rfl, own := passes_of rfl, tk := takes_of rfl rfl rfl rfl, kind := S.kind }
      exact ⟨_, sndSs C X fn.body l5, (body_read hT l2 l3 l4 h).2⟩
    · cases l
/-- within an except suite -/
theorem def_okQ {n f : Nat} {a : Addr} {fd : FuncData} (wd : WdOk K mg cv t.W) (hs : t.W.slk = 0) (l : t.lookW { t.W with hot := true, fns := [] } f = true) (d : DefAt K mg (t.W.nm f) (t.qn f) (t.st f) (t.ps f) a fd) : FnQ P w K mg base n a fd (t.ps f) (spF K cv t.T n f) := by
  cases n with
  | zero => exact ⟨fun vs H Q E h => by obtain ⟨_, _, _, _, _, _, _, h⟩ := h; exact h.elim, fun A outer s H args us vs Q E _ _ _ _ h => by obtain ⟨_, _, _, _, _, _, _, h⟩ := h; exact h.elim⟩
  | succ n =>
    unfold Txt.lookW at l
    split at l
    · rename_i fn hT
      simp only [Bool.and_eq_true, decide_eq_true_eq] at l
      obtain ⟨⟨⟨⟨l1, l2⟩, l3⟩, l4⟩, l5⟩ := l
      have S := C8.fnScope_by l1
      refine fn_ofQ d.fn S (fun vs H Q E h => (body_read hT l2 l3 l4 h).1) fun cdv A outer s H vs Q E hr h => ?_
      have C : Cxt { t.W with hot := true, fns := [] } cv t.T n (t.N f) (defScope (t.st f)) (cxQ P w K mg base (t.N f) (t.qn f) (defScope (t.st f)) a cdv A outer s H E) := {
        hN := rfl, nd := S.nd, hsc := rfl, calm := fun z => (nomatch z), roomH := ⟨by show _ + 3 * (n + t.W.slk) + 5 < _; rw [hs]; exact hr.dp, by show _ + 16 * (n + t.W.slk) + 200 < _; rw [hs]; exact hr.un⟩, hd := fun z => (nomatch z), cns := wd.cns, bis := wd.bis, kits := wd.kits, cks := wd.cks, tries := wd.tries, cls := wd.cls
        tolds := fun z => by have z : t.W.slk = 1 := z; rw [hs] at z; cases z
        lam := fun z => by have z : t.W.slk = 1 := z; rw [hs] at z; cases z
        fns := fun f' hf' => by cases hf' }
      have X : Sxt (cxQ P w K mg base (t.N f) (t.qn f) (defScope (t.st f)) a cdv A outer s H E) (fun cls d _ H => E cls d H) := {
        fn := fun _ => rfl, stk := rfl, frm := rfl, ex := rfl, own := passes_of rfl, tk := takes_of rfl rfl rfl rfl, kind := S.kind }
      exact ⟨_, sndSs C X fn.body l5, (body_read hT l2 l3 l4 h).2⟩
    · cases l
/-! ### the law -/
def script (ns : List Int) : Rv := .d (.list (ns.map .int))
/-- .. its script locked at first -/
def spL (K : PySem.W.Frag) (cv : Nat → Value) (T : Nat → Option Fn) (n f : Nat) : Sp := fun vs H Q E => spF K cv T n f vs H Q E ∨ ∃ a xs, vs = [.ref a] ∧ H a = some (.lst xs) ∧ ∀ o, spF K cv T n f vs (upd H a (.frz o (.lst xs))) Q E
def Txt.wl (t : Txt) : Wd := { t.W with slk := 1, td := t.td.map fun q => (q.x, q.fc) }
/-- the look at what tells -/
def Txt.lookT (t : Txt) : Bool := t.td.all fun q => toldB q.st q.a q.e q.we (t.W.nm q.fc) && nameOk q.x && t.W.fns.contains q.fc && t.lookW { t.W with hot := true, fns := [] } q.fc && t.W.tr.contains q.we
theorem def_okL {n f : Nat} {a c Pt : Addr} {fd : FuncData} (hs : t.W.slk = 0) (wd : WdOk K mg cv t.W) (df : ∀ f ∈ t.W.fns, ∃ a fd, DefAt K mg (t.W.nm f) (t.qn f) (t.st f) (t.ps f) a fd) (lk : ∀ f ∈ t.W.fns, t.look f = true) (l : t.lookW t.wl f = true) (lt : t.lookT = true)
    (dt : ∀ q ∈ t.td, ∃ a fd, DefAt K mg q.x q.x q.st [q.a] a fd) (d : DefAt K mg (t.W.nm f) (t.qn f) (t.st f) (t.ps f) a fd) (hn : t.qn f = "law") (hln : t.ps f = [x]) (hl : lawTab K = some (c, Pt)) (hmg : mg "law" = some (.ref a)) (hns : PySem.W.nsIn K mainGlobals "law" = some (some (.ref a))) (TB : LamX.TabB base mg c Pt) :
    FnOk P w K mg base (L2.CX P w) (n + 3) a fd (t.ps f) (spL K cv t.T (n + 1) f) := by
  unfold Txt.lookW at l
  split at l
  · rename_i fn hT
    simp only [Bool.and_eq_true, decide_eq_true_eq] at l
    obtain ⟨⟨⟨⟨l1, l2⟩, l3⟩, l4⟩, l5⟩ := l
    have S := C8.fnScope_by l1
    obtain ⟨oc, od, kV, doc, pm, an, cdv, ct, osl, rfl, lkf, hcd⟩ := d.fn.ex
    have hcode : cdv = .ref c := by
      unfold lawTab PySem.W.tabIn at hl
      rw [hns] at hl
      simp only [lkf] at hl
      clear hcd
      clear lkf
      cases cdv with
      | ref c' =>
        dsimp only at hl
        split at hl
        · split at hl
          · cases hl; rfl
          · cases hl
        · cases hl
      | _ => cases hl
    refine fn_of lkf hcd S (fun vs H Q E h => ?_) fun A outer s H vs Q E hr h => ?_
    · rcases h with h | ⟨b, xs, rfl, _⟩
      · exact (body_read hT l2 l3 l4 h).1
      · rw [hln]; rfl
    have C : Cxt t.wl cv t.T n (t.N f) (defScope (t.st f)) (cxOf (L2.CX P w) P w K mg base (t.N f) (t.qn f) (defScope (t.st f)) a cdv A outer s H E) := {
      hN := rfl, nd := S.nd, hsc := rfl, calm := fun _ => rfl, roomH := ⟨by have := hr.dp; show (A.deeper _).depth + 3 * (n + 1) + 5 < _; omega, by have := hr.un; show (A.deeper _).units + 16 * (n + 1) + 200 < _; omega⟩, hd := fun _ => hr.hd, cns := wd.cns, bis := wd.bis, kits := wd.kits, cks := wd.cks, tries := wd.tries, cls := wd.cls
      lam := fun _ => ⟨⟨c, Pt, hl, hcode, TB⟩, by rw [hn]; rfl, hr⟩
      tolds := fun _ q hq => by
        obtain ⟨q', hq', rfl⟩ := List.mem_map.mp hq
        obtain ⟨ga, gfd, gd⟩ := dt q' hq'
        have z := List.all_eq_true.mp lt q' hq'
        simp only [Bool.and_eq_true, List.contains_iff_mem] at z
        obtain ⟨⟨⟨⟨z1, z2⟩, z3⟩, z4⟩, z5⟩ := z
        obtain ⟨aq, fdq, dq⟩ := df _ z3
        obtain ⟨CS, m1, m2⟩ := wd.tries _ z5
        exact told_prom gd.fn gd.mg gd.bd z1 z2 (def_okQ wd hs z4 dq) dq.mg dq.fn.kp dq.bd m1 m2 (wd.kits fun z => by rw [z] at z5; cases z5)
      fns := fun f' hf' => by
        obtain ⟨a', fd', d'⟩ := df f' hf'
        exact ⟨a', fd', t.ps f', def_ok hs wd df lk n f' hf' a' fd' d', d'.mg, d'.fn.kp, d'.bd⟩ }
    have X : Sxt (cxOf (L2.CX P w) P w K mg base (t.N f) (t.qn f) (defScope (t.st f)) a cdv A outer s H E) (fun cls d _ H => E cls d H) := {
      fn := fun _ => rfl, stk := rfl, frm := rfl, ex := rfl, own := passes_of rfl, tk := takes_of rfl rfl rfl rfl, kind := S.kind }
    have snd := sndSs C X fn.body l5
    rcases h with h | ⟨b, xs, _, hb, h⟩
    · exact ⟨_, snd, (body_read hT l2 l3 l4 h).2⟩
    · refine ⟨fun D σ H => ∃ a xs, H a = some (.lst xs) ∧ ∀ o, tSs K cv (callF t.T n) (fun cls d _ H => E cls d H) fn.body D σ (upd H a (.frz o (.lst xs))), PSs.pre snd fun D σ H pins s I hq => ?_, b, xs, hb, fun o => (body_read hT l2 l3 l4 (h o)).2⟩
      obtain ⟨a', xs', ha', h'⟩ := hq
      obtain ⟨o, ho⟩ := Inv.lst_there I ha'
      exact ⟨_, Inv.freeze I ha' ho, h' o⟩
  · cases l
/-- the law's promise, from its evaluation -/
theorem law_sp {f k : Nat} {H : Hp} {a : Addr} {ns : List Int} (hz : FzL K H a (ns.map V.int)) (hT : LamX.Tabs (tabsK K) H) (ev : ∃ st, callF t.T k f [script ns] [] = .ok (.bl true) st) : spF K cv t.T k f [.ref a] H (fun v _ => v = .bl true) fun _ _ _ => False := by
  obtain ⟨st, ev⟩ := ev
  refine ⟨⟨[], [], tabsK K⟩, [], [script ns], rfl, .cons (.lst hz (ints_rep ns)) .nil, fun r hr xs e => ?_, ⟨rfl, rfl, rfl, hT⟩, ?_⟩
  · rw [List.mem_singleton] at hr; subst hr; cases e
  · rw [ev]
    intro v g' H' _ _ hv _
    exact Rep.bool_iff hv
theorem noCX {H : Hp} {s : Shared} {e : Value} {s' : Shared} (h : L2.CX P w [] H s (fun _ _ _ => False) e s') : False := by
  obtain ⟨_, _, _, _, _, _, _, _, _, _, _, _, h⟩ := h
  exact h
end
/-- what is known of the law's code object and its table -/
def tabOk (K : PySem.W.Frag) (c P : Addr) : Prop := lawTab K = some (c, P) ∧ PySem.W.codeHdIn K c P = true ∧ K.lookup P = none
def tabB (K : PySem.W.Frag) : Bool := match lawTab K with
  | some (c, P) => PySem.W.codeHdIn K c P && (K.lookup P).isNone
  | none => false
theorem tab_of {K : PySem.W.Frag} (h : tabB K = true) : ∃ c P, tabOk K c P := by
  unfold tabB at h
  split at h
  · rename_i c P e
    simp only [Bool.and_eq_true, Option.isNone_iff_eq_none] at h
    exact ⟨c, P, e, h.1, h.2⟩
  · cases h
theorem own_tab {K : PySem.W.Frag} {mg : Str → Option Value} {fa c P : Addr} {h : Heap} (hl : lawTab K = some (c, P)) (hns : PySem.W.nsIn K mainGlobals "law" = some (some (.ref fa))) (ho : LamX.OwnTab K fa h) : h.get? P = some { cls := .none, data := .fields #[] } := by
  unfold lawTab PySem.W.tabIn at hl
  rw [hns] at hl
  dsimp only at hl
  split at hl
  · rename_i e1
    split at hl
    · rename_i e2
      split at hl
      · rename_i e3
        split at hl
        · rename_i e4
          cases hl
          exact ho _ _ _ _ _ _ _ _ e1 rfl e2 e3 e4
        · cases hl
      · cases hl
    · cases hl
  · cases hl
/-- a law's head -/
theorem law_walk {l : PySem.W.OpenLaw} {q : Program} {loose : List Str} {XP : (Str → Option Value) → Heap → Prop} {YP : World → Heap → Prop} {d : DefRec} {K : Params → PySem.W.Frag} {t : Txt} {x : Str} {f k : Nat} {cv : PySem.W.Frag → Nat → Value}
    (hn : l.most = some 63) (hdf : d.params.defaults = []) (hr : Room (k + 3) callerA) (hrec : ((recsOf q).any fun e => e.name == d.name) = true) (hdn : d.name = "law") (hs : t.W.slk = 0) (hps : t.ps f = [x]) (hnm : t.qn f = "law")
    (hY : ∀ (w : World) (h : Heap), YP w h → (K w.params).In h)
    (lk : t.W.fns.all t.look = true) (ll : t.lookW t.wl f = true) (lt : t.lookT = true)
    (F : ∀ (w : World) (mg : Str → Option Value) (fa : Addr) (h : Heap), (K w.params).In h → h.Ns mainGlobals mg → mg d.name = some (.ref fa) →
      (WdOk (K w.params) mg (cv (K w.params)) t.W ∧ (∀ f ∈ t.W.fns, ∃ a fd, DefAt (K w.params) mg (t.W.nm f) (t.qn f) (t.st f) (t.ps f) a fd) ∧ (∀ q ∈ t.td, ∃ a fd, DefAt (K w.params) mg q.x q.x q.st [q.a] a fd) ∧ ∃ fd, DefAt (K w.params) mg (t.W.nm f) (t.qn f) (t.st f) (t.ps f) fa fd ∧ ∀ (s : Shared) (u : Value), BindsTo s fd ⟨[u], []⟩ [(x, u)]) ∧
      PySem.W.nsIn (K w.params) mainGlobals "law" = some (some (.ref fa)) ∧ ∃ c P, tabOk (K w.params) c P)
    (ev : ∀ ns : List Int, ns.length ≤ 63 → ∃ st, callF t.T (k + 1) f [script ns] [] = .ok (.bl true) st) :
    PySem.W.WalkO q loose XP YP l.row.toRowW d [] (fun f vs => PySem.call f vs) := by
  refine LamX.walk_ofOwn (n := 63) (k := k + 3) (x := x) (CX := fun w => L2.CX l.prog w) hn (by decide) hdf hr hrec hY (fun w mg fa h Y X G hmg own => ?_) fun w H s e s' h => noCX h
  obtain ⟨⟨wd, df, dt, fd, d', hb⟩, hns, c, P, hl, hc, hP⟩ := F w mg fa h X G hmg
  have eT : tabsK (K w.params) = [(P, lamQ)] := by unfold tabsK; rw [hl]
  have one : ∀ {α : Prop} (p : Addr × Addr), p ∈ [(c, P)] → (p = (c, P) → α) → α := fun p hp k => k (List.mem_singleton.mp hp)
  refine ⟨fd, [(c, P)], spL (K w.params) (cv (K w.params)) t.T (k + 1) f, fun p hp => one p hp fun e => by rw [e]; exact own_tab (mg := mg) hl hns own, fun p hp => one p hp fun e => by rw [e]; exact hP, fun p hp => one p hp fun e => by rw [e]; exact PySem.W.codeHd_of_K X hc, hb, fun H a ns h1 _ hH hS => ?_, fun base hKb hG hTB => ?_⟩
  · have hHP : H P = some (.tbl #[]) := hH (c, P) List.mem_cons_self
    have hT : LamX.Tabs (tabsK (K w.params)) H := by
      rw [eT]
      intro p hp
      rw [List.mem_singleton.mp hp]
      exact LamX.TabS.nil hHP
    rcases hS with (hS | ⟨o, hS⟩) | hS
    · refine .inr ⟨a, _, rfl, hS, fun o => law_sp (.inl ⟨o, upd_same⟩) ?_ (ev ns h1)⟩
      exact tabs_upd hT fun u e z => by rw [hS] at e; cases e; exact z
    · exact .inl (law_sp (.inl ⟨o, hS⟩) hT (ev ns h1))
    · exact .inl (law_sp (.inr hS) hT (ev ns h1))
  · have := def_okL (P := l.prog) (w := w) (base := base) (n := k) hs wd df (fun f hf => List.all_eq_true.mp lk f hf) ll lt dt d' hnm hps hl (by rw [← hdn]; exact hmg) hns (hTB _ List.mem_cons_self)
    rw [hps] at this
    exact this
end Wk
namespace Wk
open PySem PySem.Spec PyProof.Rows L2
section
variable {K : PySem.W.Frag} {mg : Str → Option Value} {h : Heap}
/-- a def that the top has written -/
theorem def_at (X : K.In h) (G : h.Ns mainGlobals mg) {x y : Str} {st : Stmt} {ps : List Str} {f : Addr} {oc : Value} {od an : Option Addr} {osl : Array (Option Value)} {kV doc pm cdv ct : Value}
    (a : PySem.W.nsIn K mainGlobals x = some (some (.ref f))) (l : K.lookup f = some ⟨oc, od, .func (PySem.W.fnOf y y (defArgs st) (defBody st) (defScope st) .none kV doc pm an cdv ct), osl⟩) (c : PySem.W.codeIn K cdv y = true) (k : PySem.W.keepIn K (.ref f) = true)
    (b : ∀ (kV doc pm : Value) (an : Option Addr) (cdv ct : Value) (us : List Value), us.length = ps.length → bindArgs (PySem.W.fnOf y y (defArgs st) (defBody st) (defScope st) .none kV doc pm an cdv ct) ⟨us, []⟩ = pure (ps.zip us)) :
    DefAt K mg x y st ps f (PySem.W.fnOf y y (defArgs st) (defBody st) (defScope st) .none kV doc pm an cdv ct) :=
  have F := fun_mk l c k
  ⟨F, PySem.W.mg_of X G a, F.binds b⟩
theorem kit_sub {D C : Addr} {b : Bool} (t : PySem.W.typeIn K (.ref C) = some (.type "type")) (d : PySem.W.hasDictIn K C = true) (s : PySem.W.subIn K (.ref D) (.ref C) = some b) (r : PySem.W.subIn K (.ref C) (.ref C) = some true) : PySem.W.kitOne K (.ref D) (.ref C) = some b := by
  unfold PySem.W.kitOne
  by_cases e : D = C
  · subst e
    cases s.symm.trans r
    rw [if_pos (beq_self_eq_true _)]
  · rw [if_neg (fun z => e (Value.ref.inj (beq_iff_eq.mp z)))]
    obtain ⟨cd, hc, _⟩ := PySem.W.any_some d
    show (if ((PySem.W.clsIn K C).isSome && PySem.W.typeIn K (.ref C) == some (.type "type")) = true then PySem.W.subIn K (.ref D) (.ref C) else none) = some b
    rw [hc, t, if_pos (by rfl)]
    exact s
theorem kit_val {D : Addr} (s : PySem.W.subIn K (.ref D) (.type "ValueError") = some true) : PySem.W.kitOne K (.ref D) (.type "ValueError") = some true := by
  unfold PySem.W.kitOne
  rw [if_neg (fun z => by have := beq_iff_eq.mp z; cases this)]
  show (if PySem.W.kitMeta "ValueError" = true then PySem.W.subIn K (.ref D) (.type "ValueError") else none) = some true
  rw [if_pos (by decide +kernel)]
  exact s
/-- the classes' values -/
def clsV (cl : List (Nat × Str)) (K : PySem.W.Frag) (c : Nat) : Value := match cl.lookup c with
  | some x => match PySem.W.nsIn K mainGlobals x with
    | some (some v) => v
    | _ => .none
  | none => .none
theorem con_at (X : K.In h) (G : h.Ns mainGlobals mg) {x : Str} {l : Lit} {u : Value} (a : PySem.W.nsIn K mainGlobals x = some (some u)) (r : RelV (litV l) u) : ∃ u, mg x = some u ∧ RelV (litV l) u := ⟨u, PySem.W.mg_of X G a, r⟩
end
end Wk

end

section
set_option Elab.async false
set_option linter.all false
set_option maxRecDepth 100000
set_option maxHeartbeats 1000000
/-! The evaluator by rewriting. -/
namespace Wk
open PySem
theorem call_eq {T : Nat → Option Fn} {n f : Nat} {as : List Rv} (fn : Fn) (h : T f = some fn) : callF T (n + 1) f as = runFn (callF T n) fn as := by
  show (match T f with | some fn => runFn (callF T n) fn as | none => bad) = _
  rw [h]
section
variable {F : Nat → List Rv → M Rv} {σ : En} {α β : Type}
@[simp] theorem ev_var (i : Nat) : evE F σ (.var i) = getV σ i := id rfl
@[simp] theorem ev_bor (i : Nat) : evE F σ (.bor i) = getR σ i := id rfl
@[simp] theorem ev_glob (i : Nat) (l : Lit) : evE F σ (.glob i l) = pure (.d l.val) := id rfl
@[simp] theorem ev_lit (l : Lit) : evE F σ (.lit l) = pure (.d l.val) := id rfl
@[simp] theorem ev_bin (o : Op2) (a b : Tm) : evE F σ (.bin o a b) = (evE F σ a >>= fun x => evE F σ b >>= fun y => binOp o x y) := id rfl
@[simp] theorem ev_neg (a : Tm) : evE F σ (.neg a) = (evE F σ a >>= fun x => match x with | .d (.int i) => pure (.int (-i)) | _ => bad) := id rfl
@[simp] theorem ev_not (a : Tm) : evE F σ (.not a) = (evE F σ a >>= fun x => toB x >>= fun b => pure (.bl !b)) := id rfl
@[simp] theorem ev_and (a b : Tm) : evE F σ (.and a b) = (evE F σ a >>= fun x => toB x >>= fun k => if k then evE F σ b else pure (.bl false)) := id rfl
@[simp] theorem ev_or (a b : Tm) : evE F σ (.or a b) = (evE F σ a >>= fun x => toB x >>= fun k => if k then pure (.bl true) else evE F σ b) := id rfl
@[simp] theorem ev_cmp (o : Cm) (a b : Tm) : evE F σ (.cmp o a b) = (evE F σ a >>= fun x => evE F σ b >>= fun y => cmpOp o x y >>= fun k => pure (.bl k)) := id rfl
@[simp] theorem ev_chain (o o' : Cm) (a b c : Tm) : evE F σ (.chain o o' a b c) = (evE F σ a >>= fun x => evE F σ b >>= fun y => cmpOp o x y >>= fun k => if k then (evE F σ c >>= fun z => cmpOp o' y z >>= fun k' => pure (.bl k')) else pure (.bl false)) := id rfl
@[simp] theorem ev_ite (c a b : Tm) : evE F σ (.ite c a b) = (evE F σ c >>= fun x => toB x >>= fun k => if k then evE F σ a else evE F σ b) := id rfl
@[simp] theorem ev_call (f : Nat) (as : Tms) : evE F σ (.call f as) = (evA F σ as >>= fun xs => F f xs) := id rfl
@[simp] theorem ev_bi (b : Bi) (as : Tms) : evE F σ (.bi b as) = (evB F σ as >>= fun xs => biOp b xs) := id rfl
@[simp] theorem ev_setlen (a : Tm) : evE F σ (.setlen a) = (evE F σ a >>= fun x => biOp .setlen [x]) := id rfl
@[simp] theorem ev_isi (a : Tm) (t : Ty) : evE F σ (.isi a t) = (evE F σ a >>= fun x => isiOp x t >>= fun k => pure (.bl k)) := id rfl
@[simp] theorem ev_idx (a i : Tm) : evE F σ (.idx a i) = (evE F σ a >>= fun x => evE F σ i >>= fun y => idxOp x y) := id rfl
@[simp] theorem ev_slice (a lo hi : Tm) : evE F σ (.slice a lo hi) = (evE F σ a >>= fun x => evE F σ lo >>= fun l => bndOf lo l >>= fun l' => evE F σ hi >>= fun h => bndOf hi h >>= fun h' => cutOp x l' h') := id rfl
@[simp] theorem ev_rev (a : Tm) : evE F σ (.rev a) = (evE F σ a >>= fun x => revOp x) := id rfl
@[simp] theorem ev_tup (as : Tms) : evE F σ (.tup as) = (evA F σ as >>= fun xs => allP xs >>= fun ps => mkT ps) := id rfl
@[simp] theorem ev_lst (as : Tms) : evE F σ (.lst as) = (evA F σ as >>= fun xs => allP xs >>= fun ps => mkL ps) := id rfl
/-- one turn of a comprehension -/
def turnF (F : Nat → List Rv → M Rv) (σ : En) (g : Tg) (own : List Nat) (cond elt : Tm) (p : PyData) : M (Option PyData) := quiet (bindTg g p (wipeR σ own) >>= fun σ2 => evE F σ2 cond >>= fun c => toB c >>= fun t => if t then (evE F σ2 elt >>= fun z => toP z >>= fun q => pure (some q)) else pure none)
@[simp] theorem ev_comp (elt : Tm) (g : Tg) (k : Ik) (a b : Tm) (own : List Nat) (cond : Tm) : evE F σ (.comp elt g k a b own cond) = (evE F σ a >>= fun x => evE F σ b >>= fun y => walk k x y >>= fun xs => compM (turnF F σ g own cond elt) xs >>= fun ys => pure (.own ys)) := id rfl
@[simp] theorem ev_meth (m : Me) (o : Tm) (as : Tms) : evE F σ (.meth m o as) = (evE F σ o >>= fun x => meChk m x >>= fun _ => evB F σ as >>= fun xs => meOp m x xs) := id rfl
@[simp] theorem ev_fr (a : Tm) : evE F σ (.fr a) = (evE F σ a >>= fun x => pure (frz x)) := id rfl
@[simp] theorem ev_no : evE F σ .no = pure (.d .none) := id rfl
@[simp] theorem eA_nil : evA F σ .nil = pure [] := id rfl
@[simp] theorem eA_cons (a : Tm) (r : Tms) : evA F σ (.cons a r) = (evE F σ a >>= fun x => evA F σ r >>= fun xs => pure (frz x :: xs)) := id rfl
@[simp] theorem eB_nil : evB F σ .nil = pure [] := id rfl
@[simp] theorem eB_cons (a : Tm) (r : Tms) : evB F σ (.cons a r) = (evE F σ a >>= fun x => evB F σ r >>= fun xs => pure (x :: xs)) := id rfl
@[simp] theorem es_nil : evSs F σ .nil = pure (.nx, σ) := id rfl
/-- what follows a statement (not unfolded before its end is known) -/
def seqK (F : Nat → List Rv → M Rv) (r : Sms) (t : Fl × En) : M (Fl × En) := match t with | (.nx, σ1) => evSs F σ1 r | (.rt v, σ1) => pure (.rt v, σ1)
@[simp] theorem seqK_nx (r : Sms) (σ1 : En) : seqK F r (.nx, σ1) = evSs F σ1 r := id rfl
@[simp] theorem seqK_rt (r : Sms) (v : Rv) (σ1 : En) : seqK F r (.rt v, σ1) = pure (.rt v, σ1) := id rfl
@[simp] theorem es_cons (a : Sm) (r : Sms) : evSs F σ (.cons a r) = (evS F σ a >>= seqK F r) := id rfl
/-- a branch (not unfolded before the test is known) -/
def ifK (F : Nat → List Rv → M Rv) (σ : En) (a b : Sms) (k : Bool) : M (Fl × En) := if k then evSs F σ a else evSs F σ b
@[simp] theorem ifK_t (a b : Sms) : ifK F σ a b true = evSs F σ a := id rfl
@[simp] theorem ifK_f (a b : Sms) : ifK F σ a b false = evSs F σ b := id rfl
@[simp] theorem ifK_not (a b : Sms) (k : Bool) : ifK F σ a b (!k) = ifK F σ b a k := by cases k <;> rfl
@[simp] theorem es_asg (i : Nat) (e : Tm) : evS F σ (.asg i e) = (evE F σ e >>= fun x => pure (.nx, setR σ i (frz x))) := id rfl
@[simp] theorem es_asgO (i : Nat) (e : Tm) : evS F σ (.asgO i e) = (evE F σ e >>= fun x => pure (.nx, setR σ i x)) := id rfl
@[simp] theorem es_mov (i j : Nat) : evS F σ (.mov i j) = (getR σ j >>= fun x => pure (.nx, setR (σ.set j none) i x)) := id rfl
@[simp] theorem es_fz (i : Nat) : evS F σ (.fz i) = (getR σ i >>= fun x => pure (.nx, setR σ i (frz x))) := id rfl
@[simp] theorem es_asgN (is : List Nat) (es : Tms) : evS F σ (.asgN is es) = (evA F σ es >>= fun xs => setRs σ is xs >>= fun σ1 => pure (.nx, σ1)) := id rfl
@[simp] theorem es_unp (is : List Nat) (e : Tm) : evS F σ (.unp is e) = (evE F σ e >>= fun x => match x with | .d (.tuple ps) => (setAll σ is ps >>= fun σ1 => pure (.nx, σ1)) | _ => bad) := id rfl
@[simp] theorem es_app (i : Nat) (e : Tm) : evS F σ (.app i e) = (getR σ i >>= fun x => match x with | .own xs => (evE F σ e >>= fun y => toP y >>= fun p => if decide (xs.length < sizeLine) then pure (.nx, setR σ i (.own (xs ++ [p]))) else bad) | _ => bad) := id rfl
@[simp] theorem es_ext (i : Nat) (e : Tm) : evS F σ (.ext i e) = (getR σ i >>= fun x => match x with | .own xs => (evE F σ e >>= fun y => ownOf y >>= fun ps => if okLen (xs.length + ps.length) then pure (.nx, setR σ i (.own (xs ++ ps))) else bad) | _ => bad) := id rfl
@[simp] theorem es_exp (e : Tm) : evS F σ (.exp e) = (evE F σ e >>= fun _ => pure (.nx, σ)) := id rfl
@[simp] theorem es_if (c : Tm) (a b : Sms) : evS F σ (.ifS c a b) = (evE F σ c >>= fun x => toB x >>= ifK F σ a b) := id rfl
/-- a loop's turn (not unfolded by itself) -/
def bodyK (F : Nat → List Rv → M Rv) (g : Tg) (body : Sms) (p : PyData) (σ : En) : M (Fl × En) := bindTg g p σ >>= fun σ2 => evSs F σ2 body
theorem bodyK_eq (F : Nat → List Rv → M Rv) (g : Tg) (body : Sms) (p : PyData) (σ : En) : bodyK F g body p σ = (bindTg g p σ >>= fun σ2 => evSs F σ2 body) := id rfl
@[simp] theorem es_for (g : Tg) (k : Ik) (a b : Tm) (body : Sms) : evS F σ (.forS g k a b body) = (evE F σ a >>= fun x => evE F σ b >>= fun y => walk k x y >>= fun xs => loopM (bodyK F g body) xs σ) := id rfl
@[simp] theorem es_ret (e : Tm) : evS F σ (.ret e) = (evE F σ e >>= fun x => pure (.rt x, σ)) := id rfl
@[simp] theorem es_raise (c : Nat) : evS F σ (.raise c) = raise c := id rfl
theorem es_whl (c : Tm) (body : Sms) : evS F σ (.whl c body) = whileM (fun σ1 => evE F σ1 c >>= fun x => toB x) (fun σ1 => evSs F σ1 body) mostTurns σ := by rw [evS]
@[simp] theorem run_eq (np ns : Nat) (body : Sms) (as : List Rv) : runFn F ⟨np, ns, body⟩ as = if as.length = np then (evSs F (as.map some ++ List.replicate (ns - np) none) body >>= fun t => match t with | (.rt r, _) => pure r | (.nx, _) => pure (.d .none)) else bad := id rfl
@[simp] theorem getR_zero (r : Rv) (σ : En) : getR (some r :: σ) 0 = pure r := id rfl
@[simp] theorem getR_succ (x : Option Rv) (σ : En) (i : Nat) : getR (x :: σ) (i + 1) = getR σ i := by
  unfold getR; rw [List.getElem?_cons_succ]
@[simp] theorem getV_zero (p : PyData) (σ : En) : getV (some (.d p) :: σ) 0 = pure (.d p) := id rfl
@[simp] theorem getV_exc (c : Nat) (σ : En) : getV (some (.exc c) :: σ) 0 = pure (.exc c) := id rfl
@[simp] theorem getV_own (xs : List PyData) (σ : En) : getV (some (.own xs) :: σ) 0 = bad := id rfl
@[simp] theorem getV_succ (x : Option Rv) (σ : En) (i : Nat) : getV (x :: σ) (i + 1) = getV σ i := by
  unfold getV; rw [List.getElem?_cons_succ]
@[simp] theorem setR_zero (x : Option Rv) (r : Rv) (σ : En) : setR (x :: σ) 0 r = some r :: σ := id rfl
@[simp] theorem setR_succ (x : Option Rv) (r : Rv) (σ : En) (i : Nat) : setR (x :: σ) (i + 1) r = x :: setR σ i r := id rfl
@[simp] theorem toB_bl (b : Bool) : toB (.d (.bool b)) = pure b := id rfl
@[simp] theorem toP_d (p : PyData) : toP (.d p) = pure p := id rfl
@[simp] theorem toP_own (xs : List PyData) : toP (.own xs) = pure (.list xs) := id rfl
@[simp] theorem frz_d (p : PyData) : frz (.d p) = .d p := id rfl
@[simp] theorem frz_own (xs : List PyData) : frz (.own xs) = .d (.list xs) := id rfl
@[simp] theorem allP_nil : allP [] = pure [] := id rfl
@[simp] theorem allP_cons (r : Rv) (rs : List Rv) : allP (r :: rs) = (toP r >>= fun p => allP rs >>= fun ps => pure (p :: ps)) := id rfl
@[simp] theorem lit_non : Lit.non.val = .none := id rfl
@[simp] theorem lit_bl (b : Bool) : (Lit.bl b).val = .bool b := id rfl
@[simp] theorem lit_int (b : Int) : (Lit.int b).val = .int b := id rfl
@[simp] theorem lit_str (b : Str) : (Lit.str b).val = .str b := id rfl
@[simp] theorem bi_1 (b : Bi) (r : Rv) : biOp b [r] = bi1 b r := id rfl
@[simp] theorem bi_2 (b : Bi) (r r' : Rv) : biOp b [r, r'] = bi2 b r r' := id rfl
@[simp] theorem comp_nil (f : PyData → M (Option PyData)) : compM f [] = pure [] := id rfl
theorem comp_cons (f : PyData → M (Option PyData)) (x : PyData) (xs : List PyData) : compM f (x :: xs) = (f x >>= fun o => compM f xs >>= fun r => pure (match o with | some p => p :: r | none => r)) := rfl
theorem comp_pure {f : PyData → M (Option PyData)} (g : PyData → Option PyData) : ∀ {xs : List PyData}, (∀ x ∈ xs, f x = pure (g x)) → compM f xs = pure (xs.filterMap g)
  | [], _ => rfl
  | x :: xs, h => by
    rw [comp_cons, h x List.mem_cons_self, pure_bind', comp_pure g fun y hy => h y (List.mem_cons_of_mem _ hy), pure_bind', List.filterMap_cons]
    cases g x <;> rfl
/-- without a test: a map -/
theorem comp_mapA {f : PyData → M (Option PyData)} (g : PyData → PyData) {xs : List PyData} (h : ∀ x ∈ xs, f x = pure (some (g x))) : compM f xs = pure (xs.map g) := by
  rw [comp_pure (fun x => some (g x)) h]
  congr 1
  induction xs with
  | nil => rfl
  | cons x xs ih => rw [List.filterMap_cons]; simp [ih fun y hy => h y (List.mem_cons_of_mem _ hy)]
@[simp] theorem loop_nil (f : PyData → En → M (Fl × En)) (σ : En) : loopM f [] σ = pure (.nx, σ) := id rfl
theorem loop_cons' (f : PyData → En → M (Fl × En)) (x : PyData) (xs : List PyData) (σ : En) : loopM f (x :: xs) σ = (f x σ >>= fun r => match r with | (.nx, σ1) => loopM f xs σ1 | (.rt v, σ1) => pure (.rt v, σ1)) := rfl
@[simp] theorem ite_pure_bind {c : Prop} [Decidable c] (a b : M α) (f : α → M β) : ((if c then a else b) >>= f) = if c then a >>= f else b >>= f := by split <;> rfl
theorem comp_mapM {γ : Type} {k : γ → PyData} {f : PyData → M (Option PyData)} (g : γ → PyData) {xs : List γ} (h : ∀ x ∈ xs, f (k x) = pure (some (g x))) : compM f (xs.map k) = pure (xs.map g) := by
  induction xs with
  | nil => rfl
  | cons x xs ih => rw [List.map_cons, comp_cons, h x List.mem_cons_self, pure_bind', ih fun y hy => h y (List.mem_cons_of_mem _ hy)]; rfl
theorem comp_filterM {γ : Type} {k : γ → PyData} {f : PyData → M (Option PyData)} (g : γ → Option PyData) {xs : List γ} (h : ∀ x ∈ xs, f (k x) = pure (g x)) : compM f (xs.map k) = pure (xs.filterMap g) := by
  induction xs with
  | nil => rfl
  | cons x xs ih => rw [List.map_cons, comp_cons, h x List.mem_cons_self, pure_bind', ih fun y hy => h y (List.mem_cons_of_mem _ hy), pure_bind', List.filterMap_cons]; cases g x <;> rfl
@[simp] theorem len_tup (xs : List PyData) : bi1 .len (.d (.tuple xs)) = pure (.int xs.length) := id rfl
@[simp] theorem len_lst (xs : List PyData) : bi1 .len (.d (.list xs)) = pure (.int xs.length) := id rfl
@[simp] theorem len_own (xs : List PyData) : bi1 .len (.own xs) = pure (.int xs.length) := id rfl
theorem len_str {s : Str} (h : okLen s.length = true) : bi1 .len (.d (.str s)) = pure (.int s.length) := by
  show (if okLen s.length then _ else _) = _
  rw [h]; rfl
@[simp] theorem tup_own (xs : List PyData) : bi1 .tuple (.own xs) = pure (.d (.tuple xs)) := id rfl
@[simp] theorem tup_lst (xs : List PyData) : bi1 .tuple (.d (.list xs)) = pure (.d (.tuple xs)) := id rfl
@[simp] theorem tup_tup (xs : List PyData) : bi1 .tuple (.d (.tuple xs)) = pure (.d (.tuple xs)) := id rfl
@[simp] theorem lst_tup (xs : List PyData) : bi1 .list (.d (.tuple xs)) = pure (.own xs) := id rfl
@[simp] theorem ite_bl_f {c : Prop} [Decidable c] {b : Bool} : (if c then (pure (.bl b) : M Rv) else pure (.bl false)) = pure (.bl (decide c && b)) := by
  by_cases h : c <;> simp [h]
@[simp] theorem ite_bl_t {c : Prop} [Decidable c] {b : Bool} : (if c then (pure (.bl true) : M Rv) else pure (.bl b)) = pure (.bl (decide c || b)) := by
  by_cases h : c <;> simp [h]
theorem boolsOf_map {xs : List α} (g : α → Bool) : boolsOf (xs.map fun x => .bool (g x)) = some (xs.map g) := by
  induction xs with
  | nil => rfl
  | cons x xs ih => rw [List.map_cons]; simp only [boolsOf]; rw [ih]; rfl
theorem intsOf_map {xs : List α} (g : α → Int) : intsOf (xs.map fun x => .int (g x)) = some (xs.map g) := by
  induction xs with
  | nil => rfl
  | cons x xs ih => rw [List.map_cons]; simp only [intsOf]; rw [ih]; rfl
theorem strsOf_map {xs : List α} (g : α → Str) : strsOf (xs.map fun x => .str (g x)) = some (xs.map g) := by
  induction xs with
  | nil => rfl
  | cons x xs ih => rw [List.map_cons]; simp only [strsOf]; rw [ih]; rfl
theorem keysOf_strs {xs : List α} (g : α → Str) : keysOf (xs.map fun x => .str (g x)) = some (xs.map fun x => .inr (g x)) := by
  induction xs with
  | nil => rfl
  | cons x xs ih => rw [List.map_cons]; simp only [keysOf]; rw [ih]; rfl
@[simp] theorem all_own {xs : List α} (g : α → Bool) : bi1 .all (.own (xs.map fun x => .bool (g x))) = pure (.bl (xs.all g)) := by
  show (match boolsOf (xs.map fun x => .bool (g x)) with | some bs => (pure (.bl (bs.all id)) : M Rv) | none => bad) = _
  rw [boolsOf_map]
  simp
@[simp] theorem walk_seq (a b : Rv) : walk .seq a b = items a := id rfl
@[simp] theorem items_list (xs : List PyData) : items (.d (.list xs)) = pure xs := id rfl
@[simp] theorem items_tuple (xs : List PyData) : items (.d (.tuple xs)) = pure xs := id rfl
@[simp] theorem items_own (xs : List PyData) : items (.own xs) = pure xs := id rfl
theorem items_str {s : Str} (h : okLen s.length = true) : items (.d (.str s)) = pure (s.cps.toList.map fun c => .str ⟨#[c]⟩) := by
  show (if okLen s.length then _ else _) = _
  rw [h]; rfl
end
theorem beq_dec {α : Type} [DecidableEq α] [BEq α] [LawfulBEq α] (a b : α) : (a == b) = decide (a = b) := by
  by_cases h : a = b <;> simp [h]
@[simp] theorem eq_int (a b : Int) : eqP (.int a) (.int b) = pure (decide (a = b)) := by
  rw [← beq_dec]; simp [eqP, okEq, PyData.depth, PyData.eqv]
@[simp] theorem eq_str (a b : Str) : eqP (.str a) (.str b) = pure (decide (a = b)) := by
  rw [← beq_dec]; simp [eqP, okEq, PyData.depth, PyData.eqv]
@[simp] theorem eq_bool (a b : Bool) : eqP (.bool a) (.bool b) = pure (decide (a = b)) := by
  rw [← beq_dec]; simp [eqP, okEq, PyData.depth, PyData.eqv]
def isNilT : PyData → Bool
  | .tuple [] => true
  | _ => false
def isNilL : PyData → Bool
  | .list [] => true
  | _ => false
theorem okEq_r {p q : PyData} (h : q.depth ≤ 60) : okEq p q = true := by
  unfold okEq
  exact decide_eq_true (Nat.le_trans (Nat.min_le_right _ _) h)
theorem okEq_l {p q : PyData} (h : p.depth ≤ 60) : okEq p q = true := by
  unfold okEq
  exact decide_eq_true (Nat.le_trans (Nat.min_le_left _ _) h)
@[simp] theorem eq_nilT (p : PyData) : eqP p (.tuple []) = pure (isNilT p) := by
  unfold eqP
  rw [okEq_r (by simp [PyData.depth, PyData.depthAll]), if_pos rfl]
  congr 1
  cases p with
  | tuple xs => cases xs <;> simp [PyData.eqv, PyData.eqvAll, isNilT]
  | _ => simp [PyData.eqv, isNilT]
@[simp] theorem eq_nilL (p : PyData) : eqP p (.list []) = pure (isNilL p) := by
  unfold eqP
  rw [okEq_r (by simp [PyData.depth, PyData.depthAll]), if_pos rfl]
  congr 1
  cases p with
  | list xs => cases xs <;> simp [PyData.eqv, PyData.eqvAll, isNilL]
  | _ => simp [PyData.eqv, isNilL]
theorem setlen_strs {α : Type} {xs : List α} (g : α → Str) (h : xs.length ≤ 4000) : bi1 .setlen (.own (xs.map fun x => .str (g x))) = pure (.int (firstK (xs.map fun x => (Sum.inr (g x) : Sum Int Str)) xs.length).length) := by
  show (match keysOf (xs.map fun x => PyData.str (g x)) with | some ks => if decide (ks.length ≤ 4000) then (pure (Rv.int (firstK ks ks.length).length) : M Rv) else bad | none => bad) = _
  rw [keysOf_strs]
  simp [h]
theorem foldK_nodup {κ : Type} [DecidableEq κ] : ∀ (xs σ : List κ), σ.Nodup → ((xs.foldl stepK σ).length = σ.length + xs.length ↔ (σ ++ xs).Nodup)
  | [], σ, h => by simp [h]
  | x :: xs, σ, h => by
    rw [List.foldl_cons]
    by_cases hx : x ∈ σ
    · have e : stepK σ x = σ := by unfold stepK; rw [if_pos (by simpa using hx)]
      rw [e]
      have h1 := foldK_le xs σ
      constructor
      · intro z; simp at z; omega
      · intro z
        rw [List.nodup_append] at z
        exact absurd rfl (z.2.2 x hx x List.mem_cons_self)
    · have e : stepK σ x = σ ++ [x] := by unfold stepK; rw [if_neg (by simpa using hx)]
      rw [e]
      have hn : (σ ++ [x]).Nodup := by
        rw [List.nodup_append]
        exact ⟨h, by simp, fun a ha b hb => by simp at hb; subst hb; exact fun z => hx (z ▸ ha)⟩
      have ih := foldK_nodup xs (σ ++ [x]) hn
      rw [List.length_append, List.append_assoc] at ih
      have e2 : σ ++ x :: xs = σ ++ ([x] ++ xs) := rfl
      rw [List.length_cons, e2, ← ih, List.length_singleton]
      constructor <;> intro z <;> omega
theorem firstK_nodup {κ : Type} [DecidableEq κ] (xs : List κ) : (firstK xs xs.length).length = xs.length ↔ xs.Nodup := by
  have := foldK_nodup xs [] .nil
  unfold firstK
  rw [List.take_length]
  simpa using this
@[simp] theorem quiet_ite {α : Type} {c : Prop} [Decidable c] (a b : M α) : quiet (if c then a else b) = if c then quiet a else quiet b := by split <;> rfl
@[simp] theorem ite_some_f {c : Prop} [Decidable c] {b : Bool} : (if c then (pure (some (.bool b)) : M (Option PyData)) else pure (some (.bool false))) = pure (some (.bool (decide c && b))) := by
  by_cases h : c <;> simp [h]
theorem nodup_inr {xs : List Str} : (xs.map (Sum.inr : Str → Sum Int Str)).Nodup ↔ xs.Nodup := by
  unfold List.Nodup
  rw [List.pairwise_map]
  constructor <;> intro h <;> refine h.imp ?_ <;> intro a b hab z <;> exact hab (by simpa using z)
theorem atI_nat {α : Type} (xs : List α) (i : Nat) : L2.atI xs (i : Int) = xs[i]? := by
  unfold L2.atI L2.ixN
  by_cases h : i < xs.length
  · simp [h]
  · simp [h]
theorem idx_tup (xs : List PyData) (i : Nat) : idxOp (.d (.tuple xs)) (.int (i : Int)) = match xs[i]? with | some p => pure (.d p) | none => bad := by
  rw [← atI_nat]; rfl
theorem idx_lst (xs : List PyData) (i : Nat) : idxOp (.d (.list xs)) (.int (i : Int)) = match xs[i]? with | some p => pure (.d p) | none => bad := by
  rw [← atI_nat]; rfl
theorem idx_own' (xs : List PyData) (i : Nat) : idxOp (.own xs) (.int (i : Int)) = match xs[i]? with | some p => pure (.d p) | none => bad := by
  rw [← atI_nat]; rfl
@[simp] theorem idx_t0 (x : PyData) (xs : List PyData) : idxOp (.d (.tuple (x :: xs))) (.int 0) = pure (.d x) := idx_tup (x :: xs) 0
@[simp] theorem idx_t1 (x y : PyData) (xs : List PyData) : idxOp (.d (.tuple (x :: y :: xs))) (.int 1) = pure (.d y) := idx_tup (x :: y :: xs) 1
@[simp] theorem idx_t2 (x y z : PyData) (xs : List PyData) : idxOp (.d (.tuple (x :: y :: z :: xs))) (.int 2) = pure (.d z) := idx_tup (x :: y :: z :: xs) 2
@[simp] theorem idx_t3 (x y z w : PyData) (xs : List PyData) : idxOp (.d (.tuple (x :: y :: z :: w :: xs))) (.int 3) = pure (.d w) := idx_tup (x :: y :: z :: w :: xs) 3
@[simp] theorem idx_l0 (x : PyData) (xs : List PyData) : idxOp (.d (.list (x :: xs))) (.int 0) = pure (.d x) := idx_lst (x :: xs) 0
@[simp] theorem idx_l1 (x y : PyData) (xs : List PyData) : idxOp (.d (.list (x :: y :: xs))) (.int 1) = pure (.d y) := idx_lst (x :: y :: xs) 1
@[simp] theorem idx_l2 (x y z : PyData) (xs : List PyData) : idxOp (.d (.list (x :: y :: z :: xs))) (.int 2) = pure (.d z) := idx_lst (x :: y :: z :: xs) 2
@[simp] theorem idx_l3 (x y z w : PyData) (xs : List PyData) : idxOp (.d (.list (x :: y :: z :: w :: xs))) (.int 3) = pure (.d w) := idx_lst (x :: y :: z :: w :: xs) 3
@[simp] theorem idx_o0 (x : PyData) (xs : List PyData) : idxOp (.own (x :: xs)) (.int 0) = pure (.d x) := idx_own' (x :: xs) 0
@[simp] theorem idx_o1 (x y : PyData) (xs : List PyData) : idxOp (.own (x :: y :: xs)) (.int 1) = pure (.d y) := idx_own' (x :: y :: xs) 1
@[simp] theorem idx_o2 (x y z : PyData) (xs : List PyData) : idxOp (.own (x :: y :: z :: xs)) (.int 2) = pure (.d z) := idx_own' (x :: y :: z :: xs) 2
@[simp] theorem idx_o3 (x y z w : PyData) (xs : List PyData) : idxOp (.own (x :: y :: z :: w :: xs)) (.int 3) = pure (.d w) := idx_own' (x :: y :: z :: w :: xs) 3
end Wk

end

section
set_option Elab.async false
set_option linter.all false
set_option maxRecDepth 100000
set_option maxHeartbeats 1000000
/-! More is known: the evaluation tells the same. -/
namespace Wk
open PySem
/-- less is told: nothing, or the same -/
def Lo {α : Type} (R : α → α → Prop) (o o' : Out α) : Prop := match o, o' with
  | .bad, _ => True
  | .ok a s, .ok a' s' => R a a' ∧ s = s'
  | .exc c s, .exc c' s' => c = c' ∧ s = s'
  | _, _ => False
def Le {α : Type} (R : α → α → Prop) (m m' : M α) : Prop := ∀ s, Lo R (m s) (m' s)
section
variable {α β : Type} {R : α → α → Prop} {S : β → β → Prop}
theorem Le.bind {m m' : M α} {f f' : α → M β} (h : Le R m m') (k : ∀ a a', R a a' → Le S (f a) (f' a')) : Le S (m >>= f) (m' >>= f') := fun s => by
  show Lo S (M.bind m f s) (M.bind m' f' s)
  have h := h s
  unfold M.bind
  cases q : m s with
  | ok a s1 =>
    cases q' : m' s with
    | ok a' s1' => rw [q, q'] at h; obtain ⟨h1, rfl⟩ := h; exact k a a' h1 s1
    | exc c s1' => rw [q, q'] at h; exact h.elim
    | bad => rw [q, q'] at h; exact h.elim
  | exc c s1 =>
    cases q' : m' s with
    | ok a' s1' => rw [q, q'] at h; exact h.elim
    | exc c' s1' => rw [q, q'] at h; exact h
    | bad => rw [q, q'] at h; exact h.elim
  | bad => exact True.intro
theorem Le.pure {a a' : α} (h : R a a') : Le R (pure a : M α) (pure a') := fun s => ⟨h, rfl⟩
theorem Le.raise (c : Nat) : Le R (Wk.raise c : M α) (Wk.raise c) := fun s => ⟨rfl, rfl⟩
theorem Le.bad {m : M α} : Le R (Wk.bad : M α) m := fun s => True.intro
theorem Lo.refl (hr : ∀ a, R a a) (o : Out α) : Lo R o o := by
  cases o with
  | ok a s => exact ⟨hr a, rfl⟩
  | exc c s => exact ⟨rfl, rfl⟩
  | bad => exact True.intro
theorem Le.refl (hr : ∀ a, R a a) {m : M α} : Le R m m := fun s => Lo.refl hr _
theorem Le.eq {m : M α} : Le Eq m m := Le.refl fun _ => rfl
theorem Le.ite {c : Bool} {m m' n n' : M α} (h : Le R m m') (k : Le R n n') : Le R (if c = true then m else n) (if c = true then m' else n') := by
  cases c
  · exact k
  · exact h
theorem Le.quiet {m m' : M α} (h : Le R m m') : Le R (quiet m) (quiet m') := fun s => by
  have h := h s
  unfold Wk.quiet
  cases q : m s with
  | ok a s1 =>
    cases q' : m' s with
    | ok a' s1' => rw [q, q'] at h; exact h
    | exc c s1' => rw [q, q'] at h; exact h.elim
    | bad => rw [q, q'] at h; exact h.elim
  | exc c s1 => exact True.intro
  | bad => exact True.intro
theorem Le.bindE {m m' : M α} {f f' : α → M β} (h : Le Eq m m') (k : ∀ a, Le S (f a) (f' a)) : Le S (m >>= f) (m' >>= f') := h.bind fun a a' e => e ▸ k a
/-- what is told is so -/
theorem Le.got {m m' : M α} {a : α} (h : Le Eq m m') (e : m = Pure.pure a) : m' = Pure.pure a := funext fun s => by
  have h := h s
  rw [e] at h
  have h : Lo Eq (.ok a s) (m' s) := h
  cases q : m' s with
  | ok a' s' => rw [q] at h; obtain ⟨h1, h2⟩ := h; subst h1 h2; rfl
  | exc c s' => rw [q] at h; exact h.elim
  | bad => rw [q] at h; exact h.elim
theorem Le.gotX {m m' : M α} {c : Nat} (h : Le Eq m m') (e : m = Wk.raise c) : m' = Wk.raise c := funext fun s => by
  have h := h s
  rw [e] at h
  have h : Lo Eq (.exc c s) (m' s) := h
  cases q : m' s with
  | ok a' s' => rw [q] at h; exact h.elim
  | exc c' s' => rw [q] at h; obtain ⟨h1, h2⟩ := h; subst h1 h2; rfl
  | bad => rw [q] at h; exact h.elim
end
/-- the frames: less is known of the one -/
def EnLe (σ σ' : En) : Prop := σ.length = σ'.length ∧ ∀ (i : Nat) (r : Rv), σ[i]? = some (some r) → σ'[i]? = some (some r)
theorem EnLe.refl (σ : En) : EnLe σ σ := ⟨rfl, fun _ _ h => h⟩
theorem EnLe.set {σ σ' : En} (h : EnLe σ σ') (i : Nat) (r : Option Rv) : EnLe (σ.set i r) (σ'.set i r) := by
  refine ⟨by simp [h.1], fun j q e => ?_⟩
  by_cases hj : j = i
  · subst hj
    by_cases hl : j < σ.length
    · rw [List.getElem?_set_self hl] at e
      rw [List.getElem?_set_self (h.1 ▸ hl)]; exact e
    · rw [List.getElem?_eq_none (by simpa using hl)] at e; cases e
  · rw [List.getElem?_set_ne (Ne.symm hj)] at e
    rw [List.getElem?_set_ne (Ne.symm hj)]; exact h.2 j q e
theorem EnLe.wipe {σ σ' : En} (h : EnLe σ σ') : ∀ vs, EnLe (wipeR σ vs) (wipeR σ' vs)
  | [] => h
  | v :: vs => (EnLe.wipe h vs).set v none
theorem le_getR {σ σ' : En} (h : EnLe σ σ') (i : Nat) : Le Eq (getR σ i) (getR σ' i) := by
  unfold getR
  cases q : σ[i]? with
  | none => exact Le.bad
  | some o =>
    cases o with
    | none => exact Le.bad
    | some r => rw [h.2 i r q]; exact Le.eq
theorem le_getV {σ σ' : En} (h : EnLe σ σ') (i : Nat) : Le Eq (getV σ i) (getV σ' i) := by
  unfold getV
  cases q : σ[i]? with
  | none => exact Le.bad
  | some o =>
    cases o with
    | none => exact Le.bad
    | some r => rw [h.2 i r q]; exact Le.eq
theorem le_setAll : ∀ {is : List Nat} {ps : List PyData} {σ σ' : En}, EnLe σ σ' → Le EnLe (setAll σ is ps) (setAll σ' is ps)
  | [], [], _, _, h => Le.pure h
  | [], _ :: _, _, _, h => Le.bad
  | _ :: _, [], _, _, h => Le.bad
  | i :: is, p :: ps, σ, σ', h => le_setAll (is := is) (ps := ps) (h.set i _)
theorem le_setRs : ∀ {is : List Nat} {ps : List Rv} {σ σ' : En}, EnLe σ σ' → Le EnLe (setRs σ is ps) (setRs σ' is ps)
  | [], [], _, _, h => Le.pure h
  | [], _ :: _, _, _, h => Le.bad
  | _ :: _, [], _, _, h => Le.bad
  | i :: is, p :: ps, σ, σ', h => le_setRs (is := is) (ps := ps) (h.set i _)
theorem le_bind {g : Tg} {p : PyData} {σ σ' : En} (h : EnLe σ σ') : Le EnLe (bindTg g p σ) (bindTg g p σ') := by
  cases g with
  | one i => exact Le.pure (h.set i _)
  | many is => cases p <;> first | exact le_setAll h | exact Le.bad
theorem le_comp {f f' : PyData → M (Option PyData)} (h : ∀ x, Le Eq (f x) (f' x)) : ∀ xs, Le Eq (compM f xs) (compM f' xs)
  | [] => Le.eq
  | x :: xs => (h x).bindE fun o => (le_comp h xs).bindE fun r => Le.eq
/-- flow and frame -/
def FlLe (t t' : Fl × En) : Prop := match t, t' with
  | (.nx, σ), (.nx, σ') => EnLe σ σ'
  | (.rt v, _), (.rt v', _) => v = v'
  | _, _ => False
theorem FlLe.nx {σ σ' : En} (h : EnLe σ σ') : FlLe (.nx, σ) (.nx, σ') := h
theorem le_loop {f f' : PyData → En → M (Fl × En)} (h : ∀ x σ σ', EnLe σ σ' → Le FlLe (f x σ) (f' x σ')) : ∀ (xs : List PyData) (σ σ' : En), EnLe σ σ' → Le FlLe (loopM f xs σ) (loopM f' xs σ')
  | [], σ, σ', e => Le.pure e
  | x :: xs, σ, σ', e => (h x σ σ' e).bind fun t t' ht => by
    obtain ⟨a, σ1⟩ := t
    obtain ⟨a', σ1'⟩ := t'
    cases a <;> cases a'
    · exact le_loop h xs σ1 σ1' ht
    · exact ht.elim
    · exact ht.elim
    · exact Le.pure ht
theorem le_while {c c' : En → M Bool} {b b' : En → M (Fl × En)} (hc : ∀ σ σ', EnLe σ σ' → Le Eq (c σ) (c' σ')) (hb : ∀ σ σ', EnLe σ σ' → Le FlLe (b σ) (b' σ')) : ∀ (n : Nat) (σ σ' : En), EnLe σ σ' → Le FlLe (whileM c b n σ) (whileM c' b' n σ')
  | 0, _, _, _ => Le.bad
  | n + 1, σ, σ', e => (hc σ σ' e).bindE fun k => Le.ite ((hb σ σ' e).bind fun t t' ht => by
      obtain ⟨a, σ1⟩ := t
      obtain ⟨a', σ1'⟩ := t'
      cases a <;> cases a'
      · exact le_while hc hb n σ1 σ1' ht
      · exact ht.elim
      · exact ht.elim
      · exact Le.pure ht) (Le.pure e)
theorem le_try {α : Type} {R : α → α → Prop} {m m' : M α} {h h' : Nat → M α} (a : Le R m m') (b : ∀ c, Le R (h c) (h' c)) : Le R (tryM m h) (tryM m' h') := fun s => by
  have a := a s
  unfold tryM
  cases q : m s with
  | ok x s1 =>
    cases q' : m' s with
    | ok a' s1' => rw [q, q'] at a; exact a
    | exc c s1' => rw [q, q'] at a; exact a.elim
    | bad => rw [q, q'] at a; exact a.elim
  | exc c s1 =>
    cases q' : m' s with
    | ok a' s1' => rw [q, q'] at a; exact a.elim
    | exc c' s1' => rw [q, q'] at a; obtain ⟨rfl, rfl⟩ := a; exact b c s1
    | bad => rw [q, q'] at a; exact a.elim
  | bad => exact True.intro
section
variable {F F' : Nat → List Rv → M Rv} (hF : ∀ f as, Le Eq (F f as) (F' f as))
include hF
mutual
theorem le_E : ∀ (t : Tm) {σ σ' : En}, EnLe σ σ' → Le Eq (evE F σ t) (evE F' σ' t)
  | .var i, _, _, h => le_getV h i
  | .bor i, _, _, h => le_getR h i
  | .glob _ l, _, _, h => Le.eq
  | .lit l, _, _, h => Le.eq
  | .bin o a b, _, _, h => (le_E a h).bindE fun x => (le_E b h).bindE fun y => Le.eq
  | .neg a, _, _, h => (le_E a h).bindE fun x => Le.eq
  | .not a, _, _, h => (le_E a h).bindE fun x => Le.eq
  | .and a b, _, _, h => (le_E a h).bindE fun x => Le.eq.bindE fun k => Le.ite (le_E b h) Le.eq
  | .or a b, _, _, h => (le_E a h).bindE fun x => Le.eq.bindE fun k => Le.ite Le.eq (le_E b h)
  | .cmp o a b, _, _, h => (le_E a h).bindE fun x => (le_E b h).bindE fun y => Le.eq
  | .chain o o' a b c, _, _, h => (le_E a h).bindE fun x => (le_E b h).bindE fun y => Le.eq.bindE fun k => Le.ite ((le_E c h).bindE fun z => Le.eq) Le.eq
  | .ite c a b, _, _, h => (le_E c h).bindE fun x => Le.eq.bindE fun k => Le.ite (le_E a h) (le_E b h)
  | .call f as, _, _, h => (le_A as h).bindE fun xs => hF f xs
  | .bi b as, _, _, h => (le_B as h).bindE fun xs => Le.eq
  | .setlen a, _, _, h => (le_E a h).bindE fun x => Le.eq
  | .isi a t, _, _, h => (le_E a h).bindE fun x => Le.eq
  | .idx a i, _, _, h => (le_E a h).bindE fun x => (le_E i h).bindE fun y => Le.eq
  | .slice a lo hi, _, _, h => (le_E a h).bindE fun x => (le_E lo h).bindE fun l => Le.eq.bindE fun l' => (le_E hi h).bindE fun u => Le.eq
  | .rev a, _, _, h => (le_E a h).bindE fun x => Le.eq
  | .tup as, _, _, h => (le_A as h).bindE fun xs => Le.eq
  | .lst as, _, _, h => (le_A as h).bindE fun xs => Le.eq
  | .comp elt g k a b own cond, _, _, h => (le_E a h).bindE fun x => (le_E b h).bindE fun y => Le.eq.bindE fun xs => by
      refine Le.bindE (le_comp (fun p => ?_) xs) fun ys => Le.eq
      refine Le.quiet ((le_bind (h.wipe own)).bind fun σ2 σ2' h2 => ?_)
      refine (le_E cond h2).bindE fun c => Le.eq.bindE fun t => ?_
      cases t
      · exact Le.eq
      · exact (le_E elt h2).bindE fun z => Le.eq
  | .meth m o as, _, _, h => (le_E o h).bindE fun x => Le.eq.bindE fun _ => (le_B as h).bindE fun xs => Le.eq
  | .fr a, _, _, h => (le_E a h).bindE fun x => Le.eq
  | .no, _, _, h => Le.eq
  | .told f cs a, _, _, h => le_try (le_E a h) fun c => Le.ite (Le.quiet (hF f _)) Le.bad
  | .opq, _, _, h => Le.eq
theorem le_A : ∀ (t : Tms) {σ σ' : En}, EnLe σ σ' → Le Eq (evA F σ t) (evA F' σ' t)
  | .nil, _, _, h => Le.eq
  | .cons a r, _, _, h => (le_E a h).bindE fun x => (le_A r h).bindE fun xs => Le.eq
theorem le_B : ∀ (t : Tms) {σ σ' : En}, EnLe σ σ' → Le Eq (evB F σ t) (evB F' σ' t)
  | .nil, _, _, h => Le.eq
  | .cons a r, _, _, h => (le_E a h).bindE fun x => (le_B r h).bindE fun xs => Le.eq
end
theorem le_O : ∀ (t : Tms) {σ σ' : En}, EnLe σ σ' → Le Eq (evO F σ t) (evO F' σ' t)
  | .nil, _, _, h => Le.eq
  | .cons a r, σ, σ', h => by
    unfold evO
    split
    · exact (le_O r h).bindE fun xs => Le.eq
    · exact (le_E hF a h).bindE fun x => (le_O r h).bindE fun xs => Le.eq
theorem le_Tb : ∀ (t : Tb) {σ σ' : En}, EnLe σ σ' → Le EnLe (evTb F σ t) (evTb F' σ' t)
  | .asg i e, _, _, h => (le_E hF e h).bindE fun x => Le.pure (h.set i _)
  | .ite c a b, _, _, h => (le_E hF c h).bindE fun x => Le.eq.bindE fun k => Le.ite (le_Tb a h) (le_Tb b h)
mutual
theorem le_S : ∀ (t : Sm) {σ σ' : En}, EnLe σ σ' → Le FlLe (evS F σ t) (evS F' σ' t)
  | .asg i e, _, _, h => (le_E hF e h).bindE fun x => Le.pure (h.set i _)
  | .asgO i e, _, _, h => (le_E hF e h).bindE fun x => Le.pure (h.set i _)
  | .fz i, _, _, h => (le_getR h i).bindE fun x => Le.pure (h.set i _)
  | .asgN is es, _, _, h => (le_A hF es h).bindE fun xs => (le_setRs h).bind fun σ1 σ1' h1 => Le.pure h1
  | .unp is e, _, _, h => (le_E hF e h).bindE fun x => by
      cases x with
      | d p => cases p <;> first | exact (le_setAll h).bind fun σ1 σ1' h1 => Le.pure h1 | exact Le.bad
      | _ => exact Le.bad
  | .app i e, _, _, h => (le_getR h i).bindE fun x => by
      cases x with
      | own xs => exact (le_E hF e h).bindE fun y => Le.eq.bindE fun p => Le.ite (Le.pure (h.set i _)) Le.bad
      | _ => exact Le.bad
  | .ext i e, _, _, h => (le_getR h i).bindE fun x => by
      cases x with
      | own xs => exact (le_E hF e h).bindE fun y => Le.eq.bindE fun p => Le.ite (Le.pure (h.set i _)) Le.bad
      | _ => exact Le.bad
  | .exp e, _, _, h => (le_E hF e h).bindE fun _ => Le.pure h
  | .ifS c a b, _, _, h => (le_E hF c h).bindE fun x => Le.eq.bindE fun k => Le.ite (le_Ss a h) (le_Ss b h)
  | .forS g k a b body, _, _, h => (le_E hF a h).bindE fun x => (le_E hF b h).bindE fun y => Le.eq.bindE fun xs => by
      refine le_loop (fun p σ1 σ1' h1 => ?_) xs _ _ h
      exact (le_bind h1).bind fun σ2 σ2' h2 => le_Ss body h2
  | .whl c body, _, _, h => by
      rw [es_whl, es_whl]
      refine le_while (fun σ1 σ1' h1 => ?_) (fun σ1 σ1' h1 => le_Ss body h1) _ _ _ h
      exact (le_E hF c h1).bindE fun x => Le.eq
  | .ret e, _, _, h => (le_E hF e h).bindE fun x => Le.pure rfl
  | .raise c, _, _, h => Le.raise c
  | .opq, _, _, h => fun _ => True.intro
  | .dct0 i, _, _, h => Le.pure (h.set i none)
  | .unpO is es, _, _, h => (le_O hF es h).bindE fun xs => Le.ite ((le_setRs h).bind fun σ1 σ1' h1 => Le.pure h1) Le.bad
  | .mov i j, _, _, h => (le_getR h j).bindE fun x => Le.pure ((h.set j _).set i _)
  | .tryK b x k cs, _, _, h => le_try ((le_Tb hF b h).bind fun σ1 σ1' h1 => Le.pure h1) fun c => Le.ite (Le.pure ((h.set k _).set x _)) Le.bad
theorem le_Ss : ∀ (t : Sms) {σ σ' : En}, EnLe σ σ' → Le FlLe (evSs F σ t) (evSs F' σ' t)
  | .nil, _, _, h => Le.pure h
  | .cons a r, _, _, h => (le_S a h).bind fun t t' ht => by
      obtain ⟨x, σ1⟩ := t
      obtain ⟨x', σ1'⟩ := t'
      cases x <;> cases x'
      · exact le_Ss r ht
      · exact ht.elim
      · exact ht.elim
      · exact Le.pure ht
end
theorem le_run (fn : Fn) (as : List Rv) : Le Eq (runFn F fn as) (runFn F' fn as) := by
  unfold runFn
  split
  · exact (le_Ss hF fn.body (EnLe.refl _)).bind fun t t' ht => by
      obtain ⟨x, σ1⟩ := t
      obtain ⟨x', σ1'⟩ := t'
      cases x <;> cases x'
      · exact Le.eq
      · exact ht.elim
      · exact ht.elim
      · exact Le.pure ht
  · exact Le.bad
end
theorem le_call (T : Nat → Option Fn) : ∀ (n m f : Nat) (as : List Rv), n ≤ m → Le Eq (callF T n f as) (callF T m f as)
  | 0, _, _, _, _ => Le.bad
  | n + 1, 0, _, _, h => by omega
  | n + 1, m + 1, f, as, h => by
    show Le Eq (match T f with | some fn => runFn (callF T n) fn as | none => bad) (match T f with | some fn => runFn (callF T m) fn as | none => bad)
    cases T f with
    | none => exact Le.bad
    | some fn => exact le_run (fun f as => le_call T n m f as (by omega)) fn as
/-- more depth, the same answer -/
theorem call_up {T : Nat → Option Fn} {n m f : Nat} {as : List Rv} {r : Rv} (h : callF T n f as = pure r) (l : n ≤ m) : callF T m f as = pure r := (le_call T n m f as l).got h
theorem call_upX {T : Nat → Option Fn} {n m f : Nat} {as : List Rv} {c : Nat} (h : callF T n f as = raise c) (l : n ≤ m) : callF T m f as = raise c := (le_call T n m f as l).gotX h
end Wk

end

section
set_option Elab.async false
set_option linter.all false
set_option maxRecDepth 100000
set_option maxHeartbeats 1000000
/-! The store is not looked at. -/
namespace Wk
open PySem
def Flat {α : Type} (m : M α) : Prop := m = bad ∨ (∃ a, m = pure a) ∨ ∃ c, m = raise c
section
variable {α β : Type}
theorem Flat.bad : Flat (Wk.bad : M α) := .inl rfl
theorem Flat.pure {a : α} : Flat (pure a : M α) := .inr (.inl ⟨a, rfl⟩)
theorem Flat.raise {c : Nat} : Flat (Wk.raise c : M α) := .inr (.inr ⟨c, rfl⟩)
theorem Flat.bind {m : M α} {f : α → M β} (h : Flat m) (k : ∀ a, Flat (f a)) : Flat (m >>= f) := by
  rcases h with rfl | ⟨a, rfl⟩ | ⟨c, rfl⟩
  · exact Flat.bad
  · exact k a
  · exact Flat.raise
theorem Flat.quiet {m : M α} (h : Flat m) : Flat (quiet m) := by
  rcases h with rfl | ⟨a, rfl⟩ | ⟨c, rfl⟩
  · exact Flat.bad
  · exact Flat.pure
  · exact Flat.bad
theorem Flat.ite {c : Prop} [Decidable c] {m n : M α} (h : Flat m) (k : Flat n) : Flat (if c then m else n) := by split <;> assumption
theorem Flat.tryM {m : M α} {h : Nat → M α} (a : Flat m) (b : ∀ c, Flat (h c)) : Flat (tryM m h) := by
  rcases a with rfl | ⟨a, rfl⟩ | ⟨c, rfl⟩
  · exact Flat.bad
  · exact Flat.pure
  · exact b c
theorem Flat.got {m : M α} {a : α} {s : Sto} (h : Flat m) (e : m [] = .ok a s) : m = Pure.pure a := by
  rcases h with rfl | ⟨b, rfl⟩ | ⟨c, rfl⟩
  · cases e
  · have e : Out.ok b [] = Out.ok a s := e
    cases e; rfl
  · cases e
theorem Flat.gotX {m : M α} {c : Nat} {s : Sto} (h : Flat m) (e : m [] = .exc c s) : m = Wk.raise c := by
  rcases h with rfl | ⟨b, rfl⟩ | ⟨d, rfl⟩
  · cases e
  · cases e
  · have e : Out.exc d [] = Out.exc c s := e
    cases e; rfl
end

theorem flat_toP (r : Rv) : Flat (toP r) := by cases r <;> first | exact Flat.pure | exact Flat.bad
theorem flat_toB (r : Rv) : Flat (toB r) := by
  unfold toB; split <;> first | exact Flat.pure | exact Flat.bad
theorem flat_allP : ∀ rs, Flat (allP rs)
  | [] => Flat.pure
  | r :: rs => (flat_toP r).bind fun p => (flat_allP rs).bind fun ps => Flat.pure
theorem flat_items (r : Rv) : Flat (items r) := by
  unfold items; split <;> first | exact Flat.pure | exact Flat.bad | exact Flat.ite Flat.pure Flat.bad
theorem flat_seqOf (r : Rv) : Flat (seqOf r) := by
  unfold seqOf; split <;> first | exact Flat.pure | exact Flat.bad
theorem flat_lstOf (r : Rv) : Flat (lstOf r) := by
  unfold lstOf; split <;> first | exact Flat.pure | exact Flat.bad
theorem flat_listOf (r : Rv) : Flat (listOf r) := by
  unfold listOf; split <;> first | exact Flat.pure | exact Flat.bad
theorem flat_ownOf (r : Rv) : Flat (ownOf r) := by
  unfold ownOf; split <;> first | exact Flat.pure | exact Flat.bad
theorem flat_mkL (xs : List PyData) : Flat (mkL xs) := Flat.ite Flat.pure Flat.bad
theorem flat_mkT (xs : List PyData) : Flat (mkT xs) := Flat.ite Flat.pure Flat.bad
theorem flat_binOp (o : Op2) (a b : Rv) : Flat (binOp o a b) := by
  unfold binOp; split <;> first | exact Flat.pure | exact Flat.bad | exact Flat.ite Flat.pure Flat.bad | exact Flat.ite Flat.bad Flat.pure | exact flat_mkL _ | exact flat_mkT _
theorem flat_eqP (a b : PyData) : Flat (eqP a b) := Flat.ite Flat.pure Flat.bad
theorem flat_inP (a : PyData) (b : List PyData) : Flat (inP a b) := Flat.ite Flat.pure Flat.bad
theorem flat_inR (a : PyData) (b : Rv) : Flat (inR a b) := by
  unfold inR; split <;> first | exact Flat.pure | exact Flat.bad | exact flat_inP _ _
theorem flat_cmpOp (o : Cm) (a b : Rv) : Flat (cmpOp o a b) := by
  unfold cmpOp; split <;> first | exact Flat.pure | exact Flat.bad | exact (flat_toP _).bind fun _ => (flat_toP _).bind fun _ => flat_eqP _ _ | exact (flat_toP _).bind fun _ => (flat_toP _).bind fun _ => (flat_eqP _ _).bind fun _ => Flat.pure | exact (flat_toP _).bind fun _ => flat_inR _ _ | exact (flat_toP _).bind fun _ => (flat_inR _ _).bind fun _ => Flat.pure
theorem flat_isiOp (a : Rv) (t : Ty) : Flat (isiOp a t) := by
  unfold isiOp; split <;> first | exact Flat.pure | exact Flat.bad
theorem flat_idxOp (a i : Rv) : Flat (idxOp a i) := by
  unfold idxOp; split <;> first | exact Flat.bad | (split <;> first | exact Flat.pure | exact Flat.bad | exact Flat.ite Flat.pure Flat.bad)
theorem flat_bndOf (t : Tm) (r : Rv) : Flat (bndOf t r) := by
  unfold bndOf; split <;> first | exact Flat.pure | exact Flat.bad
theorem flat_cutOp (a : Rv) (lo hi : Option Int) : Flat (cutOp a lo hi) := by
  unfold cutOp; split <;> first | exact Flat.pure | exact Flat.bad | exact Flat.ite Flat.pure Flat.bad
theorem flat_revOp (a : Rv) : Flat (revOp a) := by
  unfold revOp; split <;> first | exact Flat.pure | exact Flat.bad
theorem flat_walk (k : Ik) (a b : Rv) : Flat (walk k a b) := by
  unfold walk; split <;> first | exact flat_items _ | exact (flat_lstOf _).bind fun _ => (flat_lstOf _).bind fun _ => Flat.ite Flat.pure Flat.bad | exact (flat_lstOf _).bind fun _ => Flat.pure | exact Flat.ite Flat.pure Flat.bad | exact Flat.bad
theorem flat_bi1 (b : Bi) (r : Rv) : Flat (bi1 b r) := by
  unfold bi1; split
  all_goals first
    | exact Flat.pure
    | exact Flat.bad
    | exact Flat.ite Flat.pure Flat.bad
    | exact (flat_seqOf _).bind fun _ => Flat.pure
    | (split <;> first | exact Flat.pure | exact Flat.bad | exact Flat.ite Flat.pure Flat.bad)
    | (refine (flat_seqOf _).bind fun _ => ?_; repeat' split) <;> first | exact Flat.pure | exact Flat.bad
    | (refine (flat_listOf _).bind fun _ => ?_; repeat' split) <;> first | exact Flat.pure | exact Flat.bad
theorem flat_bi2 (b : Bi) (r r' : Rv) : Flat (bi2 b r r') := by
  unfold bi2; split <;> first | exact Flat.pure | exact Flat.bad | exact Flat.ite Flat.pure Flat.bad
theorem flat_biOp (b : Bi) (rs : List Rv) : Flat (biOp b rs) := by
  unfold biOp; split <;> first | exact flat_bi1 _ _ | exact flat_bi2 _ _ _ | exact Flat.bad
theorem flat_meChk (m : Me) (r : Rv) : Flat (meChk m r) := by
  unfold meChk; split <;> first | exact Flat.pure | exact Flat.bad
theorem flat_meOp (m : Me) (r : Rv) (rs : List Rv) : Flat (meOp m r rs) := by
  unfold meOp; split
  all_goals first
    | exact Flat.bad
    | (refine (flat_seqOf _).bind fun _ => ?_; split <;> first | exact Flat.bad | exact Flat.ite Flat.pure Flat.bad)
    | exact Flat.ite Flat.bad (Flat.ite Flat.pure Flat.bad)
    | exact (flat_listOf _).bind fun _ => (flat_toP _).bind fun _ => Flat.ite Flat.pure Flat.bad
    | (refine (flat_listOf _).bind fun _ => (flat_toP _).bind fun _ => ?_; split <;> first | exact Flat.bad | exact Flat.ite Flat.pure Flat.bad)
theorem flat_getR (σ : En) (i : Nat) : Flat (getR σ i) := by
  unfold getR; split <;> first | exact Flat.pure | exact Flat.bad
theorem flat_getV (σ : En) (i : Nat) : Flat (getV σ i) := by
  unfold getV; split <;> first | exact Flat.pure | exact Flat.bad
theorem flat_setAll : ∀ {is : List Nat} {ps : List PyData} {σ : En}, Flat (setAll σ is ps)
  | [], [], _ => Flat.pure
  | [], _ :: _, _ => Flat.bad
  | _ :: _, [], _ => Flat.bad
  | i :: is, p :: ps, σ => flat_setAll (is := is) (ps := ps)
theorem flat_setRs : ∀ {is : List Nat} {ps : List Rv} {σ : En}, Flat (setRs σ is ps)
  | [], [], _ => Flat.pure
  | [], _ :: _, _ => Flat.bad
  | _ :: _, [], _ => Flat.bad
  | i :: is, p :: ps, σ => flat_setRs (is := is) (ps := ps)
theorem flat_bind (g : Tg) (p : PyData) (σ : En) : Flat (bindTg g p σ) := by
  cases g with
  | one i => exact Flat.pure
  | many is => cases p <;> first | exact flat_setAll | exact Flat.bad
theorem flat_comp {f : PyData → M (Option PyData)} (h : ∀ x, Flat (f x)) : ∀ xs, Flat (compM f xs)
  | [] => Flat.pure
  | x :: xs => (h x).bind fun o => (flat_comp h xs).bind fun r => Flat.pure
theorem flat_loop {f : PyData → En → M (Fl × En)} (h : ∀ x σ, Flat (f x σ)) : ∀ (xs : List PyData) (σ : En), Flat (loopM f xs σ)
  | [], σ => Flat.pure
  | x :: xs, σ => (h x σ).bind fun t => by
    obtain ⟨a, σ1⟩ := t
    cases a
    · exact flat_loop h xs σ1
    · exact Flat.pure
theorem flat_while {c : En → M Bool} {b : En → M (Fl × En)} (hc : ∀ σ, Flat (c σ)) (hb : ∀ σ, Flat (b σ)) : ∀ (n : Nat) (σ : En), Flat (whileM c b n σ)
  | 0, _ => Flat.bad
  | n + 1, σ => (hc σ).bind fun k => Flat.ite ((hb σ).bind fun t => by
      obtain ⟨a, σ1⟩ := t
      cases a
      · exact flat_while hc hb n σ1
      · exact Flat.pure) Flat.pure
section
variable {F : Nat → List Rv → M Rv} (hF : ∀ f as, Flat (F f as))
include hF
mutual
theorem flat_E : ∀ (t : Tm) (σ : En), Flat (evE F σ t)
  | .var i, σ => flat_getV σ i
  | .bor i, σ => flat_getR σ i
  | .glob _ l, _ => Flat.pure
  | .lit l, _ => Flat.pure
  | .bin o a b, σ => (flat_E a σ).bind fun x => (flat_E b σ).bind fun y => flat_binOp _ _ _
  | .neg a, σ => (flat_E a σ).bind fun x => by
      cases x with
      | d p => cases p <;> first | exact Flat.pure | exact Flat.bad
      | _ => exact Flat.bad
  | .not a, σ => (flat_E a σ).bind fun x => (flat_toB x).bind fun _ => Flat.pure
  | .and a b, σ => (flat_E a σ).bind fun x => (flat_toB x).bind fun k => Flat.ite (flat_E b σ) Flat.pure
  | .or a b, σ => (flat_E a σ).bind fun x => (flat_toB x).bind fun k => Flat.ite Flat.pure (flat_E b σ)
  | .cmp o a b, σ => (flat_E a σ).bind fun x => (flat_E b σ).bind fun y => (flat_cmpOp _ _ _).bind fun _ => Flat.pure
  | .chain o o' a b c, σ => (flat_E a σ).bind fun x => (flat_E b σ).bind fun y => (flat_cmpOp _ _ _).bind fun k => Flat.ite ((flat_E c σ).bind fun z => (flat_cmpOp _ _ _).bind fun _ => Flat.pure) Flat.pure
  | .ite c a b, σ => (flat_E c σ).bind fun x => (flat_toB x).bind fun k => Flat.ite (flat_E a σ) (flat_E b σ)
  | .call f as, σ => (flat_A as σ).bind fun xs => hF f xs
  | .bi b as, σ => (flat_B as σ).bind fun xs => flat_biOp _ _
  | .setlen a, σ => (flat_E a σ).bind fun x => flat_biOp _ _
  | .isi a t, σ => (flat_E a σ).bind fun x => (flat_isiOp _ _).bind fun _ => Flat.pure
  | .idx a i, σ => (flat_E a σ).bind fun x => (flat_E i σ).bind fun y => flat_idxOp _ _
  | .slice a lo hi, σ => (flat_E a σ).bind fun x => (flat_E lo σ).bind fun l => (flat_bndOf _ _).bind fun l' => (flat_E hi σ).bind fun u => (flat_bndOf _ _).bind fun u' => flat_cutOp _ _ _
  | .rev a, σ => (flat_E a σ).bind fun x => flat_revOp _
  | .tup as, σ => (flat_A as σ).bind fun xs => (flat_allP xs).bind fun ps => flat_mkT ps
  | .lst as, σ => (flat_A as σ).bind fun xs => (flat_allP xs).bind fun ps => flat_mkL ps
  | .comp elt g k a b own cond, σ => (flat_E a σ).bind fun x => (flat_E b σ).bind fun y => (flat_walk _ _ _).bind fun xs => by
      refine (flat_comp (fun p => ?_) xs).bind fun ys => Flat.pure
      exact Flat.quiet ((flat_bind _ _ _).bind fun σ2 => (flat_E cond σ2).bind fun c => (flat_toB c).bind fun t => Flat.ite ((flat_E elt σ2).bind fun z => (flat_toP z).bind fun _ => Flat.pure) Flat.pure)
  | .meth m o as, σ => (flat_E o σ).bind fun x => (flat_meChk _ _).bind fun _ => (flat_B as σ).bind fun xs => flat_meOp _ _ _
  | .fr a, σ => (flat_E a σ).bind fun x => Flat.pure
  | .no, _ => Flat.pure
  | .told f cs a, σ => Flat.tryM (flat_E a σ) fun c => Flat.ite (hF f _).quiet Flat.bad
  | .opq, _ => Flat.bad
theorem flat_A : ∀ (t : Tms) (σ : En), Flat (evA F σ t)
  | .nil, _ => Flat.pure
  | .cons a r, σ => (flat_E a σ).bind fun x => (flat_A r σ).bind fun xs => Flat.pure
theorem flat_B : ∀ (t : Tms) (σ : En), Flat (evB F σ t)
  | .nil, _ => Flat.pure
  | .cons a r, σ => (flat_E a σ).bind fun x => (flat_B r σ).bind fun xs => Flat.pure
end
theorem flat_O : ∀ (t : Tms) (σ : En), Flat (evO F σ t)
  | .nil, _ => Flat.pure
  | .cons a r, σ => by
    unfold evO
    split
    · exact (flat_O r σ).bind fun xs => Flat.pure
    · exact (flat_E hF a σ).bind fun x => (flat_O r σ).bind fun xs => Flat.pure
theorem flat_Tb : ∀ (t : Tb) (σ : En), Flat (evTb F σ t)
  | .asg i e, σ => (flat_E hF e σ).bind fun x => Flat.pure
  | .ite c a b, σ => (flat_E hF c σ).bind fun x => (flat_toB x).bind fun k => Flat.ite (flat_Tb a σ) (flat_Tb b σ)
mutual
theorem flat_S : ∀ (t : Sm) (σ : En), Flat (evS F σ t)
  | .asg i e, σ => (flat_E hF e σ).bind fun x => Flat.pure
  | .asgO i e, σ => (flat_E hF e σ).bind fun x => Flat.pure
  | .fz i, σ => (flat_getR σ i).bind fun x => Flat.pure
  | .asgN is es, σ => (flat_A hF es σ).bind fun xs => flat_setRs.bind fun σ1 => Flat.pure
  | .unp is e, σ => (flat_E hF e σ).bind fun x => by
      cases x with
      | d p => cases p <;> first | exact flat_setAll.bind fun σ1 => Flat.pure | exact Flat.bad
      | _ => exact Flat.bad
  | .app i e, σ => (flat_getR σ i).bind fun x => by
      cases x with
      | own xs => exact (flat_E hF e σ).bind fun y => (flat_toP y).bind fun p => Flat.ite Flat.pure Flat.bad
      | _ => exact Flat.bad
  | .ext i e, σ => (flat_getR σ i).bind fun x => by
      cases x with
      | own xs => exact (flat_E hF e σ).bind fun y => (flat_ownOf y).bind fun p => Flat.ite Flat.pure Flat.bad
      | _ => exact Flat.bad
  | .exp e, σ => (flat_E hF e σ).bind fun _ => Flat.pure
  | .ifS c a b, σ => (flat_E hF c σ).bind fun x => (flat_toB x).bind fun k => Flat.ite (flat_Ss a σ) (flat_Ss b σ)
  | .forS g k a b body, σ => (flat_E hF a σ).bind fun x => (flat_E hF b σ).bind fun y => (flat_walk _ _ _).bind fun xs => flat_loop (fun p σ1 => (flat_bind _ _ _).bind fun σ2 => flat_Ss body σ2) xs σ
  | .whl c body, σ => by
      rw [es_whl]
      exact flat_while (fun σ1 => (flat_E hF c σ1).bind fun x => flat_toB x) (fun σ1 => flat_Ss body σ1) _ σ
  | .ret e, σ => (flat_E hF e σ).bind fun x => Flat.pure
  | .raise c, _ => Flat.raise
  | .opq, _ => Flat.bad
  | .dct0 i, _ => Flat.pure
  | .unpO is es, σ => (flat_O hF es σ).bind fun xs => Flat.ite (flat_setRs.bind fun σ1 => Flat.pure) Flat.bad
  | .mov i j, σ => (flat_getR σ j).bind fun x => Flat.pure
  | .tryK b x k cs, σ => Flat.tryM ((flat_Tb hF b σ).bind fun v => Flat.pure) fun c => Flat.ite Flat.pure Flat.bad
theorem flat_Ss : ∀ (t : Sms) (σ : En), Flat (evSs F σ t)
  | .nil, _ => Flat.pure
  | .cons a r, σ => (flat_S a σ).bind fun t => by
      obtain ⟨x, σ1⟩ := t
      cases x
      · exact flat_Ss r σ1
      · exact Flat.pure
end
end
theorem flat_call (T : Nat → Option Fn) : ∀ (n f : Nat) (as : List Rv), Flat (callF T n f as)
  | 0, _, _ => Flat.bad
  | n + 1, f, as => by
    show Flat (match T f with | some fn => runFn (callF T n) fn as | none => bad)
    cases T f with
    | none => exact Flat.bad
    | some fn =>
      show Flat (runFn (callF T n) fn as)
      unfold runFn
      refine Flat.ite ((flat_Ss (fun f as => flat_call T n f as) fn.body _).bind fun t => ?_) Flat.bad
      obtain ⟨x, σ1⟩ := t
      cases x <;> exact Flat.pure
/-! closed runs, by the kernel -/
mutual
def same : PyData → PyData → Bool
  | .none, .none => true
  | .bool a, .bool b => a == b
  | .int a, .int b => a == b
  | .str a, .str b => a == b
  | .list a, .list b => sameAll a b
  | .tuple a, .tuple b => sameAll a b
  | _, _ => false
def sameAll : List PyData → List PyData → Bool
  | [], [] => true
  | a :: as, b :: bs => same a b && sameAll as bs
  | _, _ => false
end
mutual
theorem same_eq : ∀ (a b : PyData), same a b = true → a = b
  | .none, .none, _ => rfl
  | .bool a, .bool b, h => by rw [same] at h; rw [beq_iff_eq.mp h]
  | .int a, .int b, h => by rw [same] at h; rw [beq_iff_eq.mp h]
  | .str a, .str b, h => by rw [same] at h; rw [beq_iff_eq.mp h]
  | .list a, .list b, h => by rw [same] at h; rw [sameAll_eq a b h]
  | .tuple a, .tuple b, h => by rw [same] at h; rw [sameAll_eq a b h]
theorem sameAll_eq : ∀ (a b : List PyData), sameAll a b = true → a = b
  | [], [], _ => rfl
  | a :: as, b :: bs, h => by
    rw [sameAll, Bool.and_eq_true] at h
    rw [same_eq a b h.1, sameAll_eq as bs h.2]
end
def outD (o : Out Rv) (p : PyData) : Bool := match o with | .ok (.d q) _ => same q p | _ => false
def outO (o : Out Rv) (p : List PyData) : Bool := match o with | .ok (.own q) _ => sameAll q p | _ => false
def outX (o : Out Rv) (c : Nat) : Bool := match o with | .exc d _ => d == c | _ => false
theorem run_d {T : Nat → Option Fn} {n m f : Nat} {as : List Rv} {p : PyData} (h : outD (callF T n f as []) p = true) (l : n ≤ m) : callF T m f as = pure (.d p) := by
  refine call_up ?_ l
  unfold outD at h
  split at h
  · rename_i q s e
    rw [← same_eq _ _ h]
    exact (flat_call T n f as).got e
  · cases h
theorem run_o {T : Nat → Option Fn} {n m f : Nat} {as : List Rv} {p : List PyData} (h : outO (callF T n f as []) p = true) (l : n ≤ m) : callF T m f as = pure (.own p) := by
  refine call_up ?_ l
  unfold outO at h
  split at h
  · rename_i q s e
    rw [← sameAll_eq _ _ h]
    exact (flat_call T n f as).got e
  · cases h
theorem run_x {T : Nat → Option Fn} {n m f : Nat} {as : List Rv} {c : Nat} (h : outX (callF T n f as []) c = true) (l : n ≤ m) : callF T m f as = raise c := by
  refine call_upX ?_ l
  unfold outX at h
  split at h
  · rename_i d s e
    rw [← beq_iff_eq.mp h]
    exact (flat_call T n f as).gotX e
  · cases h
/-- the rest of a def, in a frame of which only some is known -/
def outR (o : Out (Fl × En)) (p : PyData) : Bool := match o with | .ok (.rt (.d q), _) _ => same q p | _ => false
theorem rest_d {T : Nat → Option Fn} {n m : Nat} {σ σ' : En} {ss : Sms} {p : PyData} (h : outR (evSs (callF T n) σ ss []) p = true) (l : n ≤ m) (hs : EnLe σ σ') : ∃ σ1, evSs (callF T m) σ' ss = pure (.rt (.d p), σ1) := by
  have fl := flat_Ss (fun f as => flat_call T m f as) ss σ'
  have le := le_Ss (fun f as => le_call T n m f as l) ss hs []
  unfold outR at h
  split at h
  · rename_i q σ0 s e
    have hq := same_eq _ _ h
    subst hq
    rw [e] at le
    cases e2 : evSs (callF T m) σ' ss [] with
    | ok t s' =>
      rw [e2] at le
      obtain ⟨t, σ1⟩ := t
      cases t with
      | nx => exact le.1.elim
      | rt v =>
        have hv : Rv.d q = v := le.1
        subst hv
        exact ⟨σ1, fl.got e2⟩
    | exc c s' => rw [e2] at le; exact le.elim
    | bad => rw [e2] at le; exact le.elim
  · cases h
end Wk

end

section
set_option Elab.async false
set_option linter.all false
set_option maxRecDepth 100000
set_option maxHeartbeats 1000000
namespace Wk
open PySem
theorem charNat_inj : ∀ a b : List Char, a.map Char.toNat = b.map Char.toNat → a = b
  | [], [], _ => rfl
  | [], _ :: _, h => by simp at h
  | _ :: _, [], h => by simp at h
  | a :: as, b :: bs, h => by
    rw [List.map_cons, List.map_cons, List.cons.injEq] at h
    rw [charNat_inj as bs h.2, Char.toNat_inj.mp h.1]
@[simp] theorem ofStr_inj (a b : String) : (Str.ofString a = Str.ofString b) = (a = b) := by
  rw [Str.ofString_eq_toList, Str.ofString_eq_toList]
  refine propext ⟨fun h => ?_, fun h => by rw [h]⟩
  have h1 := Str.mk.inj h
  have h2 := charNat_inj _ _ (by simpa using h1)
  exact String.toList_inj.mp h2
/-! cuts -/
theorem cut_drop {α : Type} (xs : List α) (k : Nat) : cutL xs (some (k : Int)) none = xs.drop k := by
  unfold cutL
  rw [HT.sIx_nat, HT.sIx_none]
  by_cases h : k ≤ xs.length
  · rw [Nat.min_eq_left h, List.take_of_length_le (by rw [List.length_drop]; omega)]
  · rw [Nat.min_eq_right (by omega), List.drop_eq_nil_of_le (by omega), List.drop_eq_nil_of_le (by omega)]; simp
theorem cut_take {α : Type} (xs : List α) (k : Nat) : cutL xs none (some (k : Int)) = xs.take k := by
  unfold cutL
  rw [HT.sIx_nat, HT.sIx_none, List.drop_zero, Nat.sub_zero]
  by_cases h : k ≤ xs.length
  · rw [Nat.min_eq_left h]
  · rw [Nat.min_eq_right (by omega), List.take_of_length_le (by omega), List.take_of_length_le (by omega)]
theorem cut_mid {α : Type} (xs : List α) (i j : Nat) : cutL xs (some (i : Int)) (some (j : Int)) = (xs.take j).drop i := by
  unfold cutL
  rw [HT.sIx_nat, HT.sIx_nat, List.drop_take]
  by_cases h : i ≤ xs.length
  · by_cases h2 : j ≤ xs.length
    · rw [Nat.min_eq_left h, Nat.min_eq_left h2]
    · rw [Nat.min_eq_left h, Nat.min_eq_right (by omega), List.take_of_length_le (by rw [List.length_drop]; omega), List.take_of_length_le (by rw [List.length_drop]; omega)]
  · rw [Nat.min_eq_right (show xs.length ≤ i by omega), List.drop_eq_nil_of_le (Nat.le_refl _), List.drop_eq_nil_of_le (show xs.length ≤ i by omega)]; simp
@[simp] theorem cut_tup (xs : List PyData) (lo hi : Option Int) : cutOp (.d (.tuple xs)) lo hi = pure (.d (.tuple (cutL xs lo hi))) := id rfl
@[simp] theorem cut_lst (xs : List PyData) (lo hi : Option Int) : cutOp (.d (.list xs)) lo hi = pure (.own (cutL xs lo hi)) := id rfl
@[simp] theorem cut_own (xs : List PyData) (lo hi : Option Int) : cutOp (.own xs) lo hi = pure (.own (cutL xs lo hi)) := id rfl
@[simp] theorem cut_1 {α : Type} (xs : List α) : cutL xs (some 1) none = xs.drop 1 := cut_drop xs 1
@[simp] theorem cut_2 {α : Type} (xs : List α) : cutL xs (some 2) none = xs.drop 2 := cut_drop xs 2
@[simp] theorem bnd_no (r : Rv) : bndOf .no r = pure none := id rfl
section
variable (i : Int)
@[simp] theorem bnd_lit (l : Lit) : bndOf (.lit l) (.d (.int i)) = pure (some i) := id rfl
@[simp] theorem bnd_bor (l : Nat) : bndOf (.bor l) (.d (.int i)) = pure (some i) := id rfl
@[simp] theorem bnd_var (l : Nat) : bndOf (.var l) (.d (.int i)) = pure (some i) := id rfl
@[simp] theorem bnd_glob (l : Nat) (c : Lit) : bndOf (.glob l c) (.d (.int i)) = pure (some i) := id rfl
@[simp] theorem bnd_bin (o : Op2) (a b : Tm) : bndOf (.bin o a b) (.d (.int i)) = pure (some i) := id rfl
@[simp] theorem bnd_neg (a : Tm) : bndOf (.neg a) (.d (.int i)) = pure (some i) := id rfl
@[simp] theorem bnd_bi (o : Bi) (a : Tms) : bndOf (.bi o a) (.d (.int i)) = pure (some i) := id rfl
@[simp] theorem bnd_call (f : Nat) (a : Tms) : bndOf (.call f a) (.d (.int i)) = pure (some i) := id rfl
@[simp] theorem bnd_idx (a b : Tm) : bndOf (.idx a b) (.d (.int i)) = pure (some i) := id rfl
end
/-! operators -/
theorem okLen_ok {n : Nat} (h : n ≤ sizeLine) : okLen n = true := decide_eq_true h
section
variable (i j : Int) (a b : Str) (p q : PyData) (xs ys : List PyData)
@[simp] theorem add_int : binOp .add (.d (.int i)) (.d (.int j)) = pure (.int (i + j)) := id rfl
@[simp] theorem add_bl (k : Bool) : binOp .add (.d (.bool k)) (.d (.int j)) = pure (.int ((if k = true then 1 else 0) + j)) := id rfl
@[simp] theorem sub_int : binOp .sub (.d (.int i)) (.d (.int j)) = pure (.int (i - j)) := id rfl
theorem add_str (h : a.length + b.length ≤ sizeLine) : binOp .add (.d (.str a)) (.d (.str b)) = pure (.str (a ++ b)) := by
  show (if okLen (a.length + b.length) then _ else _) = _
  rw [okLen_ok h]; rfl
theorem add_tup (h : xs.length + ys.length ≤ sizeLine) : binOp .add (.d (.tuple xs)) (.d (.tuple ys)) = pure (.d (.tuple (xs ++ ys))) := by
  show (if okLen (xs ++ ys).length then _ else _) = _
  rw [okLen_ok (by rw [List.length_append]; exact h)]; rfl
theorem add_own (h : xs.length + ys.length ≤ sizeLine) : binOp .add (.own xs) (.own ys) = pure (.own (xs ++ ys)) := by
  show (if okLen (xs ++ ys).length then _ else _) = _
  rw [okLen_ok (by rw [List.length_append]; exact h)]; rfl
theorem mul_int (h : okMul i j = true) : binOp .mul (.d (.int i)) (.d (.int j)) = pure (.int (i * j)) := by
  show (if okMul i j then _ else _) = _
  rw [if_pos h]
theorem fdiv_int (h : okDiv j = true) : binOp .fdiv (.d (.int i)) (.d (.int j)) = pure (.int (i.fdiv j)) := by
  show (if okDiv j then _ else _) = _
  rw [if_pos h]
theorem mod_int (h : j ≠ 0) : binOp .mod (.d (.int i)) (.d (.int j)) = pure (.int (i.fmod j)) := by
  show (if j = 0 then _ else _) = _
  rw [if_neg h]
theorem mul_own (n : Nat) (h : xs.length * n ≤ sizeLine) (h2 : n < 2 ^ 62) : binOp .mul (.own xs) (.d (.int n)) = pure (.own (List.flatten (List.replicate n xs))) := by
  simp only [binOp]
  rw [if_pos (by simp [okLen]; omega), Int.toNat_natCast]
theorem mul_tup (n : Nat) (h1 : n ≤ 1000) (h2 : xs.length ≤ 1000) : binOp .mul (.d (.tuple xs)) (.d (.int n)) = pure (.d (.tuple (List.flatten (List.replicate n xs)))) := by
  simp only [binOp]
  rw [if_pos (by simp; omega), Int.toNat_natCast]
@[simp] theorem lt_int : cmpOp .lt (.d (.int i)) (.d (.int j)) = pure (decide (i < j)) := id rfl
@[simp] theorem le_int : cmpOp .le (.d (.int i)) (.d (.int j)) = pure (decide (i ≤ j)) := id rfl
@[simp] theorem gt_int : cmpOp .gt (.d (.int i)) (.d (.int j)) = pure (decide (j < i)) := id rfl
@[simp] theorem ge_int : cmpOp .ge (.d (.int i)) (.d (.int j)) = pure (decide (j ≤ i)) := id rfl
@[simp] theorem lt_str : cmpOp .lt (.d (.str a)) (.d (.str b)) = pure (decide (a.cps.toList < b.cps.toList)) := id rfl
@[simp] theorem le_str : cmpOp .le (.d (.str a)) (.d (.str b)) = pure (!decide (b.cps.toList < a.cps.toList)) := id rfl
@[simp] theorem eq_dd : cmpOp .eq (.d p) (.d q) = eqP p q := id rfl
@[simp] theorem eq_od : cmpOp .eq (.own xs) (.d q) = eqP (.list xs) q := id rfl
@[simp] theorem eq_do : cmpOp .eq (.d p) (.own ys) = eqP p (.list ys) := by cases p <;> rfl
@[simp] theorem eq_oo : cmpOp .eq (.own xs) (.own ys) = eqP (.list xs) (.list ys) := id rfl
@[simp] theorem ne_dd : cmpOp .ne (.d p) (.d q) = (eqP p q >>= fun r => pure !r) := id rfl
@[simp] theorem ne_od : cmpOp .ne (.own xs) (.d q) = (eqP (.list xs) q >>= fun r => pure !r) := id rfl
@[simp] theorem ne_do : cmpOp .ne (.d p) (.own ys) = (eqP p (.list ys) >>= fun r => pure !r) := by cases p <;> rfl
@[simp] theorem ne_oo : cmpOp .ne (.own xs) (.own ys) = (eqP (.list xs) (.list ys) >>= fun r => pure !r) := id rfl
def isNonP : PyData → Bool
  | .none => true
  | _ => false
@[simp] theorem is_non : cmpOp .is (.d p) (.d .none) = pure (isNonP p) := by cases p <;> rfl
@[simp] theorem isnot_non : cmpOp .isnot (.d p) (.d .none) = pure (!isNonP p) := by cases p <;> rfl
@[simp] theorem is_non_o : cmpOp .is (.own xs) (.d .none) = pure false := id rfl
@[simp] theorem isnot_non_o : cmpOp .isnot (.own xs) (.d .none) = pure true := id rfl
@[simp] theorem is_non_e (c : Nat) : cmpOp .is (.exc c) (.d .none) = pure false := id rfl
@[simp] theorem isnot_non_e (c : Nat) : cmpOp .isnot (.exc c) (.d .none) = pure true := id rfl
@[simp] theorem is_bl (k l : Bool) : cmpOp .is (.d (.bool k)) (.d (.bool l)) = pure (k == l) := id rfl
@[simp] theorem isnot_bl (k l : Bool) : cmpOp .isnot (.d (.bool k)) (.d (.bool l)) = pure (!(k == l)) := id rfl
@[simp] theorem is_strbl (l : Bool) : cmpOp .is (.d (.str a)) (.d (.bool l)) = pure false := id rfl
@[simp] theorem isnot_strbl (l : Bool) : cmpOp .isnot (.d (.str a)) (.d (.bool l)) = pure true := id rfl
@[simp] theorem nonP_dict (kv : List (PyData × PyData)) : isNonP (.dict kv) = false := id rfl
@[simp] theorem nonP_non : isNonP .none = true := id rfl
@[simp] theorem nonP_int : isNonP (.int i) = false := id rfl
@[simp] theorem nonP_bool (k : Bool) : isNonP (.bool k) = false := id rfl
@[simp] theorem nonP_str : isNonP (.str a) = false := id rfl
@[simp] theorem nonP_lst : isNonP (.list xs) = false := id rfl
@[simp] theorem nonP_tup : isNonP (.tuple xs) = false := id rfl
@[simp] theorem in_d (r : Rv) : cmpOp .in_ (.d p) r = inR p r := by cases r <;> cases p <;> rfl
@[simp] theorem in_o (r : Rv) : cmpOp .in_ (.own xs) r = inR (.list xs) r := by cases r <;> rfl
@[simp] theorem notin_d (r : Rv) : cmpOp .notin (.d p) r = (inR p r >>= fun r => pure !r) := by cases r <;> cases p <;> rfl
@[simp] theorem notin_o (r : Rv) : cmpOp .notin (.own xs) r = (inR (.list xs) r >>= fun r => pure !r) := by cases r <;> rfl
@[simp] theorem inR_t : inR p (.d (.tuple xs)) = inP p xs := by cases p <;> rfl
@[simp] theorem inR_l : inR p (.d (.list xs)) = inP p xs := by cases p <;> rfl
@[simp] theorem inR_o : inR p (.own xs) = inP p xs := by cases p <;> rfl
@[simp] theorem inR_s : inR (.str a) (.d (.str b)) = pure (strIn a b) := id rfl
theorem inP_ok (h : p.depth ≤ 60) : inP p xs = pure (xs.any fun z => PyData.eqv z p) := by
  unfold inP; rw [okEq_l h, if_pos rfl]
theorem inP_ok' (h : (PyData.list xs).depth ≤ 60) : inP p xs = pure (xs.any fun z => PyData.eqv z p) := by
  unfold inP; rw [okEq_r h, if_pos rfl]
@[simp] theorem inP_str : inP (.str a) xs = pure (xs.any fun z => PyData.eqv z (.str a)) := inP_ok _ _ (by simp [PyData.depth])
@[simp] theorem inP_int : inP (.int i) xs = pure (xs.any fun z => PyData.eqv z (.int i)) := inP_ok _ _ (by simp [PyData.depth])
theorem eqP_ok (h : p.depth ≤ 60) : eqP p q = pure (PyData.eqv p q) := by
  unfold eqP; rw [okEq_l h, if_pos rfl]
theorem eqP_ok' (h : q.depth ≤ 60) : eqP p q = pure (PyData.eqv p q) := by
  unfold eqP; rw [okEq_r h, if_pos rfl]
/-! kinds of things -/
def isIntP : PyData → Bool
  | .int _ => true
  | .bool _ => true
  | _ => false
def isBoolP : PyData → Bool
  | .bool _ => true
  | _ => false
def isStrP : PyData → Bool
  | .str _ => true
  | _ => false
def isTupP : PyData → Bool
  | .tuple _ => true
  | _ => false
def isLstP : PyData → Bool
  | .list _ => true
  | _ => false
@[simp] theorem isi_int : isiOp (.d p) .int = pure (isIntP p) := by cases p <;> rfl
@[simp] theorem isi_bool : isiOp (.d p) .bool = pure (isBoolP p) := by cases p <;> rfl
@[simp] theorem isi_str : isiOp (.d p) .str = pure (isStrP p) := by cases p <;> rfl
@[simp] theorem isi_tup : isiOp (.d p) .tuple = pure (isTupP p) := by cases p <;> rfl
@[simp] theorem isi_lst : isiOp (.d p) .list = pure (isLstP p) := by cases p <;> rfl
@[simp] theorem isIntP_dict (kv : List (PyData × PyData)) : isIntP (.dict kv) = false := id rfl
@[simp] theorem isIntP_none : isIntP (.none) = false := id rfl
@[simp] theorem isIntP_int : isIntP (.int i) = true := id rfl
@[simp] theorem isIntP_bool (k : Bool) : isIntP (.bool k) = true := id rfl
@[simp] theorem isIntP_str : isIntP (.str a) = false := id rfl
@[simp] theorem isIntP_tuple : isIntP (.tuple xs) = false := id rfl
@[simp] theorem isIntP_list : isIntP (.list xs) = false := id rfl
@[simp] theorem isBoolP_dict (kv : List (PyData × PyData)) : isBoolP (.dict kv) = false := id rfl
@[simp] theorem isBoolP_none : isBoolP (.none) = false := id rfl
@[simp] theorem isBoolP_int : isBoolP (.int i) = false := id rfl
@[simp] theorem isBoolP_bool (k : Bool) : isBoolP (.bool k) = true := id rfl
@[simp] theorem isBoolP_str : isBoolP (.str a) = false := id rfl
@[simp] theorem isBoolP_tuple : isBoolP (.tuple xs) = false := id rfl
@[simp] theorem isBoolP_list : isBoolP (.list xs) = false := id rfl
@[simp] theorem isStrP_dict (kv : List (PyData × PyData)) : isStrP (.dict kv) = false := id rfl
@[simp] theorem isStrP_none : isStrP (.none) = false := id rfl
@[simp] theorem isStrP_int : isStrP (.int i) = false := id rfl
@[simp] theorem isStrP_bool (k : Bool) : isStrP (.bool k) = false := id rfl
@[simp] theorem isStrP_str : isStrP (.str a) = true := id rfl
@[simp] theorem isStrP_tuple : isStrP (.tuple xs) = false := id rfl
@[simp] theorem isStrP_list : isStrP (.list xs) = false := id rfl
@[simp] theorem isTupP_dict (kv : List (PyData × PyData)) : isTupP (.dict kv) = false := id rfl
@[simp] theorem isTupP_none : isTupP (.none) = false := id rfl
@[simp] theorem isTupP_int : isTupP (.int i) = false := id rfl
@[simp] theorem isTupP_bool (k : Bool) : isTupP (.bool k) = false := id rfl
@[simp] theorem isTupP_str : isTupP (.str a) = false := id rfl
@[simp] theorem isTupP_tuple : isTupP (.tuple xs) = true := id rfl
@[simp] theorem isTupP_list : isTupP (.list xs) = false := id rfl
@[simp] theorem isLstP_dict (kv : List (PyData × PyData)) : isLstP (.dict kv) = false := id rfl
@[simp] theorem isLstP_none : isLstP (.none) = false := id rfl
@[simp] theorem isLstP_int : isLstP (.int i) = false := id rfl
@[simp] theorem isLstP_bool (k : Bool) : isLstP (.bool k) = false := id rfl
@[simp] theorem isLstP_str : isLstP (.str a) = false := id rfl
@[simp] theorem isLstP_tuple : isLstP (.tuple xs) = false := id rfl
@[simp] theorem isLstP_list : isLstP (.list xs) = true := id rfl
end
/-! targets, walks -/
@[simp] theorem bind_one (i : Nat) (p : PyData) (σ : En) : bindTg (.one i) p σ = pure (setR σ i (.d p)) := id rfl
@[simp] theorem bind_many (is : List Nat) (ps : List PyData) (σ : En) : bindTg (.many is) (.tuple ps) σ = setAll σ is ps := id rfl
@[simp] theorem setAll_nil (σ : En) : setAll σ [] [] = pure σ := id rfl
@[simp] theorem setAll_cons (σ : En) (i : Nat) (is : List Nat) (p : PyData) (ps : List PyData) : setAll σ (i :: is) (p :: ps) = setAll (setR σ i (.d p)) is ps := id rfl
@[simp] theorem setRs_nil (σ : En) : setRs σ [] [] = pure σ := id rfl
@[simp] theorem setRs_cons (σ : En) (i : Nat) (is : List Nat) (p : Rv) (ps : List Rv) : setRs σ (i :: is) (p :: ps) = setRs (setR σ i p) is ps := id rfl
@[simp] theorem wipe_nil (σ : En) : wipeR σ [] = σ := id rfl
@[simp] theorem wipe_cons (σ : En) (v : Nat) (vs : List Nat) : wipeR σ (v :: vs) = (wipeR σ vs).set v none := id rfl
@[simp] theorem ev_unpack (ps : List PyData) (is : List Nat) (σ : En) : (match (Rv.d (.tuple ps)) with | .d (.tuple ps) => (setAll σ is ps >>= fun σ1 => pure (.nx, σ1)) | _ => bad : M (Fl × En)) = (setAll σ is ps >>= fun σ1 => pure (.nx, σ1)) := id rfl
theorem walk_rng1 (n : Nat) (b : Rv) (h : n ≤ sizeLine) : walk .range1 (.d (.int n)) b = pure ((List.range n).map fun (k : Nat) => .int (k : Int)) := by
  show (if okRange 0 (n : Int) then (pure (rangeL 0 n) : M (List PyData)) else bad) = _
  have hz : sizeLine = 16777216 := rfl
  rw [if_pos (by simp [okRange, okLen]; omega)]
  unfold rangeL
  simp
theorem rangeL_nat (i n : Nat) : rangeL (i : Int) (n : Int) = (List.range (n - i)).map fun (k : Nat) => .int ((i + k : Nat) : Int) := by
  unfold rangeL
  rw [show ((n : Int) - (i : Int)).toNat = n - i by omega]
  simp
@[simp] theorem mkT_nil : mkT [] = pure (.d (.tuple [])) := id rfl
theorem mkT_ok {xs : List PyData} (h : xs.length ≤ sizeLine) : mkT xs = pure (.d (.tuple xs)) := by
  unfold mkT; rw [okLen_ok h]; rfl
theorem mkL_ok {xs : List PyData} (h : xs.length ≤ sizeLine) : mkL xs = pure (.own xs) := by
  unfold mkL; rw [okLen_ok h]; rfl
@[simp] theorem mkT_1 (a : PyData) : mkT [a] = pure (.d (.tuple [a])) := id rfl
@[simp] theorem mkT_2 (a b : PyData) : mkT [a, b] = pure (.d (.tuple [a, b])) := id rfl
@[simp] theorem mkT_3 (a b c : PyData) : mkT [a, b, c] = pure (.d (.tuple [a, b, c])) := id rfl
@[simp] theorem mkT_4 (a b c d : PyData) : mkT [a, b, c, d] = pure (.d (.tuple [a, b, c, d])) := id rfl
@[simp] theorem mkL_0 : mkL [] = pure (.own []) := id rfl
@[simp] theorem mkL_1 (a : PyData) : mkL [a] = pure (.own [a]) := id rfl
@[simp] theorem mkL_2 (a b : PyData) : mkL [a, b] = pure (.own [a, b]) := id rfl
@[simp] theorem mkL_3 (a b c : PyData) : mkL [a, b, c] = pure (.own [a, b, c]) := id rfl
@[simp] theorem mkL_4 (a b c d : PyData) : mkL [a, b, c, d] = pure (.own [a, b, c, d]) := id rfl
@[simp] theorem boolsOf_nil : boolsOf [] = some [] := id rfl
@[simp] theorem boolsOf_cons (b : Bool) (r : List PyData) : boolsOf (.bool b :: r) = (boolsOf r).map (b :: ·) := id rfl
theorem all_eq (xs : List PyData) : bi1 .all (.own xs) = match boolsOf xs with | some bs => (pure (.bl (bs.all id)) : M Rv) | none => bad := rfl
@[simp] theorem eqv_ss (a b : Str) : PyData.eqv (.str a) (.str b) = decide (a = b) := by rw [← beq_dec]; simp [PyData.eqv]
@[simp] theorem eqv_ii (a b : Int) : PyData.eqv (.int a) (.int b) = decide (a = b) := by rw [← beq_dec]; simp [PyData.eqv]
@[simp] theorem eqv_bb (a b : Bool) : PyData.eqv (.bool a) (.bool b) = decide (a = b) := by rw [← beq_dec]; simp [PyData.eqv]
theorem strIn_one (c : Nat) (s : Str) : strIn ⟨#[c]⟩ s = decide (c ∈ s.cps.toList) := StrLaws.found_one s c
/-! loops -/
theorem loop_ok {β : Type} {f : PyData → En → M (Fl × En)} (P : β → En → Prop) (step : β → PyData → β) : ∀ (xs : List PyData) (σ : En) (b : β), P b σ → (∀ x ∈ xs, ∀ b σ, P b σ → ∃ σ', f x σ = pure (.nx, σ') ∧ P (step b x) σ') → ∃ σ', loopM f xs σ = pure (.nx, σ') ∧ P (xs.foldl step b) σ'
  | [], σ, b, h, _ => ⟨σ, rfl, h⟩
  | x :: xs, σ, b, h, k => by
    obtain ⟨σ1, e1, h1⟩ := k x List.mem_cons_self b σ h
    obtain ⟨σ2, e2, h2⟩ := loop_ok P step xs σ1 (step b x) h1 fun y hy => k y (List.mem_cons_of_mem _ hy)
    exact ⟨σ2, by rw [loop_cons', e1, pure_bind']; exact e2, h2⟩
theorem loop_use {α β : Type} {f : PyData → En → M (Fl × En)} {xs : List PyData} {σ : En} {K : Fl × En → M α} {R : M α} (P : β → En → Prop) (step : β → PyData → β) (b : β) (h0 : P b σ)
    (hs : ∀ x ∈ xs, ∀ b σ, P b σ → ∃ σ', f x σ = pure (.nx, σ') ∧ P (step b x) σ') (hk : ∀ σ', P (xs.foldl step b) σ' → K (.nx, σ') = R) : (loopM f xs σ >>= K) = R := by
  obtain ⟨σ', e, h⟩ := loop_ok P step xs σ b h0 hs
  rw [e, pure_bind']
  exact hk σ' h
/-- a loop that may end the def -/
theorem loop_rt {α β : Type} {f : PyData → En → M (Fl × En)} {K : Fl × En → M α} {R : M α} (P : β → En → Prop) (step : β → PyData → β) (hrt : ∀ v σ', K (.rt v, σ') = K (.rt v, [])) : ∀ (xs : List PyData) (σ : En) (b : β), P b σ →
    (∀ x ∈ xs, ∀ b σ, P b σ → (∃ σ', f x σ = pure (.nx, σ') ∧ P (step b x) σ') ∨ ∃ v σ', f x σ = pure (.rt v, σ') ∧ K (.rt v, σ') = R) → (∀ σ', P (xs.foldl step b) σ' → K (.nx, σ') = R) → (loopM f xs σ >>= K) = R
  | [], σ, b, h, _, hk => by rw [loop_nil, pure_bind']; exact hk σ h
  | x :: xs, σ, b, h, hs, hk => by
    rw [loop_cons', bind_assoc']
    rcases hs x List.mem_cons_self b σ h with ⟨σ1, e1, h1⟩ | ⟨v, σ1, e1, h1⟩
    · rw [e1, pure_bind']
      exact loop_rt P step hrt xs σ1 (step b x) h1 (fun y hy => hs y (List.mem_cons_of_mem _ hy)) hk
    · rw [e1, pure_bind', pure_bind']; exact h1
end Wk

end

section
set_option Elab.async false
set_option linter.all false
set_option maxRecDepth 100000
set_option maxHeartbeats 2000000
namespace GG
open PySem Wk
abbrev n_f_is_whole : Nat := 0
abbrev n_f_is_word : Nat := 1
abbrev n_f_are_choices : Nat := 2
abbrev n_f_is_kind_in : Nat := 3
abbrev n_f_is_kind : Nat := 4
abbrev n_f_law_cell : Nat := 5
abbrev n_f_law_pick : Nat := 6
abbrev n_f_law_word_of : Nat := 7
abbrev n_f_law_leaf_kind : Nat := 8
abbrev n_f_law_kind : Nat := 9
abbrev n_f_law_whole : Nat := 10
abbrev n_f_law_is_word : Nat := 11
abbrev n_f_law_is_kind : Nat := 12
abbrev n_f_law_places : Nat := 13
abbrev n_f_law_at : Nat := 14
abbrev n_f_law_put : Nat := 15
abbrev n_f_law_spoilt_thing : Nat := 16
abbrev n_law_k01 : Nat := 17
abbrev n_f_look_kind : Nat := 18
abbrev n_f_has : Nat := 19
abbrev n_f_is_worth : Nat := 20
abbrev n_f_law_all : Nat := 21
abbrev n_f_law_rows_of : Nat := 22
abbrev n_f_law_size : Nat := 23
abbrev n_f_law_small : Nat := 24
abbrev n_f_law_word : Nat := 25
abbrev n_f_law_tried : Nat := 26
abbrev n_f_law_same : Nat := 27
abbrev n_law_k02 : Nat := 28
abbrev n_f_depth_of : Nat := 29
abbrev n_f_depth : Nat := 30
abbrev n_f_words_of : Nat := 31
abbrev n_f_words_in : Nat := 32
abbrev n_f_reach_of : Nat := 33
abbrev n_f_reach : Nat := 34
abbrev n_f_law_deep : Nat := 35
abbrev n_f_law_sum : Nat := 36
abbrev n_law_k03 : Nat := 37
abbrev n_f_look_worth : Nat := 38
abbrev n_f_mirrored_kind : Nat := 39
abbrev n_f_mirrored : Nat := 40
abbrev n_f_mirrored_in : Nat := 41
abbrev n_f_mirrored_worth : Nat := 42
abbrev n_f_count : Nat := 43
abbrev n_f_power : Nat := 44
abbrev n_f_how_many : Nat := 45
abbrev n_f_of_number : Nat := 46
abbrev n_f_parts_of : Nat := 47
abbrev n_f_all_worths : Nat := 48
abbrev n_f_both_in : Nat := 49
abbrev n_f_both_rows : Nat := 50
abbrev n_f_both_many : Nat := 51
abbrev n_f_both : Nat := 52
abbrev n_f_is_within : Nat := 53
abbrev n_f_are_apart : Nat := 54
abbrev n_f_divisor : Nat := 55
abbrev n_f_share : Nat := 56
abbrev n_f_times : Nat := 57
abbrev n_f_plus : Nat := 58
abbrev n_f_share_in : Nat := 59
abbrev n_f_share_of : Nat := 60
abbrev n_f_mean_in : Nat := 61
abbrev n_f_mean : Nat := 62
abbrev n_f_law_about : Nat := 63
abbrev n_law_k04 : Nat := 64
abbrev n_f_worth_of : Nat := 65
abbrev n_f_number_in : Nat := 66
abbrev n_f_number_of_parts : Nat := 67
abbrev n_f_number_of : Nat := 68
abbrev n_f_law_tried_2 : Nat := 69
abbrev n_law_k10 : Nat := 70
abbrev n_f_law_tried_3 : Nat := 71
abbrev n_f_law_lowest : Nat := 72
abbrev n_f_law_share : Nat := 73
abbrev n_f_law_total : Nat := 74
abbrev n_law_k20 : Nat := 75
abbrev n_f_law_tried_4 : Nat := 76
abbrev n_f_law_near : Nat := 77
abbrev n_f_law_sorted : Nat := 78
abbrev n_f_law_are_rows_common : Nat := 79
abbrev n_law_k30 : Nat := 80
abbrev n_f_law_led : Nat := 81
abbrev n_f_law_both : Nat := 82
abbrev n_f_law_worths : Nat := 83
abbrev n_law_k31 : Nat := 84
abbrev n_f_is_rule_in : Nat := 85
abbrev n_f_is_rule : Nat := 86
abbrev n_f_look_rule : Nat := 87
abbrev n_f_leaves : Nat := 88
abbrev n_f_numbers_in : Nat := 89
abbrev n_f_parts_in : Nat := 90
abbrev n_f_does_keep : Nat := 91
abbrev n_f_keeps : Nat := 92
abbrev n_f_law_rule : Nat := 93
abbrev n_f_law_leaves : Nat := 94
abbrev n_f_law_keeps : Nat := 95
abbrev n_f_law_tried_5 : Nat := 96
abbrev n_f_law_is_rule : Nat := 97
abbrev n_law_k40 : Nat := 98
abbrev n_f_keepers : Nat := 99
abbrev n_f_share_keeping : Nat := 100
abbrev n_f_law_tried_6 : Nat := 101
abbrev n_f_law_plus : Nat := 102
abbrev n_law_k41 : Nat := 103
abbrev n_f_look_rules : Nat := 104
abbrev n_f_implies : Nat := 105
abbrev n_f_alike_on : Nat := 106
abbrev n_law_k42 : Nat := 107
abbrev n_f_tally : Nat := 108
abbrev n_f_tightest : Nat := 109
abbrev n_f_parted : Nat := 110
abbrev n_law_k43 : Nat := 111
abbrev n_f_law_class : Nat := 112
abbrev n_law_k44 : Nat := 113
abbrev n_law_k45 : Nat := 114
abbrev n_f_home : Nat := 115
abbrev n_f_weight_in : Nat := 116
abbrev n_f_weight : Nat := 117
abbrev n_law_k46 : Nat := 118
abbrev n_f_with_part : Nat := 119
abbrev n_f_lesser_in : Nat := 120
abbrev n_f_lesser : Nat := 121
abbrev n_f_law_tried_7 : Nat := 122
abbrev n_f_law_weight : Nat := 123
abbrev n_f_law_nearest : Nat := 124
abbrev n_f_law_lesser : Nat := 125
abbrev n_law_k50 : Nat := 126
abbrev n_f_led_down : Nat := 127
abbrev n_f_least_breaking : Nat := 128
abbrev n_f_law_tried_8 : Nat := 129
abbrev n_law_k51 : Nat := 130
abbrev n_law_k52 : Nat := 131
abbrev n_law_k54 : Nat := 132
abbrev n_f_most_asks : Nat := 133
abbrev n_f_law_tried_9 : Nat := 134
abbrev n_f_law_ends : Nat := 135
abbrev n_law_k60 : Nat := 136
abbrev n_f_text_of : Nat := 137
abbrev n_f_worth_text : Nat := 138
abbrev n_f_leaf : Nat := 139
abbrev n_f_parts_read : Nat := 140
abbrev n_f_worth_in : Nat := 141
abbrev n_f_read_worth : Nat := 142
abbrev n_f_law_spoilt : Nat := 143
abbrev n_f_law_text : Nat := 144
abbrev n_f_law_tried_10 : Nat := 145
abbrev n_law_k70 : Nat := 146
abbrev n_f_text_of_kind : Nat := 147
abbrev n_f_kind_text : Nat := 148
abbrev n_f_number_in_2 : Nat := 149
abbrev n_f_bounds_in : Nat := 150
abbrev n_f_parts_of_text : Nat := 151
abbrev n_f_choice_in : Nat := 152
abbrev n_f_kind_in : Nat := 153
abbrev n_f_read_kind : Nat := 154
abbrev n_f_law_kind_text : Nat := 155
abbrev n_law_k71 : Nat := 156
abbrev n_law_k72 : Nat := 157
abbrev n_f_text_of_rule : Nat := 158
abbrev n_f_rule_text : Nat := 159
abbrev n_f_rule_in : Nat := 160
abbrev n_f_read_rule : Nat := 161
abbrev n_f_law_rule_text : Nat := 162
abbrev n_law_k73 : Nat := 163
abbrev n_law_k74 : Nat := 164
abbrev n_f_next_worth : Nat := 165
abbrev n_f_worth_ahead : Nat := 166
abbrev n_f_between : Nat := 167
abbrev n_f_middle : Nat := 168
abbrev n_law_k75 : Nat := 169
abbrev n_f_law_worth : Nat := 170
abbrev n_law_k76 : Nat := 171
abbrev n_f_best_rule : Nat := 172
abbrev n_law_k77 : Nat := 173
abbrev n_f_law_do : Nat := 174
abbrev n_f_law_lists : Nat := 175
abbrev n_law_k80 : Nat := 176
abbrev n_f_law_deed : Nat := 177
abbrev n_f_law_sifted : Nat := 178
abbrev n_f_law_did : Nat := 179
abbrev n_law_k81 : Nat := 180
abbrev n_law_k82 : Nat := 181
abbrev n_law_k83 : Nat := 182
abbrev n_f_sieve_text : Nat := 183
abbrev n_f_read_sieve : Nat := 184
abbrev n_law_k84 : Nat := 185
abbrev n_law_k85 : Nat := 186
abbrev n_law_k86 : Nat := 187
abbrev n_f_law_stays : Nat := 188
abbrev n_law_k87 : Nat := 189
abbrev n_law_k88 : Nat := 190
abbrev n_law_k89 : Nat := 191
abbrev n_law_k90 : Nat := 192
abbrev n_f_law_pair : Nat := 193
abbrev n_law_k91 : Nat := 194
/-- is_whole (k01) -/
def f_is_whole : Fn := ⟨3, 3,
 (.cons (.ret (.and (.isi (.bor 0) .int) (.and (.not (.isi (.bor 0) .bool)) (.chain .le .le (.bor 1) (.bor 0) (.bor 2)))))
 .nil)⟩
/-- is_word (k01) -/
def f_is_word : Fn := ⟨1, 2,
 (.cons (.ret (.and (.isi (.bor 0) .str) (.and (.chain .le .le (.lit (.int 1)) (.bi .len (.cons (.bor 0) .nil)) (.lit (.int 3))) (.bi .all (.cons (.comp (.cmp .in_ (.bor 1) (.glob 0 (.str "abcdefghijklmnopqrstuvwxyz"))) (.one 1) .seq (.bor 0) .no [1] (.lit (.bl true))) .nil)))))
 .nil)⟩
/-- are_choices (k01) -/
def f_are_choices : Fn := ⟨1, 4,
 (.cons (.ifS (.or (.not (.isi (.bor 0) .tuple)) (.not (.chain .le .le (.lit (.int 1)) (.bi .len (.cons (.bor 0) .nil)) (.glob 1 (.int 4)))))
 (.cons (.ret (.lit (.bl false)))
 .nil)
 .nil)
 (.cons (.ifS (.not (.bi .all (.cons (.comp (.and (.isi (.bor 1) .tuple) (.cmp .eq (.bi .len (.cons (.bor 1) .nil)) (.lit (.int 2)))) (.one 1) .seq (.bor 0) .no [1] (.lit (.bl true))) .nil)))
 (.cons (.ret (.lit (.bl false)))
 .nil)
 .nil)
 (.cons (.ifS (.not (.bi .all (.cons (.comp (.and (.call n_f_is_word (.cons (.var 2) .nil)) (.call n_f_is_whole (.cons (.var 3) (.cons (.lit (.int 1)) (.cons (.glob 2 (.int 20)) .nil))))) (.many [2, 3]) .seq (.bor 0) .no [2, 3] (.lit (.bl true))) .nil)))
 (.cons (.ret (.lit (.bl false)))
 .nil)
 .nil)
 (.cons (.ret (.cmp .eq (.setlen (.comp (.var 2) (.many [2, 3]) .seq (.bor 0) .no [2, 3] (.lit (.bl true)))) (.bi .len (.cons (.bor 0) .nil))))
 .nil))))⟩
/-- is_kind_in (k01) -/
def f_is_kind_in : Fn := ⟨2, 4,
 (.cons (.ifS (.or (.cmp .eq (.bor 1) (.lit (.int 0))) (.or (.not (.isi (.bor 0) .tuple)) (.or (.cmp .eq (.bor 0) (.tup .nil)) (.not (.isi (.idx (.bor 0) (.lit (.int 0))) .str)))))
 (.cons (.ret (.lit (.bl false)))
 .nil)
 .nil)
 (.cons (.asgO 2 (.idx (.bor 0) (.lit (.int 0))))
 (.cons (.ifS (.and (.cmp .eq (.bor 2) (.lit (.str "whole"))) (.cmp .eq (.bi .len (.cons (.bor 0) .nil)) (.lit (.int 3))))
 (.cons (.ret (.and (.bi .all (.cons (.comp (.call n_f_is_whole (.cons (.var 3) (.cons (.bin .sub (.lit (.int 0)) (.glob 2 (.int 20))) (.cons (.glob 2 (.int 20)) .nil)))) (.one 3) .seq (.slice (.bor 0) (.lit (.int 1)) .no) .no [3] (.lit (.bl true))) .nil)) (.cmp .le (.idx (.bor 0) (.lit (.int 1))) (.idx (.bor 0) (.lit (.int 2))))))
 .nil)
 .nil)
 (.cons (.ifS (.and (.cmp .eq (.bor 2) (.lit (.str "pick"))) (.cmp .eq (.bi .len (.cons (.bor 0) .nil)) (.lit (.int 2))))
 (.cons (.ret (.call n_f_are_choices (.cons (.idx (.bor 0) (.lit (.int 1))) .nil)))
 .nil)
 .nil)
 (.cons (.ifS (.and (.cmp .eq (.bor 2) (.lit (.str "row"))) (.cmp .eq (.bi .len (.cons (.bor 0) .nil)) (.lit (.int 2))))
 (.cons (.ifS (.or (.not (.isi (.idx (.bor 0) (.lit (.int 1))) .tuple)) (.not (.chain .le .le (.lit (.int 1)) (.bi .len (.cons (.idx (.bor 0) (.lit (.int 1))) .nil)) (.glob 3 (.int 3)))))
 (.cons (.ret (.lit (.bl false)))
 .nil)
 .nil)
 (.cons (.ret (.bi .all (.cons (.comp (.call n_f_is_kind_in (.cons (.var 3) (.cons (.bin .sub (.bor 1) (.lit (.int 1))) .nil))) (.one 3) .seq (.idx (.bor 0) (.lit (.int 1))) .no [3] (.lit (.bl true))) .nil)))
 .nil))
 .nil)
 (.cons (.ifS (.or (.cmp .ne (.bor 2) (.lit (.str "many"))) (.cmp .ne (.bi .len (.cons (.bor 0) .nil)) (.lit (.int 4))))
 (.cons (.ret (.lit (.bl false)))
 .nil)
 .nil)
 (.cons (.ifS (.or (.not (.bi .all (.cons (.comp (.call n_f_is_whole (.cons (.var 3) (.cons (.lit (.int 0)) (.cons (.glob 4 (.int 3)) .nil)))) (.one 3) .seq (.slice (.bor 0) (.lit (.int 2)) .no) .no [3] (.lit (.bl true))) .nil))) (.cmp .gt (.idx (.bor 0) (.lit (.int 2))) (.idx (.bor 0) (.lit (.int 3)))))
 (.cons (.ret (.lit (.bl false)))
 .nil)
 .nil)
 (.cons (.ret (.call n_f_is_kind_in (.cons (.idx (.bor 0) (.lit (.int 1))) (.cons (.bin .sub (.bor 1) (.lit (.int 1))) .nil))))
 .nil))))))))⟩
/-- is_kind (k01) -/
def f_is_kind : Fn := ⟨1, 1,
 (.cons (.ret (.call n_f_is_kind_in (.cons (.var 0) (.cons (.glob 5 (.int 3)) .nil))))
 .nil)⟩
/-- law_cell (k01) -/
def f_law_cell : Fn := ⟨2, 2,
 (.cons (.ifS (.cmp .lt (.bor 1) (.bi .len (.cons (.bor 0) .nil)))
 (.cons (.ret (.idx (.bor 0) (.bor 1)))
 .nil)
 .nil)
 (.cons (.ifS (.cmp .eq (.bor 0) (.lst .nil))
 (.cons (.ret (.lit (.int 0)))
 .nil)
 .nil)
 (.cons (.ret (.bin .add (.bin .mul (.idx (.bor 0) (.bin .mod (.bor 1) (.bi .len (.cons (.bor 0) .nil)))) (.lit (.int 31))) (.bor 1)))
 .nil)))⟩
/-- law_pick (k01) -/
def f_law_pick : Fn := ⟨3, 4,
 (.cons (.asgO 3 (.bin .mod (.bin .mul (.bin .add (.call n_f_law_cell (.cons (.var 0) (.cons (.var 1) .nil))) (.bin .mul (.lit (.int 6151)) (.bin .add (.bor 1) (.lit (.int 1))))) (.lit (.int 40692))) (.lit (.int 2147483399))))
 (.cons (.ret (.bin .mod (.bin .mod (.bin .add (.bin .mul (.bor 3) (.bor 3)) (.bin .fdiv (.bor 3) (.lit (.int 31)))) (.lit (.int 2147483629))) (.bor 2)))
 .nil))⟩
/-- law_word_of (k01) -/
def f_law_word_of : Fn := ⟨2, 4,
 (.cons (.asgO 2 (.lit (.str "abcdefghijklmnopqrstuvwxyz")))
 (.cons (.ifS (.cmp .gt (.call n_f_law_pick (.cons (.var 0) (.cons (.var 1) (.cons (.lit (.int 6)) .nil)))) (.lit (.int 0)))
 (.cons (.ret (.idx (.lst (.cons (.lit (.str "a")) (.cons (.lit (.str "b")) (.cons (.lit (.str "ab")) (.cons (.lit (.str "cab")) .nil))))) (.call n_f_law_pick (.cons (.var 0) (.cons (.bin .add (.bor 1) (.lit (.int 1))) (.cons (.lit (.int 4)) .nil))))))
 .nil)
 .nil)
 (.cons (.ret (.meth .join (.lit (.str "")) (.cons (.comp (.idx (.bor 2) (.call n_f_law_pick (.cons (.var 0) (.cons (.bin .add (.bin .add (.bor 1) (.lit (.int 2))) (.bor 3)) (.cons (.lit (.int 26)) .nil))))) (.one 3) .range1 (.bin .add (.lit (.int 1)) (.call n_f_law_pick (.cons (.var 0) (.cons (.bin .add (.bor 1) (.lit (.int 1))) (.cons (.lit (.int 3)) .nil))))) .no [3] (.lit (.bl true))) .nil)))
 .nil)))⟩
/-- law_leaf_kind (k01) -/
def f_law_leaf_kind : Fn := ⟨2, 6,
 (.cons (.ifS (.cmp .gt (.call n_f_law_pick (.cons (.var 0) (.cons (.var 1) (.cons (.lit (.int 3)) .nil)))) (.lit (.int 0)))
 (.cons (.asgO 4 (.bin .sub (.call n_f_law_pick (.cons (.var 0) (.cons (.bin .add (.bor 1) (.lit (.int 1))) (.cons (.lit (.int 7)) .nil)))) (.lit (.int 3))))
 (.cons (.ifS (.cmp .eq (.call n_f_law_pick (.cons (.var 0) (.cons (.bin .add (.bor 1) (.lit (.int 3))) (.cons (.lit (.int 8)) .nil)))) (.lit (.int 0)))
 (.cons (.asgO 4 (.idx (.lst (.cons (.neg (.lit (.int 20))) (.cons (.lit (.int 17)) (.cons (.lit (.int 20)) .nil)))) (.call n_f_law_pick (.cons (.var 0) (.cons (.bin .add (.bor 1) (.lit (.int 4))) (.cons (.lit (.int 3)) .nil))))))
 .nil)
 .nil)
 (.cons (.fz 4)
 (.cons (.ret (.tup (.cons (.lit (.str "whole")) (.cons (.var 4) (.cons (.bi .min2 (.cons (.lit (.int 20)) (.cons (.bin .add (.bor 4) (.call n_f_law_pick (.cons (.var 0) (.cons (.bin .add (.bor 1) (.lit (.int 2))) (.cons (.lit (.int 4)) .nil))))) .nil))) .nil)))))
 .nil))))
 .nil)
 (.cons (.asgO 2 (.lst .nil))
 (.cons (.forS (.one 3) .range1 (.bin .add (.lit (.int 1)) (.call n_f_law_pick (.cons (.var 0) (.cons (.bin .add (.bor 1) (.lit (.int 1))) (.cons (.lit (.int 4)) .nil))))) .no
 (.cons (.asgO 5 (.call n_f_law_word_of (.cons (.var 0) (.cons (.bin .add (.bin .add (.bor 1) (.lit (.int 5))) (.bin .mul (.lit (.int 5)) (.bor 3))) .nil))))
 (.cons (.ifS (.cmp .notin (.bor 5) (.bor 2))
 (.cons (.fz 5)
 (.cons (.app 2 (.var 5))
 .nil))
 .nil)
 .nil)))
 (.cons (.ret (.tup (.cons (.lit (.str "pick")) (.cons (.bi .tuple (.cons (.comp (.tup (.cons (.var 5) (.cons (.bin .add (.lit (.int 1)) (.call n_f_law_pick (.cons (.var 0) (.cons (.bin .add (.bin .add (.bor 1) (.lit (.int 30))) (.bor 3)) (.cons (.lit (.int 20)) .nil))))) .nil))) (.many [3, 5]) .enum (.bor 2) .no [3, 5] (.lit (.bl true))) .nil)) .nil))))
 .nil))))⟩
/-- law_kind (k01) -/
def f_law_kind : Fn := ⟨3, 7,
 (.cons (.asgO 3 (.call n_f_law_pick (.cons (.var 0) (.cons (.var 1) (.cons (.lit (.int 5)) .nil)))))
 (.cons (.ifS (.or (.cmp .eq (.bor 2) (.lit (.int 1))) (.cmp .lt (.bor 3) (.lit (.int 2))))
 (.cons (.ret (.call n_f_law_leaf_kind (.cons (.var 0) (.cons (.bin .add (.bor 1) (.lit (.int 1))) .nil))))
 .nil)
 .nil)
 (.cons (.ifS (.cmp .lt (.bor 3) (.lit (.int 4)))
 (.cons (.asgO 5 (.comp (.call n_f_law_kind (.cons (.var 0) (.cons (.bin .add (.bin .add (.bin .mul (.lit (.int 3)) (.bor 1)) (.lit (.int 40))) (.bin .mul (.lit (.int 50)) (.bor 6))) (.cons (.bin .sub (.bor 2) (.lit (.int 1))) .nil)))) (.one 6) .range1 (.bin .add (.lit (.int 1)) (.call n_f_law_pick (.cons (.var 0) (.cons (.bin .add (.bor 1) (.lit (.int 1))) (.cons (.lit (.int 3)) .nil))))) .no [6] (.lit (.bl true))))
 (.cons (.ret (.tup (.cons (.lit (.str "row")) (.cons (.bi .tuple (.cons (.bor 5) .nil)) .nil))))
 .nil))
 .nil)
 (.cons (.asgO 4 (.call n_f_law_pick (.cons (.var 0) (.cons (.bin .add (.bor 1) (.lit (.int 1))) (.cons (.lit (.int 3)) .nil)))))
 (.cons (.fz 4)
 (.cons (.ret (.tup (.cons (.lit (.str "many")) (.cons (.call n_f_law_kind (.cons (.var 0) (.cons (.bin .add (.bin .mul (.lit (.int 3)) (.bor 1)) (.lit (.int 40))) (.cons (.bin .sub (.bor 2) (.lit (.int 1))) .nil)))) (.cons (.var 4) (.cons (.bi .min2 (.cons (.lit (.int 3)) (.cons (.bin .add (.bor 4) (.call n_f_law_pick (.cons (.var 0) (.cons (.bin .add (.bor 1) (.lit (.int 2))) (.cons (.lit (.int 3)) .nil))))) .nil))) .nil))))))
 .nil))))))⟩
/-- law_whole (k01) -/
def f_law_whole : Fn := ⟨3, 3,
 (.cons (.ret (.and (.isi (.bor 0) .int) (.and (.not (.isi (.bor 0) .bool)) (.chain .le .le (.bor 1) (.bor 0) (.bor 2)))))
 .nil)⟩
/-- law_is_word (k01) -/
def f_law_is_word : Fn := ⟨1, 2,
 (.cons (.ret (.and (.isi (.bor 0) .str) (.and (.chain .le .le (.lit (.int 1)) (.bi .len (.cons (.bor 0) .nil)) (.lit (.int 3))) (.cmp .eq (.comp (.var 1) (.one 1) .seq (.bor 0) .no [1] (.not (.chain .le .le (.lit (.str "a")) (.bor 1) (.lit (.str "z"))))) (.lst .nil)))))
 .nil)⟩
/-- law_is_kind (k01) -/
def f_law_is_kind : Fn := ⟨2, 8,
 (.cons (.ifS (.or (.not (.isi (.bor 0) .tuple)) (.or (.cmp .lt (.bi .len (.cons (.bor 0) .nil)) (.lit (.int 2))) (.or (.not (.isi (.idx (.bor 0) (.lit (.int 0))) .str)) (.cmp .lt (.bor 1) (.lit (.int 1))))))
 (.cons (.ret (.lit (.bl false)))
 .nil)
 .nil)
 (.cons (.asgN [2, 3] (.cons (.idx (.bor 0) (.lit (.int 0))) (.cons (.slice (.bor 0) (.lit (.int 1)) .no) .nil)))
 (.cons (.ifS (.cmp .eq (.bor 2) (.lit (.str "whole")))
 (.cons (.ret (.and (.cmp .eq (.bi .len (.cons (.bor 3) .nil)) (.lit (.int 2))) (.and (.call n_f_law_whole (.cons (.idx (.bor 3) (.lit (.int 0))) (.cons (.neg (.lit (.int 20))) (.cons (.lit (.int 20)) .nil)))) (.call n_f_law_whole (.cons (.idx (.bor 3) (.lit (.int 1))) (.cons (.idx (.bor 3) (.lit (.int 0))) (.cons (.lit (.int 20)) .nil)))))))
 .nil)
 .nil)
 (.cons (.ifS (.cmp .eq (.bor 2) (.lit (.str "pick")))
 (.cons (.ifS (.or (.cmp .ne (.bi .len (.cons (.bor 3) .nil)) (.lit (.int 1))) (.or (.not (.isi (.idx (.bor 3) (.lit (.int 0))) .tuple)) (.not (.chain .le .le (.lit (.int 1)) (.bi .len (.cons (.idx (.bor 3) (.lit (.int 0))) .nil)) (.lit (.int 4))))))
 (.cons (.ret (.lit (.bl false)))
 .nil)
 .nil)
 (.cons (.asgO 4 (.comp (.var 6) (.one 6) .seq (.idx (.bor 3) (.lit (.int 0))) .no [6] (.and (.isi (.bor 6) .tuple) (.cmp .eq (.bi .len (.cons (.bor 6) .nil)) (.lit (.int 2))))))
 (.cons (.asgO 5 (.comp (.idx (.bor 6) (.lit (.int 0))) (.one 6) .seq (.bor 4) .no [6] (.and (.call n_f_law_is_word (.cons (.idx (.bor 6) (.lit (.int 0))) .nil)) (.call n_f_law_whole (.cons (.idx (.bor 6) (.lit (.int 1))) (.cons (.lit (.int 1)) (.cons (.lit (.int 20)) .nil)))))))
 (.cons (.ret (.and (.cmp .eq (.bi .len (.cons (.bor 5) .nil)) (.bi .len (.cons (.idx (.bor 3) (.lit (.int 0))) .nil))) (.cmp .eq (.comp (.var 7) (.one 7) .range1 (.bi .len (.cons (.bor 5) .nil)) .no [7] (.cmp .in_ (.idx (.bor 5) (.bor 7)) (.slice (.bor 5) .no (.bor 7)))) (.lst .nil))))
 .nil))))
 .nil)
 (.cons (.ifS (.cmp .eq (.bor 2) (.lit (.str "row")))
 (.cons (.ifS (.or (.cmp .ne (.bi .len (.cons (.bor 3) .nil)) (.lit (.int 1))) (.or (.not (.isi (.idx (.bor 3) (.lit (.int 0))) .tuple)) (.not (.chain .le .le (.lit (.int 1)) (.bi .len (.cons (.idx (.bor 3) (.lit (.int 0))) .nil)) (.lit (.int 3))))))
 (.cons (.ret (.lit (.bl false)))
 .nil)
 .nil)
 (.cons (.ret (.cmp .eq (.comp (.var 6) (.one 6) .seq (.idx (.bor 3) (.lit (.int 0))) .no [6] (.not (.call n_f_law_is_kind (.cons (.var 6) (.cons (.bin .sub (.bor 1) (.lit (.int 1))) .nil))))) (.lst .nil)))
 .nil))
 .nil)
 (.cons (.ifS (.or (.cmp .ne (.bor 2) (.lit (.str "many"))) (.or (.cmp .ne (.bi .len (.cons (.bor 3) .nil)) (.lit (.int 3))) (.or (.not (.call n_f_law_whole (.cons (.idx (.bor 3) (.lit (.int 1))) (.cons (.lit (.int 0)) (.cons (.lit (.int 3)) .nil))))) (.not (.call n_f_law_whole (.cons (.idx (.bor 3) (.lit (.int 2))) (.cons (.idx (.bor 3) (.lit (.int 1))) (.cons (.lit (.int 3)) .nil))))))))
 (.cons (.ret (.lit (.bl false)))
 .nil)
 .nil)
 (.cons (.ret (.call n_f_law_is_kind (.cons (.idx (.bor 3) (.lit (.int 0))) (.cons (.bin .sub (.bor 1) (.lit (.int 1))) .nil))))
 .nil)))))))⟩
/-- law_places (k01) -/
def f_law_places : Fn := ⟨1, 4,
 (.cons (.asgO 1 (.lst (.cons (.tup .nil) .nil)))
 (.cons (.ifS (.isi (.bor 0) .tuple)
 (.cons (.forS (.one 2) .range1 (.bi .len (.cons (.bor 0) .nil)) .no
 (.cons (.ext 1 (.comp (.bin .add (.tup (.cons (.var 2) .nil)) (.bor 3)) (.one 3) .seq (.call n_f_law_places (.cons (.idx (.bor 0) (.bor 2)) .nil)) .no [3] (.lit (.bl true))))
 .nil))
 .nil)
 .nil)
 (.cons (.ret (.bor 1))
 .nil)))⟩
/-- law_at (k01) -/
def f_law_at : Fn := ⟨2, 3,
 (.cons (.forS (.one 2) .seq (.var 1) .no
 (.cons (.asgO 0 (.idx (.bor 0) (.bor 2)))
 .nil))
 (.cons (.ret (.bor 0))
 .nil))⟩
/-- law_put (k01) -/
def f_law_put : Fn := ⟨3, 4,
 (.cons (.ifS (.cmp .eq (.bor 1) (.tup .nil))
 (.cons (.ret (.bor 2))
 .nil)
 .nil)
 (.cons (.asgO 3 (.idx (.bor 1) (.lit (.int 0))))
 (.cons (.ret (.bin .add (.bin .add (.slice (.bor 0) .no (.bor 3)) (.tup (.cons (.call n_f_law_put (.cons (.idx (.bor 0) (.bor 3)) (.cons (.slice (.bor 1) (.lit (.int 1)) .no) (.cons (.var 2) .nil)))) .nil))) (.slice (.bor 0) (.bin .add (.bor 3) (.lit (.int 1))) .no)))
 .nil)))⟩
/-- law_spoilt_thing (k01) -/
def f_law_spoilt_thing : Fn := ⟨3, 9,
 (.cons (.asgO 3 (.call n_f_law_places (.cons (.var 2) .nil)))
 (.cons (.asgO 4 (.idx (.bor 3) (.call n_f_law_pick (.cons (.var 0) (.cons (.var 1) (.cons (.bi .len (.cons (.bor 3) .nil)) .nil))))))
 (.cons (.asgO 5 (.call n_f_law_at (.cons (.var 2) (.cons (.var 4) .nil))))
 (.cons (.fz 5)
 (.cons (.asgO 6 (.lst (.cons (.lit (.int 0)) (.cons (.lit (.int 1)) (.cons (.neg (.lit (.int 21))) (.cons (.lit (.int 21)) (.cons (.lit (.int 3)) (.cons (.lit (.int 4)) (.cons (.lit (.bl true)) (.cons (.lit (.non)) (.cons (.lit (.str "a")) (.cons (.lit (.str "abcd")) (.cons (.lit (.str "A")) (.cons (.lit (.str "")) (.cons (.lit (.str "many")) (.cons (.lit (.str "row")) (.cons (.tup .nil) (.cons (.tup (.cons (.var 5) .nil)) (.cons (.lst (.cons (.var 5) .nil)) (.cons (.tup (.cons (.lit (.str "whole")) (.cons (.lit (.int 1)) (.cons (.lit (.int 0)) .nil)))) .nil))))))))))))))))))))
 (.cons (.asgO 7 (.call n_f_law_pick (.cons (.var 0) (.cons (.bin .add (.bor 1) (.lit (.int 1))) (.cons (.bin .add (.bi .len (.cons (.bor 6) .nil)) (.lit (.int 5))) .nil)))))
 (.cons (.ifS (.cmp .lt (.bor 7) (.bi .len (.cons (.bor 6) .nil)))
 (.cons (.ret (.call n_f_law_put (.cons (.var 2) (.cons (.var 4) (.cons (.idx (.bor 6) (.bor 7)) .nil)))))
 .nil)
 .nil)
 (.cons (.ifS (.and (.isi (.bor 5) .tuple) (.cmp .ne (.bor 5) (.tup .nil)))
 (.cons (.asgO 8 (.call n_f_law_pick (.cons (.var 0) (.cons (.bin .add (.bor 1) (.lit (.int 2))) (.cons (.bi .len (.cons (.bor 5) .nil)) .nil)))))
 (.cons (.ret (.call n_f_law_put (.cons (.var 2) (.cons (.var 4) (.cons (.idx (.lst (.cons (.bin .add (.slice (.bor 5) .no (.bor 8)) (.slice (.bor 5) (.bin .add (.bor 8) (.lit (.int 1))) .no)) (.cons (.bin .add (.bin .add (.slice (.bor 5) .no (.bor 8)) (.slice (.bor 5) (.bor 8) (.bin .add (.bor 8) (.lit (.int 1))))) (.slice (.bor 5) (.bor 8) .no)) .nil))) (.bin .mod (.bor 7) (.lit (.int 2)))) .nil)))))
 .nil))
 .nil)
 (.cons (.ifS (.isi (.bor 5) .int)
 (.cons (.ret (.call n_f_law_put (.cons (.var 2) (.cons (.var 4) (.cons (.bin .sub (.bin .add (.bor 5) (.lit (.int 1))) (.bin .mul (.lit (.int 2)) (.bin .mod (.bor 7) (.lit (.int 2))))) .nil)))))
 .nil)
 .nil)
 (.cons (.fz 5)
 (.cons (.ret (.call n_f_law_put (.cons (.var 2) (.cons (.var 4) (.cons (.tup (.cons (.lit (.str "row")) (.cons (.tup (.cons (.var 5) (.cons (.var 5) .nil))) .nil))) .nil)))))
 .nil)))))))))))⟩
/-- law (k01) -/
def law_k01 : Fn := ⟨1, 11,
 (.cons (.asgO 1 (.call n_f_law_kind (.cons (.var 0) (.cons (.lit (.int 0)) (.cons (.lit (.int 3)) .nil)))))
 (.cons (.fz 1)
 (.cons (.ifS (.or (.cmp .isnot (.call n_f_is_kind (.cons (.var 1) .nil)) (.lit (.bl true))) (.cmp .isnot (.call n_f_law_is_kind (.cons (.var 1) (.cons (.lit (.int 3)) .nil))) (.lit (.bl true))))
 (.cons (.ret (.lit (.bl false)))
 .nil)
 .nil)
 (.cons (.asgO 2 (.tup (.cons (.lit (.str "row")) (.cons (.tup (.cons (.call n_f_law_kind (.cons (.var 0) (.cons (.lit (.int 900)) (.cons (.lit (.int 3)) .nil)))) (.cons (.tup (.cons (.lit (.str "whole")) (.cons (.lit (.int 0)) (.cons (.lit (.int 0)) .nil)))) .nil))) .nil))))
 (.cons (.ifS (.cmp .ne (.call n_f_is_kind (.cons (.var 2) .nil)) (.call n_f_law_is_kind (.cons (.var 2) (.cons (.lit (.int 3)) .nil))))
 (.cons (.ret (.lit (.bl false)))
 .nil)
 .nil)
 (.cons (.forS (.one 3) .range1 (.lit (.int 5)) .no
 (.cons (.fz 1)
 (.cons (.asgO 6 (.call n_f_law_spoilt_thing (.cons (.var 0) (.cons (.bin .add (.lit (.int 1800)) (.bin .mul (.lit (.int 20)) (.bor 3))) (.cons (.var 1) .nil)))))
 (.cons (.ifS (.and (.cmp .eq (.call n_f_law_pick (.cons (.var 0) (.cons (.bin .add (.lit (.int 1810)) (.bin .mul (.lit (.int 20)) (.bor 3))) (.cons (.lit (.int 3)) .nil)))) (.lit (.int 0))) (.isi (.bor 6) .tuple))
 (.cons (.fz 6)
 (.cons (.asgO 6 (.call n_f_law_spoilt_thing (.cons (.var 0) (.cons (.bin .add (.lit (.int 1812)) (.bin .mul (.lit (.int 20)) (.bor 3))) (.cons (.var 6) .nil)))))
 .nil))
 .nil)
 (.cons (.fz 6)
 (.cons (.asgO 7 (.call n_f_is_kind (.cons (.var 6) .nil)))
 (.cons (.fz 6)
 (.cons (.ifS (.or (.cmp .ne (.bor 7) (.call n_f_law_is_kind (.cons (.var 6) (.cons (.lit (.int 3)) .nil)))) (.not (.isi (.bor 7) .bool)))
 (.cons (.ret (.lit (.bl false)))
 .nil)
 .nil)
 .nil))))))))
 (.cons (.asgO 4 (.lst (.cons (.lit (.non)) (.cons (.lit (.int 5)) (.cons (.lit (.str "whole")) (.cons (.tup .nil) (.cons (.lst .nil) (.cons (.tup (.cons (.lit (.str "whole")) (.cons (.lit (.int 0)) (.cons (.lit (.int 0)) (.cons (.lit (.int 0)) .nil))))) (.cons (.tup (.cons (.lit (.str "pick")) (.cons (.tup .nil) .nil))) (.cons (.lst (.cons (.lit (.str "whole")) (.cons (.lit (.int 0)) (.cons (.lit (.int 1)) .nil)))) .nil))))))))))
 (.cons (.app 4 (.tup (.cons (.lit (.str "many")) (.cons (.tup (.cons (.lit (.str "whole")) (.cons (.lit (.int 0)) (.cons (.lit (.int 1)) .nil)))) (.cons (.lit (.int 0)) (.cons (.lit (.bl true)) .nil))))))
 (.cons (.asgN [8, 9] (.cons (.tup (.cons (.lit (.str "whole")) (.cons (.lit (.int 0)) (.cons (.lit (.int 1)) .nil)))) (.cons (.lst (.cons (.lit (.str "a")) (.cons (.lit (.str "b")) (.cons (.lit (.str "abc")) (.cons (.lit (.str "z")) (.cons (.lit (.str "y")) .nil)))))) .nil)))
 (.cons (.ext 4 (.lst (.cons (.tup (.cons (.lit (.str "pick")) (.cons (.bi .tuple (.cons (.comp (.tup (.cons (.var 10) (.cons (.lit (.int 1)) .nil))) (.one 10) .seq (.bor 9) .no [10] (.lit (.bl true))) .nil)) .nil))) (.cons (.tup (.cons (.lit (.str "row")) (.cons (.bin .mul (.tup (.cons (.var 8) .nil)) (.lit (.int 4))) .nil))) (.cons (.tup (.cons (.lit (.str "row")) (.cons (.tup .nil) .nil))) (.cons (.tup (.cons (.lit (.str "many")) (.cons (.var 8) (.cons (.lit (.int 0)) (.cons (.lit (.int 4)) .nil))))) .nil))))))
 (.cons (.ext 4 (.lst (.cons (.tup (.cons (.lit (.str "pick")) (.cons (.tup (.cons (.tup (.cons (.lit (.str "abcd")) (.cons (.lit (.int 1)) .nil))) .nil)) .nil))) (.cons (.tup (.cons (.lit (.str "pick")) (.cons (.tup (.cons (.tup (.cons (.lit (.str "")) (.cons (.lit (.int 1)) .nil))) .nil)) .nil))) (.cons (.tup (.cons (.lit (.str "pick")) (.cons (.tup (.cons (.tup (.cons (.lit (.str "a")) (.cons (.lit (.int 0)) .nil))) .nil)) .nil))) (.cons (.tup (.cons (.lit (.str "pick")) (.cons (.tup (.cons (.tup (.cons (.lit (.str "a")) (.cons (.lit (.int 21)) .nil))) .nil)) .nil))) .nil))))))
 (.cons (.ext 4 (.lst (.cons (.tup (.cons (.lit (.str "whole")) (.cons (.neg (.lit (.int 21))) (.cons (.lit (.int 0)) .nil)))) (.cons (.tup (.cons (.lit (.str "whole")) (.cons (.lit (.int 0)) (.cons (.lit (.int 21)) .nil)))) (.cons (.tup (.cons (.lit (.str "whole")) (.cons (.lit (.int 1)) (.cons (.lit (.int 0)) .nil)))) (.cons (.tup (.cons (.lit (.str "many")) (.cons (.var 8) (.cons (.lit (.int 2)) (.cons (.lit (.int 1)) .nil))))) .nil))))))
 (.cons (.ext 4 (.lst (.cons (.tup (.cons (.lit (.str "pick")) (.cons (.tup (.cons (.tup (.cons (.lit (.str "a")) (.cons (.lit (.int 1)) .nil))) (.cons (.tup (.cons (.lit (.str "a")) (.cons (.lit (.int 2)) .nil))) .nil))) .nil))) (.cons (.tup (.cons (.lit (.str "pick")) (.cons (.tup (.cons (.tup (.cons (.lit (.str "aB")) (.cons (.lit (.int 1)) .nil))) .nil)) .nil))) (.cons (.tup (.cons (.lit (.str "pick")) (.cons (.tup (.cons (.tup (.cons (.lit (.str "a1")) (.cons (.lit (.int 1)) .nil))) .nil)) .nil))) .nil)))))
 (.cons (.asgO 5 (.lst (.cons (.tup (.cons (.lit (.str "pick")) (.cons (.bi .tuple (.cons (.comp (.tup (.cons (.var 10) (.cons (.lit (.int 20)) .nil))) (.one 10) .seq (.slice (.bor 9) .no (.lit (.int 4))) .no [10] (.lit (.bl true))) .nil)) .nil))) (.cons (.tup (.cons (.lit (.str "row")) (.cons (.bin .mul (.tup (.cons (.var 8) .nil)) (.lit (.int 3))) .nil))) (.cons (.tup (.cons (.lit (.str "many")) (.cons (.var 8) (.cons (.lit (.int 0)) (.cons (.lit (.int 3)) .nil))))) .nil)))))
 (.cons (.app 5 (.tup (.cons (.lit (.str "whole")) (.cons (.neg (.lit (.int 20))) (.cons (.lit (.int 20)) .nil)))))
 (.cons (.ret (.cmp .eq (.comp (.call n_f_is_kind (.cons (.var 6) .nil)) (.one 6) .seq (.bin .add (.bor 4) (.bor 5)) .no [6] (.lit (.bl true))) (.bin .add (.bin .mul (.lst (.cons (.lit (.bl false)) .nil)) (.lit (.int 24))) (.bin .mul (.lst (.cons (.lit (.bl true)) .nil)) (.lit (.int 4))))))
 .nil))))))))))))))))⟩
/-- look_kind (k02) -/
def f_look_kind : Fn := ⟨1, 1,
 (.cons (.ifS (.not (.call n_f_is_kind (.cons (.var 0) .nil)))
 (.cons (.raise 1)
 .nil)
 .nil)
 .nil)⟩
/-- has (k02) -/
def f_has : Fn := ⟨2, 6,
 (.cons (.ifS (.cmp .eq (.idx (.bor 0) (.lit (.int 0))) (.lit (.str "whole")))
 (.cons (.ret (.call n_f_is_whole (.cons (.var 1) (.cons (.idx (.bor 0) (.lit (.int 1))) (.cons (.idx (.bor 0) (.lit (.int 2))) .nil)))))
 .nil)
 .nil)
 (.cons (.ifS (.cmp .eq (.idx (.bor 0) (.lit (.int 0))) (.lit (.str "pick")))
 (.cons (.ret (.and (.isi (.bor 1) .str) (.cmp .in_ (.bor 1) (.comp (.var 4) (.many [4, 5]) .seq (.idx (.bor 0) (.lit (.int 1))) .no [4, 5] (.lit (.bl true))))))
 .nil)
 .nil)
 (.cons (.ifS (.not (.isi (.bor 1) .tuple))
 (.cons (.ret (.lit (.bl false)))
 .nil)
 .nil)
 (.cons (.ifS (.cmp .eq (.idx (.bor 0) (.lit (.int 0))) (.lit (.str "row")))
 (.cons (.ifS (.cmp .ne (.bi .len (.cons (.bor 1) .nil)) (.bi .len (.cons (.idx (.bor 0) (.lit (.int 1))) .nil)))
 (.cons (.ret (.lit (.bl false)))
 .nil)
 .nil)
 (.cons (.ret (.bi .all (.cons (.comp (.call n_f_has (.cons (.var 3) (.cons (.var 2) .nil))) (.many [3, 2]) .zip (.idx (.bor 0) (.lit (.int 1))) (.bor 1) [3, 2] (.lit (.bl true))) .nil)))
 .nil))
 .nil)
 (.cons (.ret (.and (.chain .le .le (.idx (.bor 0) (.lit (.int 2))) (.bi .len (.cons (.bor 1) .nil)) (.idx (.bor 0) (.lit (.int 3)))) (.bi .all (.cons (.comp (.call n_f_has (.cons (.idx (.bor 0) (.lit (.int 1))) (.cons (.var 2) .nil))) (.one 2) .seq (.bor 1) .no [2] (.lit (.bl true))) .nil))))
 .nil)))))⟩
/-- is_worth (k02) -/
def f_is_worth : Fn := ⟨2, 2,
 (.cons (.exp (.call n_f_look_kind (.cons (.var 0) .nil)))
 (.cons (.ret (.call n_f_has (.cons (.var 0) (.cons (.var 1) .nil))))
 .nil))⟩
/-- law_all (k02) -/
def f_law_all : Fn := ⟨1, 6,
 (.cons (.ifS (.cmp .eq (.idx (.bor 0) (.lit (.int 0))) (.lit (.str "whole")))
 (.cons (.ret (.bi .range2 (.cons (.idx (.bor 0) (.lit (.int 1))) (.cons (.bin .add (.idx (.bor 0) (.lit (.int 2))) (.lit (.int 1))) .nil))))
 .nil)
 .nil)
 (.cons (.ifS (.cmp .eq (.idx (.bor 0) (.lit (.int 0))) (.lit (.str "pick")))
 (.cons (.ret (.comp (.var 3) (.many [3, 4]) .seq (.idx (.bor 0) (.lit (.int 1))) .no [3, 4] (.lit (.bl true))))
 .nil)
 .nil)
 (.cons (.ifS (.cmp .eq (.idx (.bor 0) (.lit (.int 0))) (.lit (.str "row")))
 (.cons (.ret (.call n_f_law_rows_of (.cons (.comp (.call n_f_law_all (.cons (.var 5) .nil)) (.one 5) .seq (.idx (.bor 0) (.lit (.int 1))) .no [5] (.lit (.bl true))) .nil)))
 .nil)
 .nil)
 (.cons (.asgO 1 (.lst .nil))
 (.cons (.forS (.one 2) .range2 (.idx (.bor 0) (.lit (.int 2))) (.bin .add (.idx (.bor 0) (.lit (.int 3))) (.lit (.int 1)))
 (.cons (.ext 1 (.call n_f_law_rows_of (.cons (.bin .mul (.lst (.cons (.call n_f_law_all (.cons (.idx (.bor 0) (.lit (.int 1))) .nil)) .nil)) (.bor 2)) .nil)))
 .nil))
 (.cons (.ret (.bor 1))
 .nil))))))⟩
/-- law_rows_of (k02) -/
def f_law_rows_of : Fn := ⟨1, 6,
 (.cons (.asgO 1 (.lst (.cons (.tup .nil) .nil)))
 (.cons (.forS (.one 2) .seq (.var 0) .no
 (.cons (.asgO 3 (.lst .nil))
 (.cons (.fz 1)
 (.cons (.forS (.one 4) .seq (.var 1) .no
 (.cons (.ext 3 (.comp (.bin .add (.bor 4) (.tup (.cons (.var 5) .nil))) (.one 5) .seq (.bor 2) .no [5] (.lit (.bl true))))
 .nil))
 (.cons (.mov 1 3)
 .nil)))))
 (.cons (.ret (.bor 1))
 .nil)))⟩
/-- law_size (k02) -/
def f_law_size : Fn := ⟨1, 6,
 (.cons (.ifS (.cmp .in_ (.idx (.bor 0) (.lit (.int 0))) (.tup (.cons (.lit (.str "whole")) (.cons (.lit (.str "pick")) .nil))))
 (.cons (.ret (.bi .len (.cons (.call n_f_law_all (.cons (.var 0) .nil)) .nil)))
 .nil)
 .nil)
 (.cons (.asgO 1 (.ite (.cmp .eq (.idx (.bor 0) (.lit (.int 0))) (.lit (.str "row"))) (.comp (.call n_f_law_size (.cons (.var 5) .nil)) (.one 5) .seq (.idx (.bor 0) (.lit (.int 1))) .no [5] (.lit (.bl true))) (.lst .nil)))
 (.cons (.asgO 2 (.lit (.int 1)))
 (.cons (.fz 1)
 (.cons (.forS (.one 3) .seq (.var 1) .no
 (.cons (.asgO 2 (.bin .mul (.bor 2) (.bor 3)))
 .nil))
 (.cons (.ifS (.cmp .eq (.idx (.bor 0) (.lit (.int 0))) (.lit (.str "many")))
 (.cons (.asgO 4 (.call n_f_law_size (.cons (.idx (.bor 0) (.lit (.int 1))) .nil)))
 (.cons (.asgO 2 (.bin .add (.bi .int (.cons (.cmp .eq (.idx (.bor 0) (.lit (.int 2))) (.lit (.int 0))) .nil)) (.bin .mul (.bor 4) (.bi .int (.cons (.chain .le .le (.idx (.bor 0) (.lit (.int 2))) (.lit (.int 1)) (.idx (.bor 0) (.lit (.int 3)))) .nil)))))
 (.cons (.asgO 2 (.bin .add (.bor 2) (.bin .mul (.bin .mul (.bor 4) (.bor 4)) (.bi .int (.cons (.chain .le .le (.idx (.bor 0) (.lit (.int 2))) (.lit (.int 2)) (.idx (.bor 0) (.lit (.int 3)))) .nil)))))
 (.cons (.asgO 2 (.bin .add (.bor 2) (.bin .mul (.bin .mul (.bin .mul (.bor 4) (.bor 4)) (.bor 4)) (.bi .int (.cons (.cmp .eq (.idx (.bor 0) (.lit (.int 3))) (.lit (.int 3))) .nil)))))
 .nil))))
 .nil)
 (.cons (.ret (.bor 2))
 .nil)))))))⟩
/-- law_small (k02) -/
def f_law_small : Fn := ⟨3, 5,
 (.cons (.asgO 3 (.call n_f_law_kind (.cons (.var 0) (.cons (.var 1) (.cons (.lit (.int 3)) .nil)))))
 (.cons (.forS (.one 4) .range1 (.lit (.int 3)) .no
 (.cons (.fz 3)
 (.cons (.ifS (.cmp .le (.call n_f_law_size (.cons (.var 3) .nil)) (.bor 2))
 (.cons (.ret (.bor 3))
 .nil)
 .nil)
 (.cons (.asgO 3 (.call n_f_law_kind (.cons (.var 0) (.cons (.bin .add (.bin .add (.bor 1) (.lit (.int 500))) (.bin .mul (.lit (.int 700)) (.bor 4))) (.cons (.lit (.int 2)) .nil)))))
 .nil))))
 (.cons (.fz 3)
 (.cons (.ret (.ite (.cmp .le (.call n_f_law_size (.cons (.var 3) .nil)) (.bor 2)) (.var 3) (.tup (.cons (.lit (.str "whole")) (.cons (.neg (.lit (.int 1))) (.cons (.lit (.int 2)) .nil))))))
 .nil))))⟩
/-- law_word (k02) -/
def f_law_word : Fn := ⟨1, 2,
 (.cons (.asgO 1 (.lst (.cons (.isi (.bor 0) (.cls 5)) (.cons (.isi (.bor 0) (.cls 1)) (.cons (.isi (.bor 0) (.cls 3)) (.cons (.isi (.bor 0) (.cls 6)) .nil))))))
 (.cons (.ext 1 (.lst (.cons (.isi (.bor 0) (.cls 2)) (.cons (.isi (.bor 0) (.cls 4)) .nil))))
 (.cons (.ifS (.or (.cmp .ne (.meth .count (.bor 1) (.cons (.lit (.bl true)) .nil)) (.lit (.int 1))) (.not (.isi (.bor 0) .value)))
 (.cons (.ret (.lit (.str "wrong")))
 .nil)
 .nil)
 (.cons (.ret (.idx (.lst (.cons (.lit (.str "ended")) (.cons (.lit (.str "no kind")) (.cons (.lit (.str "no rule")) (.cons (.lit (.str "no text")) (.cons (.lit (.str "no worth")) (.cons (.lit (.str "too many")) .nil))))))) (.meth .index (.bor 1) (.cons (.lit (.bl true)) .nil))))
 .nil))))⟩
/-- law_tried (k02) -/
def f_law_tried : Fn := ⟨2, 5,
 (.cons (.asgO 2 (.lit (.non)))
 (.cons (.asgO 3 (.lit (.non)))
 (.cons (.tryK (.asg 3 (.call n_f_is_worth (.cons (.var 0) (.cons (.var 1) .nil)))) 4 2 [1])
 (.cons (.ifS (.cmp .is (.bor 2) (.lit (.non)))
 (.cons (.ret (.bor 3))
 .nil)
 .nil)
 (.cons (.ret (.call n_f_law_word (.cons (.var 2) .nil)))
 .nil)))))⟩
/-- law_same (k02) -/
def f_law_same : Fn := ⟨2, 4,
 (.cons (.ifS (.and (.isi (.bor 0) .tuple) (.isi (.bor 1) .tuple))
 (.cons (.ret (.and (.cmp .eq (.bi .len (.cons (.bor 0) .nil)) (.bi .len (.cons (.bor 1) .nil))) (.bi .all (.cons (.comp (.call n_f_law_same (.cons (.var 2) (.cons (.var 3) .nil))) (.many [2, 3]) .zip (.bor 0) (.bor 1) [2, 3] (.lit (.bl true))) .nil))))
 .nil)
 .nil)
 (.cons (.ret (.and (.cmp .eq (.bor 0) (.bor 1)) (.cmp .eq (.isi (.bor 0) .bool) (.isi (.bor 1) .bool))))
 .nil))⟩
/-- law (k02) -/
def law_k02 : Fn := ⟨1, 9,
 (.cons (.asgO 1 (.call n_f_law_small (.cons (.var 0) (.cons (.lit (.int 0)) (.cons (.lit (.int 60)) .nil)))))
 (.cons (.fz 1)
 (.cons (.asgO 2 (.call n_f_law_all (.cons (.var 1) .nil)))
 (.cons (.fz 1)
 (.cons (.ifS (.cmp .ne (.comp (.var 5) (.one 5) .seq (.bor 2) .no [5] (.cmp .isnot (.call n_f_law_tried (.cons (.var 1) (.cons (.var 5) .nil))) (.lit (.bl true)))) (.lst .nil))
 (.cons (.ret (.lit (.bl false)))
 .nil)
 .nil)
 (.cons (.forS (.one 3) .range1 (.lit (.int 6)) .no
 (.cons (.asgO 5 (.idx (.bor 2) (.call n_f_law_pick (.cons (.var 0) (.cons (.bin .add (.lit (.int 4000)) (.bin .mul (.lit (.int 10)) (.bor 3))) (.cons (.bi .len (.cons (.bor 2) .nil)) .nil))))))
 (.cons (.asgO 4 (.call n_f_law_spoilt_thing (.cons (.var 0) (.cons (.bin .add (.lit (.int 4001)) (.bin .mul (.lit (.int 10)) (.bor 3))) (.cons (.var 5) .nil)))))
 (.cons (.fz 4)
 (.cons (.asgO 6 (.cmp .ne (.comp (.var 8) (.one 8) .seq (.bor 2) .no [8] (.call n_f_law_same (.cons (.var 8) (.cons (.var 4) .nil)))) (.lst .nil)))
 (.cons (.fz 1)
 (.cons (.fz 4)
 (.cons (.asgO 7 (.call n_f_law_tried (.cons (.var 1) (.cons (.var 4) .nil))))
 (.cons (.ifS (.or (.cmp .ne (.bor 7) (.bor 6)) (.not (.isi (.bor 7) .bool)))
 (.cons (.ret (.lit (.bl false)))
 .nil)
 .nil)
 .nil)))))))))
 (.cons (.fz 1)
 (.cons (.asgO 4 (.call n_f_law_spoilt_thing (.cons (.var 0) (.cons (.lit (.int 4100)) (.cons (.var 1) .nil)))))
 (.cons (.fz 4)
 (.cons (.ret (.or (.call n_f_law_is_kind (.cons (.var 4) (.cons (.lit (.int 3)) .nil))) (.and (.cmp .eq (.call n_f_law_tried (.cons (.var 4) (.cons (.idx (.bor 2) (.lit (.int 0))) .nil))) (.lit (.str "no kind"))) (.cmp .eq (.call n_f_law_tried (.cons (.var 4) (.cons (.lit (.non)) .nil))) (.lit (.str "no kind"))))))
 .nil))))))))))⟩
/-- depth_of (k03) -/
def f_depth_of : Fn := ⟨1, 2,
 (.cons (.ifS (.cmp .eq (.idx (.bor 0) (.lit (.int 0))) (.lit (.str "row")))
 (.cons (.ret (.bin .add (.lit (.int 1)) (.bi .max1 (.cons (.comp (.call n_f_depth_of (.cons (.var 1) .nil)) (.one 1) .seq (.idx (.bor 0) (.lit (.int 1))) .no [1] (.lit (.bl true))) .nil))))
 .nil)
 .nil)
 (.cons (.ret (.ite (.cmp .eq (.idx (.bor 0) (.lit (.int 0))) (.lit (.str "many"))) (.bin .add (.lit (.int 1)) (.call n_f_depth_of (.cons (.idx (.bor 0) (.lit (.int 1))) .nil))) (.lit (.int 1))))
 .nil))⟩
/-- depth (k03) -/
def f_depth : Fn := ⟨1, 1,
 (.cons (.exp (.call n_f_look_kind (.cons (.var 0) .nil)))
 (.cons (.ret (.call n_f_depth_of (.cons (.var 0) .nil)))
 .nil))⟩
/-- words_of (k03) -/
def f_words_of : Fn := ⟨1, 5,
 (.cons (.ifS (.cmp .eq (.idx (.bor 0) (.lit (.int 0))) (.lit (.str "pick")))
 (.cons (.ret (.comp (.var 3) (.many [3, 4]) .seq (.idx (.bor 0) (.lit (.int 1))) .no [3, 4] (.lit (.bl true))))
 .nil)
 .nil)
 (.cons (.asgO 1 (.lst .nil))
 (.cons (.forS (.one 2) .seq (.fr (.ite (.cmp .eq (.idx (.bor 0) (.lit (.int 0))) (.lit (.str "row"))) (.idx (.bor 0) (.lit (.int 1))) (.ite (.cmp .eq (.idx (.bor 0) (.lit (.int 0))) (.lit (.str "many"))) (.lst (.cons (.idx (.bor 0) (.lit (.int 1))) .nil)) (.lst .nil)))) .no
 (.cons (.ext 1 (.call n_f_words_of (.cons (.var 2) .nil)))
 .nil))
 (.cons (.ret (.bor 1))
 .nil))))⟩
/-- words_in (k03) -/
def f_words_in : Fn := ⟨1, 1,
 (.cons (.exp (.call n_f_look_kind (.cons (.var 0) .nil)))
 (.cons (.opq)
 .nil))⟩
/-- reach_of (k03) -/
def f_reach_of : Fn := ⟨1, 5,
 (.cons (.ifS (.cmp .eq (.idx (.bor 0) (.lit (.int 0))) (.lit (.str "whole")))
 (.cons (.ret (.tup (.cons (.idx (.bor 0) (.lit (.int 1))) (.cons (.idx (.bor 0) (.lit (.int 2))) .nil))))
 .nil)
 .nil)
 (.cons (.ifS (.cmp .eq (.idx (.bor 0) (.lit (.int 0))) (.lit (.str "pick")))
 (.cons (.ret (.tup (.cons (.lit (.int 0)) (.cons (.lit (.int 0)) .nil))))
 .nil)
 .nil)
 (.cons (.ifS (.cmp .eq (.idx (.bor 0) (.lit (.int 0))) (.lit (.str "row")))
 (.cons (.asgO 1 (.comp (.call n_f_reach_of (.cons (.var 4) .nil)) (.one 4) .seq (.idx (.bor 0) (.lit (.int 1))) .no [4] (.lit (.bl true))))
 (.cons (.ret (.tup (.cons (.bi .sum (.cons (.comp (.var 2) (.many [2, 3]) .seq (.bor 1) .no [2, 3] (.lit (.bl true))) .nil)) (.cons (.bi .sum (.cons (.comp (.var 3) (.many [2, 3]) .seq (.bor 1) .no [2, 3] (.lit (.bl true))) .nil)) .nil))))
 .nil))
 .nil)
 (.cons (.unp [2, 3] (.call n_f_reach_of (.cons (.idx (.bor 0) (.lit (.int 1))) .nil)))
 (.cons (.ret (.tup (.cons (.bi .min2 (.cons (.bin .mul (.bor 2) (.idx (.bor 0) (.lit (.int 2)))) (.cons (.bin .mul (.bor 2) (.idx (.bor 0) (.lit (.int 3)))) .nil))) (.cons (.bi .max2 (.cons (.bin .mul (.bor 3) (.idx (.bor 0) (.lit (.int 2)))) (.cons (.bin .mul (.bor 3) (.idx (.bor 0) (.lit (.int 3)))) .nil))) .nil))))
 .nil)))))⟩
/-- reach (k03) -/
def f_reach : Fn := ⟨1, 1,
 (.cons (.exp (.call n_f_look_kind (.cons (.var 0) .nil)))
 (.cons (.ret (.call n_f_reach_of (.cons (.var 0) .nil)))
 .nil))⟩
/-- law_deep (k03) -/
def f_law_deep : Fn := ⟨1, 8,
 (.cons (.ifS (.cmp .in_ (.idx (.bor 0) (.lit (.int 0))) (.tup (.cons (.lit (.str "whole")) (.cons (.lit (.str "pick")) .nil))))
 (.cons (.ret (.tup (.cons (.lit (.int 1)) (.cons (.ite (.cmp .eq (.idx (.bor 0) (.lit (.int 0))) (.lit (.str "pick"))) (.comp (.var 6) (.many [6, 7]) .seq (.idx (.bor 0) (.lit (.int 1))) .no [6, 7] (.lit (.bl true))) (.lst .nil)) .nil))))
 .nil)
 .nil)
 (.cons (.asgO 1 (.comp (.call n_f_law_deep (.cons (.var 5) .nil)) (.one 5) .seq (.ite (.cmp .eq (.idx (.bor 0) (.lit (.int 0))) (.lit (.str "row"))) (.idx (.bor 0) (.lit (.int 1))) (.lst (.cons (.idx (.bor 0) (.lit (.int 1))) .nil))) .no [5] (.lit (.bl true))))
 (.cons (.asgO 2 (.lst .nil))
 (.cons (.fz 1)
 (.cons (.forS (.many [3, 4]) .seq (.var 1) .no
 (.cons (.ext 2 (.var 4))
 .nil))
 (.cons (.fz 2)
 (.cons (.ret (.tup (.cons (.bin .add (.lit (.int 1)) (.bi .max1 (.cons (.comp (.var 3) (.many [3, 4]) .seq (.bor 1) .no [3, 4] (.lit (.bl true))) .nil))) (.cons (.var 2) .nil))))
 .nil)))))))⟩
/-- law_sum (k03) -/
def f_law_sum : Fn := ⟨1, 2,
 (.cons (.ifS (.isi (.bor 0) .tuple)
 (.cons (.ret (.bi .sum (.cons (.comp (.call n_f_law_sum (.cons (.var 1) .nil)) (.one 1) .seq (.bor 0) .no [1] (.lit (.bl true))) .nil)))
 .nil)
 .nil)
 (.cons (.ret (.ite (.isi (.bor 0) .str) (.lit (.int 0)) (.var 0)))
 .nil))⟩
/-- law (k03) -/
def law_k03 : Fn := ⟨1, 10,
 (.cons (.asgO 1 (.call n_f_law_small (.cons (.var 0) (.cons (.lit (.int 0)) (.cons (.lit (.int 100)) .nil)))))
 (.cons (.asgO 2 (.call n_f_law_kind (.cons (.var 0) (.cons (.lit (.int 3000)) (.cons (.lit (.int 3)) .nil)))))
 (.cons (.fz 1)
 (.cons (.fz 2)
 (.cons (.forS (.one 3) .seq (.tup (.cons (.var 1) (.cons (.var 2) .nil))) .no
 (.cons (.unp [7, 8] (.call n_f_law_deep (.cons (.var 3) .nil)))
 (.cons (.opq)
 .nil)))
 (.cons (.fz 1)
 (.cons (.asgO 4 (.comp (.call n_f_law_sum (.cons (.var 9) .nil)) (.one 9) .seq (.call n_f_law_all (.cons (.var 1) .nil)) .no [9] (.lit (.bl true))))
 (.cons (.fz 1)
 (.cons (.ifS (.cmp .ne (.call n_f_reach (.cons (.var 1) .nil)) (.tup (.cons (.bi .min1 (.cons (.bor 4) .nil)) (.cons (.bi .max1 (.cons (.bor 4) .nil)) .nil))))
 (.cons (.ret (.lit (.bl false)))
 .nil)
 .nil)
 (.cons (.fz 2)
 (.cons (.unp [5, 6] (.call n_f_reach (.cons (.var 2) .nil)))
 (.cons (.fz 2)
 (.cons (.ifS (.or (.cmp .gt (.bor 5) (.bor 6)) (.and (.cmp .lt (.bor 7) (.lit (.int 3))) (.cmp .ne (.call n_f_reach (.cons (.tup (.cons (.lit (.str "row")) (.cons (.bin .mul (.tup (.cons (.var 2) .nil)) (.lit (.int 2))) .nil))) .nil)) (.tup (.cons (.bin .mul (.lit (.int 2)) (.bor 5)) (.cons (.bin .mul (.lit (.int 2)) (.bor 6)) .nil))))))
 (.cons (.ret (.lit (.bl false)))
 .nil)
 .nil)
 (.cons (.ret (.and (.cmp .eq (.call n_f_reach (.cons (.tup (.cons (.lit (.str "many")) (.cons (.tup (.cons (.lit (.str "whole")) (.cons (.neg (.lit (.int 2))) (.cons (.lit (.int 3)) .nil)))) (.cons (.lit (.int 0)) (.cons (.lit (.int 3)) .nil))))) .nil)) (.tup (.cons (.neg (.lit (.int 6))) (.cons (.lit (.int 9)) .nil)))) (.cmp .eq (.call n_f_reach (.cons (.tup (.cons (.lit (.str "many")) (.cons (.tup (.cons (.lit (.str "whole")) (.cons (.lit (.int 1)) (.cons (.lit (.int 2)) .nil)))) (.cons (.lit (.int 2)) (.cons (.lit (.int 3)) .nil))))) .nil)) (.tup (.cons (.lit (.int 2)) (.cons (.lit (.int 6)) .nil))))))
 .nil))))))))))))))⟩
/-- look_worth (k04) -/
def f_look_worth : Fn := ⟨2, 2,
 (.cons (.ifS (.not (.call n_f_is_worth (.cons (.var 0) (.cons (.var 1) .nil))))
 (.cons (.raise 2)
 .nil)
 .nil)
 .nil)⟩
/-- mirrored_kind (k04) -/
def f_mirrored_kind : Fn := ⟨1, 2,
 (.cons (.ifS (.cmp .eq (.idx (.bor 0) (.lit (.int 0))) (.lit (.str "whole")))
 (.cons (.ret (.tup (.cons (.lit (.str "whole")) (.cons (.bin .sub (.lit (.int 0)) (.idx (.bor 0) (.lit (.int 2)))) (.cons (.bin .sub (.lit (.int 0)) (.idx (.bor 0) (.lit (.int 1)))) .nil)))))
 .nil)
 .nil)
 (.cons (.ifS (.cmp .eq (.idx (.bor 0) (.lit (.int 0))) (.lit (.str "pick")))
 (.cons (.ret (.tup (.cons (.lit (.str "pick")) (.cons (.rev (.idx (.bor 0) (.lit (.int 1)))) .nil))))
 .nil)
 .nil)
 (.cons (.ifS (.cmp .eq (.idx (.bor 0) (.lit (.int 0))) (.lit (.str "row")))
 (.cons (.ret (.tup (.cons (.lit (.str "row")) (.cons (.bi .tuple (.cons (.comp (.call n_f_mirrored_kind (.cons (.var 1) .nil)) (.one 1) .seq (.rev (.idx (.bor 0) (.lit (.int 1)))) .no [1] (.lit (.bl true))) .nil)) .nil))))
 .nil)
 .nil)
 (.cons (.ret (.tup (.cons (.lit (.str "many")) (.cons (.call n_f_mirrored_kind (.cons (.idx (.bor 0) (.lit (.int 1))) .nil)) (.cons (.idx (.bor 0) (.lit (.int 2))) (.cons (.idx (.bor 0) (.lit (.int 3))) .nil))))))
 .nil))))⟩
/-- mirrored (k04) -/
def f_mirrored : Fn := ⟨1, 1,
 (.cons (.exp (.call n_f_look_kind (.cons (.var 0) .nil)))
 (.cons (.ret (.call n_f_mirrored_kind (.cons (.var 0) .nil)))
 .nil))⟩
/-- mirrored_in (k04) -/
def f_mirrored_in : Fn := ⟨1, 2,
 (.cons (.ifS (.isi (.bor 0) .tuple)
 (.cons (.ret (.bi .tuple (.cons (.comp (.call n_f_mirrored_in (.cons (.var 1) .nil)) (.one 1) .seq (.rev (.bor 0)) .no [1] (.lit (.bl true))) .nil)))
 .nil)
 .nil)
 (.cons (.ret (.ite (.isi (.bor 0) .str) (.var 0) (.bin .sub (.lit (.int 0)) (.bor 0))))
 .nil))⟩
/-- mirrored_worth (k04) -/
def f_mirrored_worth : Fn := ⟨2, 2,
 (.cons (.exp (.call n_f_look_kind (.cons (.var 0) .nil)))
 (.cons (.exp (.call n_f_look_worth (.cons (.var 0) (.cons (.var 1) .nil))))
 (.cons (.ret (.call n_f_mirrored_in (.cons (.var 1) .nil)))
 .nil)))⟩
/-- count (k04) -/
def f_count : Fn := ⟨1, 4,
 (.cons (.ifS (.cmp .eq (.idx (.bor 0) (.lit (.int 0))) (.lit (.str "whole")))
 (.cons (.ret (.bin .add (.bin .sub (.idx (.bor 0) (.lit (.int 2))) (.idx (.bor 0) (.lit (.int 1)))) (.lit (.int 1))))
 .nil)
 .nil)
 (.cons (.ifS (.cmp .eq (.idx (.bor 0) (.lit (.int 0))) (.lit (.str "pick")))
 (.cons (.ret (.bi .len (.cons (.idx (.bor 0) (.lit (.int 1))) .nil)))
 .nil)
 .nil)
 (.cons (.ifS (.cmp .eq (.idx (.bor 0) (.lit (.int 0))) (.lit (.str "row")))
 (.cons (.asgO 1 (.lit (.int 1)))
 (.cons (.forS (.one 2) .seq (.idx (.bor 0) (.lit (.int 1))) .no
 (.cons (.asgO 1 (.bin .mul (.bor 1) (.call n_f_count (.cons (.var 2) .nil))))
 .nil))
 (.cons (.ret (.bor 1))
 .nil)))
 .nil)
 (.cons (.ret (.bi .sum (.cons (.comp (.call n_f_power (.cons (.call n_f_count (.cons (.idx (.bor 0) (.lit (.int 1))) .nil)) (.cons (.var 3) .nil))) (.one 3) .range2 (.idx (.bor 0) (.lit (.int 2))) (.bin .add (.idx (.bor 0) (.lit (.int 3))) (.lit (.int 1))) [3] (.lit (.bl true))) .nil)))
 .nil))))⟩
/-- power (k04) -/
def f_power : Fn := ⟨2, 4,
 (.cons (.asgO 2 (.lit (.int 1)))
 (.cons (.forS (.one 3) .range1 (.bor 1) .no
 (.cons (.asgO 2 (.bin .mul (.bor 2) (.bor 0)))
 .nil))
 (.cons (.ret (.bor 2))
 .nil)))⟩
/-- how_many (k04) -/
def f_how_many : Fn := ⟨1, 1,
 (.cons (.exp (.call n_f_look_kind (.cons (.var 0) .nil)))
 (.cons (.ret (.call n_f_count (.cons (.var 0) .nil)))
 .nil))⟩
/-- of_number (k04) -/
def f_of_number : Fn := ⟨2, 3,
 (.cons (.ifS (.cmp .eq (.idx (.bor 0) (.lit (.int 0))) (.lit (.str "whole")))
 (.cons (.ret (.bin .add (.idx (.bor 0) (.lit (.int 1))) (.bor 1)))
 .nil)
 .nil)
 (.cons (.ifS (.cmp .eq (.idx (.bor 0) (.lit (.int 0))) (.lit (.str "pick")))
 (.cons (.ret (.idx (.idx (.idx (.bor 0) (.lit (.int 1))) (.bor 1)) (.lit (.int 0))))
 .nil)
 .nil)
 (.cons (.ifS (.cmp .eq (.idx (.bor 0) (.lit (.int 0))) (.lit (.str "row")))
 (.cons (.fz 1)
 (.cons (.ret (.call n_f_parts_of (.cons (.bi .list (.cons (.idx (.bor 0) (.lit (.int 1))) .nil)) (.cons (.var 1) .nil))))
 .nil))
 .nil)
 (.cons (.asgO 2 (.idx (.bor 0) (.lit (.int 2))))
 (.cons (.whl (.cmp .ge (.bor 1) (.call n_f_power (.cons (.call n_f_count (.cons (.idx (.bor 0) (.lit (.int 1))) .nil)) (.cons (.var 2) .nil))))
 (.cons (.asgO 1 (.bin .sub (.bor 1) (.call n_f_power (.cons (.call n_f_count (.cons (.idx (.bor 0) (.lit (.int 1))) .nil)) (.cons (.var 2) .nil)))))
 (.cons (.asgO 2 (.bin .add (.bor 2) (.lit (.int 1))))
 .nil)))
 (.cons (.fz 1)
 (.cons (.ret (.call n_f_parts_of (.cons (.bin .mul (.lst (.cons (.idx (.bor 0) (.lit (.int 1))) .nil)) (.bor 2)) (.cons (.var 1) .nil))))
 .nil)))))))⟩
/-- parts_of (k04) -/
def f_parts_of : Fn := ⟨2, 4,
 (.cons (.asgO 2 (.lst .nil))
 (.cons (.forS (.one 3) .seq (.fr (.rev (.bor 0))) .no
 (.cons (.app 2 (.call n_f_of_number (.cons (.var 3) (.cons (.bin .mod (.bor 1) (.call n_f_count (.cons (.var 3) .nil))) .nil))))
 (.cons (.asgO 1 (.bin .fdiv (.bor 1) (.call n_f_count (.cons (.var 3) .nil))))
 .nil)))
 (.cons (.ret (.bi .tuple (.cons (.rev (.bor 2)) .nil)))
 .nil)))⟩
/-- all_worths (k04) -/
def f_all_worths : Fn := ⟨1, 2,
 (.cons (.ifS (.cmp .gt (.call n_f_how_many (.cons (.var 0) .nil)) (.glob 6 (.int 500)))
 (.cons (.raise 4)
 .nil)
 .nil)
 (.cons (.ret (.comp (.call n_f_of_number (.cons (.var 0) (.cons (.var 1) .nil))) (.one 1) .range1 (.call n_f_count (.cons (.var 0) .nil)) .no [1] (.lit (.bl true))))
 .nil))⟩
/-- both_in (k04) -/
def f_both_in : Fn := ⟨2, 9,
 (.cons (.ifS (.and (.cmp .eq (.idx (.bor 0) (.lit (.int 0))) (.lit (.str "many"))) (.cmp .eq (.idx (.bor 1) (.lit (.int 0))) (.lit (.str "row"))))
 (.cons (.ret (.call n_f_both_in (.cons (.var 1) (.cons (.var 0) .nil))))
 .nil)
 .nil)
 (.cons (.ifS (.and (.cmp .eq (.idx (.bor 0) (.lit (.int 0))) (.lit (.str "row"))) (.cmp .eq (.idx (.bor 1) (.lit (.int 0))) (.lit (.str "many"))))
 (.cons (.ifS (.not (.chain .le .le (.idx (.bor 1) (.lit (.int 2))) (.bi .len (.cons (.idx (.bor 0) (.lit (.int 1))) .nil)) (.idx (.bor 1) (.lit (.int 3)))))
 (.cons (.ret (.lit (.non)))
 .nil)
 .nil)
 (.cons (.ret (.call n_f_both_rows (.cons (.idx (.bor 0) (.lit (.int 1))) (.cons (.bin .mul (.tup (.cons (.idx (.bor 1) (.lit (.int 1))) .nil)) (.bi .len (.cons (.idx (.bor 0) (.lit (.int 1))) .nil))) .nil))))
 .nil))
 .nil)
 (.cons (.ifS (.cmp .ne (.idx (.bor 0) (.lit (.int 0))) (.idx (.bor 1) (.lit (.int 0))))
 (.cons (.ret (.lit (.non)))
 .nil)
 .nil)
 (.cons (.ifS (.cmp .eq (.idx (.bor 0) (.lit (.int 0))) (.lit (.str "whole")))
 (.cons (.asgN [4, 5] (.cons (.bi .max2 (.cons (.idx (.bor 0) (.lit (.int 1))) (.cons (.idx (.bor 1) (.lit (.int 1))) .nil))) (.cons (.bi .min2 (.cons (.idx (.bor 0) (.lit (.int 2))) (.cons (.idx (.bor 1) (.lit (.int 2))) .nil))) .nil)))
 (.cons (.ret (.ite (.cmp .le (.bor 4) (.bor 5)) (.tup (.cons (.lit (.str "whole")) (.cons (.var 4) (.cons (.var 5) .nil)))) (.lit (.non))))
 .nil))
 .nil)
 (.cons (.ifS (.cmp .eq (.idx (.bor 0) (.lit (.int 0))) (.lit (.str "pick")))
 (.cons (.asgO 2 (.comp (.var 6) (.many [6, 7]) .seq (.idx (.bor 1) (.lit (.int 1))) .no [6, 7] (.lit (.bl true))))
 (.cons (.asgO 3 (.bi .tuple (.cons (.comp (.var 8) (.one 8) .seq (.idx (.bor 0) (.lit (.int 1))) .no [8] (.cmp .in_ (.idx (.bor 8) (.lit (.int 0))) (.bor 2))) .nil)))
 (.cons (.fz 3)
 (.cons (.ret (.ite (.cmp .ne (.bor 3) (.tup .nil)) (.tup (.cons (.lit (.str "pick")) (.cons (.var 3) .nil))) (.lit (.non))))
 .nil))))
 .nil)
 (.cons (.ifS (.cmp .eq (.idx (.bor 0) (.lit (.int 0))) (.lit (.str "row")))
 (.cons (.ret (.ite (.cmp .eq (.bi .len (.cons (.idx (.bor 0) (.lit (.int 1))) .nil)) (.bi .len (.cons (.idx (.bor 1) (.lit (.int 1))) .nil))) (.call n_f_both_rows (.cons (.idx (.bor 0) (.lit (.int 1))) (.cons (.idx (.bor 1) (.lit (.int 1))) .nil))) (.lit (.non))))
 .nil)
 .nil)
 (.cons (.ret (.call n_f_both_many (.cons (.var 0) (.cons (.var 1) .nil))))
 .nil)))))))⟩
/-- both_rows (k04) -/
def f_both_rows : Fn := ⟨2, 5,
 (.cons (.asgO 2 (.bi .tuple (.cons (.comp (.call n_f_both_in (.cons (.var 3) (.cons (.var 4) .nil))) (.many [3, 4]) .zip (.bor 0) (.bor 1) [3, 4] (.lit (.bl true))) .nil)))
 (.cons (.fz 2)
 (.cons (.ret (.ite (.cmp .in_ (.lit (.non)) (.bor 2)) (.lit (.non)) (.tup (.cons (.lit (.str "row")) (.cons (.var 2) .nil)))))
 .nil)))⟩
/-- both_many (k04) -/
def f_both_many : Fn := ⟨2, 5,
 (.cons (.asgN [3, 4] (.cons (.bi .max2 (.cons (.idx (.bor 0) (.lit (.int 2))) (.cons (.idx (.bor 1) (.lit (.int 2))) .nil))) (.cons (.bi .min2 (.cons (.idx (.bor 0) (.lit (.int 3))) (.cons (.idx (.bor 1) (.lit (.int 3))) .nil))) .nil)))
 (.cons (.ifS (.cmp .gt (.bor 3) (.bor 4))
 (.cons (.ret (.lit (.non)))
 .nil)
 .nil)
 (.cons (.asgO 2 (.call n_f_both_in (.cons (.idx (.bor 0) (.lit (.int 1))) (.cons (.idx (.bor 1) (.lit (.int 1))) .nil))))
 (.cons (.ifS (.cmp .is (.bor 2) (.lit (.non)))
 (.cons (.ret (.ite (.cmp .eq (.bor 3) (.lit (.int 0))) (.tup (.cons (.lit (.str "many")) (.cons (.idx (.bor 0) (.lit (.int 1))) (.cons (.lit (.int 0)) (.cons (.lit (.int 0)) .nil))))) (.lit (.non))))
 .nil)
 .nil)
 (.cons (.fz 2)
 (.cons (.ret (.tup (.cons (.lit (.str "many")) (.cons (.var 2) (.cons (.var 3) (.cons (.var 4) .nil))))))
 .nil))))))⟩
/-- both (k04) -/
def f_both : Fn := ⟨2, 2,
 (.cons (.exp (.call n_f_look_kind (.cons (.var 0) .nil)))
 (.cons (.exp (.call n_f_look_kind (.cons (.var 1) .nil)))
 (.cons (.ret (.call n_f_both_in (.cons (.var 0) (.cons (.var 1) .nil))))
 .nil)))⟩
/-- is_within (k04) -/
def f_is_within : Fn := ⟨2, 3,
 (.cons (.asgO 2 (.call n_f_both (.cons (.var 0) (.cons (.var 1) .nil))))
 (.cons (.fz 2)
 (.cons (.ret (.and (.cmp .isnot (.bor 2) (.lit (.non))) (.cmp .eq (.call n_f_count (.cons (.var 2) .nil)) (.call n_f_count (.cons (.var 0) .nil)))))
 .nil)))⟩
/-- are_apart (k04) -/
def f_are_apart : Fn := ⟨2, 2,
 (.cons (.ret (.cmp .is (.call n_f_both (.cons (.var 0) (.cons (.var 1) .nil))) (.lit (.non))))
 .nil)⟩
/-- divisor (k04) -/
def f_divisor : Fn := ⟨2, 2,
 (.cons (.whl (.cmp .ne (.bor 1) (.lit (.int 0)))
 (.cons (.asgN [0, 1] (.cons (.var 1) (.cons (.bin .mod (.bor 0) (.bor 1)) .nil)))
 .nil))
 (.cons (.ret (.bi .abs (.cons (.bor 0) .nil)))
 .nil))⟩
/-- share (k04) -/
def f_share : Fn := ⟨2, 3,
 (.cons (.asgO 2 (.call n_f_divisor (.cons (.var 0) (.cons (.var 1) .nil))))
 (.cons (.ret (.tup (.cons (.bin .fdiv (.bor 0) (.bor 2)) (.cons (.bin .fdiv (.bor 1) (.bor 2)) .nil))))
 .nil))⟩
/-- times (k04) -/
def f_times : Fn := ⟨2, 2,
 (.cons (.ret (.call n_f_share (.cons (.bin .mul (.idx (.bor 0) (.lit (.int 0))) (.idx (.bor 1) (.lit (.int 0)))) (.cons (.bin .mul (.idx (.bor 0) (.lit (.int 1))) (.idx (.bor 1) (.lit (.int 1)))) .nil))))
 .nil)⟩
/-- plus (k04) -/
def f_plus : Fn := ⟨2, 2,
 (.cons (.ret (.call n_f_share (.cons (.bin .add (.bin .mul (.idx (.bor 0) (.lit (.int 0))) (.idx (.bor 1) (.lit (.int 1)))) (.bin .mul (.idx (.bor 1) (.lit (.int 0))) (.idx (.bor 0) (.lit (.int 1))))) (.cons (.bin .mul (.idx (.bor 0) (.lit (.int 1))) (.idx (.bor 1) (.lit (.int 1)))) .nil))))
 .nil)⟩
/-- share_in (k04) -/
def f_share_in : Fn := ⟨2, 8,
 (.cons (.ifS (.cmp .eq (.idx (.bor 0) (.lit (.int 0))) (.lit (.str "whole")))
 (.cons (.ret (.tup (.cons (.lit (.int 1)) (.cons (.bin .add (.bin .sub (.idx (.bor 0) (.lit (.int 2))) (.idx (.bor 0) (.lit (.int 1)))) (.lit (.int 1))) .nil))))
 .nil)
 .nil)
 (.cons (.ifS (.cmp .eq (.idx (.bor 0) (.lit (.int 0))) (.lit (.str "pick")))
 (.cons (.opq)
 (.cons (.ret (.call n_f_share (.cons (.idx (.bor 4) (.bor 1)) (.cons (.bi .sum (.cons (.comp (.idx (.bor 4) (.bor 7)) (.one 7) .seq (.bor 4) .no [7] (.lit (.bl true))) .nil)) .nil))))
 .nil))
 .nil)
 (.cons (.asgO 2 (.ite (.cmp .eq (.idx (.bor 0) (.lit (.int 0))) (.lit (.str "row"))) (.tup (.cons (.lit (.int 1)) (.cons (.lit (.int 1)) .nil))) (.tup (.cons (.lit (.int 1)) (.cons (.bin .add (.bin .sub (.idx (.bor 0) (.lit (.int 3))) (.idx (.bor 0) (.lit (.int 2)))) (.lit (.int 1))) .nil)))))
 (.cons (.asgO 3 (.ite (.cmp .eq (.idx (.bor 0) (.lit (.int 0))) (.lit (.str "row"))) (.idx (.bor 0) (.lit (.int 1))) (.bin .mul (.tup (.cons (.idx (.bor 0) (.lit (.int 1))) .nil)) (.bi .len (.cons (.bor 1) .nil)))))
 (.cons (.fz 3)
 (.cons (.forS (.many [5, 6]) .zip (.var 3) (.var 1)
 (.cons (.fz 2)
 (.cons (.asgO 2 (.call n_f_times (.cons (.var 2) (.cons (.call n_f_share_in (.cons (.var 5) (.cons (.var 6) .nil))) .nil))))
 .nil)))
 (.cons (.ret (.bor 2))
 .nil)))))))⟩
/-- share_of (k04) -/
def f_share_of : Fn := ⟨2, 2,
 (.cons (.exp (.call n_f_look_worth (.cons (.var 0) (.cons (.var 1) .nil))))
 (.cons (.ret (.call n_f_share_in (.cons (.var 0) (.cons (.var 1) .nil))))
 .nil))⟩
/-- mean_in (k04) -/
def f_mean_in : Fn := ⟨1, 3,
 (.cons (.ifS (.cmp .eq (.idx (.bor 0) (.lit (.int 0))) (.lit (.str "whole")))
 (.cons (.ret (.call n_f_share (.cons (.bin .add (.idx (.bor 0) (.lit (.int 1))) (.idx (.bor 0) (.lit (.int 2)))) (.cons (.lit (.int 2)) .nil))))
 .nil)
 .nil)
 (.cons (.ifS (.cmp .eq (.idx (.bor 0) (.lit (.int 0))) (.lit (.str "pick")))
 (.cons (.ret (.tup (.cons (.lit (.int 0)) (.cons (.lit (.int 1)) .nil))))
 .nil)
 .nil)
 (.cons (.ifS (.cmp .eq (.idx (.bor 0) (.lit (.int 0))) (.lit (.str "row")))
 (.cons (.asgO 1 (.tup (.cons (.lit (.int 0)) (.cons (.lit (.int 1)) .nil))))
 (.cons (.forS (.one 2) .seq (.idx (.bor 0) (.lit (.int 1))) .no
 (.cons (.fz 1)
 (.cons (.asgO 1 (.call n_f_plus (.cons (.var 1) (.cons (.call n_f_mean_in (.cons (.var 2) .nil)) .nil))))
 .nil)))
 (.cons (.ret (.bor 1))
 .nil)))
 .nil)
 (.cons (.ret (.call n_f_times (.cons (.call n_f_mean_in (.cons (.idx (.bor 0) (.lit (.int 1))) .nil)) (.cons (.tup (.cons (.bin .add (.idx (.bor 0) (.lit (.int 2))) (.idx (.bor 0) (.lit (.int 3)))) (.cons (.lit (.int 2)) .nil))) .nil))))
 .nil))))⟩
/-- mean (k04) -/
def f_mean : Fn := ⟨1, 1,
 (.cons (.exp (.call n_f_look_kind (.cons (.var 0) .nil)))
 (.cons (.ret (.call n_f_mean_in (.cons (.var 0) .nil)))
 .nil))⟩
/-- law_about (k04) -/
def f_law_about : Fn := ⟨1, 2,
 (.cons (.ifS (.isi (.bor 0) .tuple)
 (.cons (.ret (.bi .tuple (.cons (.rev (.comp (.call n_f_law_about (.cons (.var 1) .nil)) (.one 1) .seq (.bor 0) .no [1] (.lit (.bl true)))) .nil)))
 .nil)
 .nil)
 (.cons (.ret (.ite (.isi (.bor 0) .str) (.var 0) (.bin .sub (.lit (.int 0)) (.bor 0))))
 .nil))⟩
/-- law (k04) -/
def law_k04 : Fn := ⟨1, 11,
 (.cons (.asgN [4, 5] (.cons (.call n_f_law_small (.cons (.var 0) (.cons (.lit (.int 0)) (.cons (.lit (.int 60)) .nil)))) (.cons (.call n_f_law_small (.cons (.var 0) (.cons (.lit (.int 90000)) (.cons (.lit (.int 60)) .nil)))) .nil)))
 (.cons (.asgO 1 (.call n_f_mirrored (.cons (.var 4) .nil)))
 (.cons (.fz 1)
 (.cons (.ifS (.or (.cmp .isnot (.call n_f_is_kind (.cons (.var 1) .nil)) (.lit (.bl true))) (.cmp .ne (.call n_f_mirrored (.cons (.var 1) .nil)) (.bor 4)))
 (.cons (.ret (.lit (.bl false)))
 .nil)
 .nil)
 (.cons (.fz 1)
 (.cons (.ifS (.or (.cmp .ne (.call n_f_how_many (.cons (.var 1) .nil)) (.call n_f_how_many (.cons (.var 4) .nil))) (.cmp .ne (.call n_f_depth (.cons (.var 1) .nil)) (.call n_f_depth (.cons (.var 4) .nil))))
 (.cons (.ret (.lit (.bl false)))
 .nil)
 .nil)
 (.cons (.asgO 2 (.lst .nil))
 (.cons (.forS (.one 3) .seq (.fr (.call n_f_law_all (.cons (.var 4) .nil))) .no
 (.cons (.asgO 6 (.call n_f_mirrored_worth (.cons (.var 4) (.cons (.var 3) .nil))))
 (.cons (.fz 1)
 (.cons (.fz 6)
 (.cons (.ifS (.or (.cmp .ne (.bor 6) (.call n_f_law_about (.cons (.var 3) .nil))) (.or (.cmp .isnot (.call n_f_is_worth (.cons (.var 1) (.cons (.var 6) .nil))) (.lit (.bl true))) (.cmp .ne (.call n_f_mirrored_worth (.cons (.var 1) (.cons (.var 6) .nil))) (.bor 3))))
 (.cons (.ret (.lit (.bl false)))
 .nil)
 .nil)
 (.cons (.fz 1)
 (.cons (.fz 6)
 (.cons (.ifS (.cmp .ne (.call n_f_share_of (.cons (.var 1) (.cons (.var 6) .nil))) (.call n_f_share_of (.cons (.var 4) (.cons (.var 3) .nil))))
 (.cons (.ret (.lit (.bl false)))
 .nil)
 .nil)
 (.cons (.fz 6)
 (.cons (.app 2 (.var 6))
 .nil))))))))))
 (.cons (.fz 1)
 (.cons (.ifS (.or (.cmp .ne (.comp (.var 3) (.one 3) .seq (.call n_f_all_worths (.cons (.var 1) .nil)) .no [3] (.cmp .notin (.bor 3) (.bor 2))) (.lst .nil)) (.cmp .ne (.call n_f_words_in (.cons (.var 1) .nil)) (.call n_f_words_in (.cons (.var 4) .nil))))
 (.cons (.ret (.lit (.bl false)))
 .nil)
 .nil)
 (.cons (.unp [7, 8] (.call n_f_reach (.cons (.var 4) .nil)))
 (.cons (.unp [9, 10] (.call n_f_mean (.cons (.var 4) .nil)))
 (.cons (.fz 1)
 (.cons (.ifS (.or (.cmp .ne (.call n_f_reach (.cons (.var 1) .nil)) (.tup (.cons (.bin .sub (.lit (.int 0)) (.bor 8)) (.cons (.bin .sub (.lit (.int 0)) (.bor 7)) .nil)))) (.cmp .ne (.call n_f_mean (.cons (.var 1) .nil)) (.tup (.cons (.bin .sub (.lit (.int 0)) (.bor 9)) (.cons (.var 10) .nil)))))
 (.cons (.ret (.lit (.bl false)))
 .nil)
 .nil)
 (.cons (.fz 1)
 (.cons (.ifS (.cmp .ne (.call n_f_is_within (.cons (.var 1) (.cons (.call n_f_mirrored (.cons (.var 5) .nil)) .nil))) (.call n_f_is_within (.cons (.var 4) (.cons (.var 5) .nil))))
 (.cons (.ret (.lit (.bl false)))
 .nil)
 .nil)
 (.cons (.fz 1)
 (.cons (.ret (.cmp .eq (.call n_f_are_apart (.cons (.var 1) (.cons (.call n_f_mirrored (.cons (.var 5) .nil)) .nil))) (.call n_f_are_apart (.cons (.var 4) (.cons (.var 5) .nil)))))
 .nil))))))))))))))))))⟩
/-- worth_of (k10) -/
def f_worth_of : Fn := ⟨2, 2,
 (.cons (.exp (.call n_f_look_kind (.cons (.var 0) .nil)))
 (.cons (.ifS (.not (.chain .le .lt (.lit (.int 0)) (.bor 1) (.call n_f_count (.cons (.var 0) .nil))))
 (.cons (.raise 2)
 .nil)
 .nil)
 (.cons (.ret (.call n_f_of_number (.cons (.var 0) (.cons (.var 1) .nil))))
 .nil)))⟩
/-- number_in (k10) -/
def f_number_in : Fn := ⟨2, 6,
 (.cons (.ifS (.cmp .eq (.idx (.bor 0) (.lit (.int 0))) (.lit (.str "whole")))
 (.cons (.ret (.bin .sub (.bor 1) (.idx (.bor 0) (.lit (.int 1)))))
 .nil)
 .nil)
 (.cons (.ifS (.cmp .eq (.idx (.bor 0) (.lit (.int 0))) (.lit (.str "pick")))
 (.cons (.ret (.meth .index (.comp (.var 4) (.many [4, 5]) .seq (.idx (.bor 0) (.lit (.int 1))) .no [4, 5] (.lit (.bl true))) (.cons (.bor 1) .nil)))
 .nil)
 .nil)
 (.cons (.ifS (.cmp .eq (.idx (.bor 0) (.lit (.int 0))) (.lit (.str "row")))
 (.cons (.ret (.call n_f_number_of_parts (.cons (.bi .list (.cons (.idx (.bor 0) (.lit (.int 1))) .nil)) (.cons (.var 1) .nil))))
 .nil)
 .nil)
 (.cons (.asgO 2 (.bi .sum (.cons (.comp (.call n_f_power (.cons (.call n_f_count (.cons (.idx (.bor 0) (.lit (.int 1))) .nil)) (.cons (.var 3) .nil))) (.one 3) .range2 (.idx (.bor 0) (.lit (.int 2))) (.bi .len (.cons (.bor 1) .nil)) [3] (.lit (.bl true))) .nil)))
 (.cons (.ret (.bin .add (.bor 2) (.call n_f_number_of_parts (.cons (.bin .mul (.lst (.cons (.idx (.bor 0) (.lit (.int 1))) .nil)) (.bi .len (.cons (.bor 1) .nil))) (.cons (.var 1) .nil)))))
 .nil)))))⟩
/-- number_of_parts (k10) -/
def f_number_of_parts : Fn := ⟨2, 5,
 (.cons (.asgO 2 (.lit (.int 0)))
 (.cons (.forS (.many [3, 4]) .zip (.var 0) (.var 1)
 (.cons (.asgO 2 (.bin .add (.bin .mul (.bor 2) (.call n_f_count (.cons (.var 3) .nil))) (.call n_f_number_in (.cons (.var 3) (.cons (.var 4) .nil)))))
 .nil))
 (.cons (.ret (.bor 2))
 .nil)))⟩
/-- number_of (k10) -/
def f_number_of : Fn := ⟨2, 2,
 (.cons (.exp (.call n_f_look_worth (.cons (.var 0) (.cons (.var 1) .nil))))
 (.cons (.ret (.call n_f_number_in (.cons (.var 0) (.cons (.var 1) .nil))))
 .nil))⟩
/-- law_tried (k10) -/
def f_law_tried_2 : Fn := ⟨3, 6,
 (.cons (.asgO 3 (.lit (.non)))
 (.cons (.asgO 4 (.lit (.non)))
 (.cons (.tryK (.ite (.cmp .eq (.bor 0) (.lit (.int 0))) (.asg 4 (.call n_f_how_many (.cons (.var 1) .nil))) (.ite (.cmp .eq (.bor 0) (.lit (.int 1))) (.asg 4 (.call n_f_worth_of (.cons (.var 1) (.cons (.var 2) .nil)))) (.asg 4 (.ite (.cmp .eq (.bor 0) (.lit (.int 2))) (.call n_f_number_of (.cons (.var 1) (.cons (.var 2) .nil))) (.call n_f_all_worths (.cons (.var 1) .nil)))))) 5 3 [1, 2, 4])
 (.cons (.ifS (.cmp .is (.bor 3) (.lit (.non)))
 (.cons (.ret (.bor 4))
 .nil)
 .nil)
 (.cons (.ret (.call n_f_law_word (.cons (.var 3) .nil)))
 .nil)))))⟩
/-- law (k10) -/
def law_k10 : Fn := ⟨1, 11,
 (.cons (.asgO 1 (.call n_f_law_small (.cons (.var 0) (.cons (.lit (.int 0)) (.cons (.lit (.int 120)) .nil)))))
 (.cons (.fz 1)
 (.cons (.asgO 2 (.call n_f_law_all (.cons (.var 1) .nil)))
 (.cons (.fz 1)
 (.cons (.ifS (.or (.cmp .ne (.call n_f_law_tried_2 (.cons (.lit (.int 0)) (.cons (.var 1) (.cons (.lit (.non)) .nil)))) (.bi .len (.cons (.bor 2) .nil))) (.cmp .ne (.call n_f_law_tried_2 (.cons (.lit (.int 3)) (.cons (.var 1) (.cons (.lit (.non)) .nil)))) (.bor 2)))
 (.cons (.ret (.lit (.bl false)))
 .nil)
 .nil)
 (.cons (.fz 1)
 (.cons (.asgO 3 (.call n_f_all_worths (.cons (.var 1) .nil)))
 (.cons (.app 3 (.lit (.non)))
 (.cons (.fz 1)
 (.cons (.ifS (.cmp .ne (.call n_f_all_worths (.cons (.var 1) .nil)) (.bor 2))
 (.cons (.ret (.lit (.bl false)))
 .nil)
 .nil)
 (.cons (.forS (.one 4) .range1 (.lit (.int 5)) .no
 (.cons (.asgO 9 (.idx (.lst (.cons (.lit (.int 0)) (.cons (.bin .sub (.bi .len (.cons (.bor 2) .nil)) (.lit (.int 1))) (.cons (.call n_f_law_pick (.cons (.var 0) (.cons (.bin .add (.lit (.int 4000)) (.bor 4)) (.cons (.bi .len (.cons (.bor 2) .nil)) .nil)))) .nil)))) (.bi .min2 (.cons (.bor 4) (.cons (.lit (.int 2)) .nil)))))
 (.cons (.fz 1)
 (.cons (.ifS (.or (.cmp .ne (.call n_f_law_tried_2 (.cons (.lit (.int 1)) (.cons (.var 1) (.cons (.var 9) .nil)))) (.idx (.bor 2) (.bor 9))) (.cmp .ne (.call n_f_law_tried_2 (.cons (.lit (.int 2)) (.cons (.var 1) (.cons (.idx (.bor 2) (.bor 9)) .nil)))) (.bor 9)))
 (.cons (.ret (.lit (.bl false)))
 .nil)
 .nil)
 .nil))))
 (.cons (.fz 1)
 (.cons (.ifS (.cmp .ne (.comp (.call n_f_law_tried_2 (.cons (.lit (.int 1)) (.cons (.var 1) (.cons (.var 9) .nil)))) (.one 9) .seq (.tup (.cons (.neg (.lit (.int 1))) (.cons (.bi .len (.cons (.bor 2) .nil)) .nil))) .no [9] (.lit (.bl true))) (.lst (.cons (.lit (.str "no worth")) (.cons (.lit (.str "no worth")) .nil))))
 (.cons (.ret (.lit (.bl false)))
 .nil)
 .nil)
 (.cons (.asgO 5 (.call n_f_law_spoilt_thing (.cons (.var 0) (.cons (.lit (.int 4010)) (.cons (.idx (.bor 2) (.call n_f_law_pick (.cons (.var 0) (.cons (.lit (.int 4009)) (.cons (.bi .len (.cons (.bor 2) .nil)) .nil))))) .nil)))))
 (.cons (.fz 1)
 (.cons (.fz 5)
 (.cons (.ifS (.and (.cmp .notin (.bor 5) (.bor 2)) (.cmp .ne (.call n_f_law_tried_2 (.cons (.lit (.int 2)) (.cons (.var 1) (.cons (.var 5) .nil)))) (.lit (.str "no worth"))))
 (.cons (.ret (.lit (.bl false)))
 .nil)
 .nil)
 (.cons (.asgO 6 (.tup (.cons (.lit (.str "row")) (.cons (.tup (.cons (.tup (.cons (.lit (.str "whole")) (.cons (.lit (.int 0)) (.cons (.lit (.int 19)) .nil)))) (.cons (.tup (.cons (.lit (.str "whole")) (.cons (.lit (.int 1)) (.cons (.bin .add (.lit (.int 5)) (.call n_f_law_pick (.cons (.var 0) (.cons (.lit (.int 4020)) (.cons (.lit (.int 2)) .nil))))) .nil)))) (.cons (.tup (.cons (.lit (.str "whole")) (.cons (.lit (.int 0)) (.cons (.lit (.int 4)) .nil)))) .nil)))) .nil))))
 (.cons (.asgO 7 (.call n_f_law_size (.cons (.var 6) .nil)))
 (.cons (.ifS (.or (.cmp .ne (.call n_f_law_tried_2 (.cons (.lit (.int 0)) (.cons (.var 6) (.cons (.lit (.non)) .nil)))) (.bor 7)) (.and (.cmp .gt (.bor 7) (.lit (.int 500))) (.cmp .ne (.call n_f_law_tried_2 (.cons (.lit (.int 3)) (.cons (.var 6) (.cons (.lit (.non)) .nil)))) (.lit (.str "too many")))))
 (.cons (.ret (.lit (.bl false)))
 .nil)
 .nil)
 (.cons (.ifS (.and (.cmp .eq (.bor 7) (.lit (.int 500))) (.and (.cmp .eq (.call n_f_law_pick (.cons (.var 0) (.cons (.lit (.int 4021)) (.cons (.lit (.int 8)) .nil)))) (.lit (.int 0))) (.cmp .ne (.bi .len (.cons (.call n_f_law_tried_2 (.cons (.lit (.int 3)) (.cons (.var 6) (.cons (.lit (.non)) .nil)))) .nil)) (.lit (.int 500)))))
 (.cons (.ret (.lit (.bl false)))
 .nil)
 .nil)
 (.cons (.fz 1)
 (.cons (.asgO 8 (.call n_f_law_spoilt_thing (.cons (.var 0) (.cons (.lit (.int 4030)) (.cons (.var 1) .nil)))))
 (.cons (.fz 8)
 (.cons (.ret (.or (.call n_f_law_is_kind (.cons (.var 8) (.cons (.lit (.int 3)) .nil))) (.cmp .eq (.comp (.call n_f_law_tried_2 (.cons (.var 10) (.cons (.var 8) (.cons (.lit (.non)) .nil)))) (.one 10) .range1 (.lit (.int 4)) .no [10] (.lit (.bl true))) (.bin .mul (.lst (.cons (.lit (.str "no kind")) .nil)) (.lit (.int 4))))))
 .nil)))))))))))))))))))))))))⟩
/-- law_tried (k20) -/
def f_law_tried_3 : Fn := ⟨3, 6,
 (.cons (.asgO 3 (.lit (.non)))
 (.cons (.asgO 4 (.lit (.non)))
 (.cons (.tryK (.asg 4 (.ite (.cmp .eq (.bor 0) (.lit (.int 0))) (.call n_f_share_of (.cons (.var 1) (.cons (.var 2) .nil))) (.call n_f_mean (.cons (.var 1) .nil)))) 5 3 [1, 2])
 (.cons (.ifS (.cmp .is (.bor 3) (.lit (.non)))
 (.cons (.ret (.bor 4))
 .nil)
 .nil)
 (.cons (.ret (.call n_f_law_word (.cons (.var 3) .nil)))
 .nil)))))⟩
/-- law_lowest (k20) -/
def f_law_lowest : Fn := ⟨2, 4,
 (.cons (.asgN [2, 3] (.cons (.bi .abs (.cons (.bor 0) .nil)) (.cons (.var 1) .nil)))
 (.cons (.whl (.cmp .ne (.bor 3) (.lit (.int 0)))
 (.cons (.asgN [2, 3] (.cons (.var 3) (.cons (.bin .mod (.bor 2) (.bor 3)) .nil)))
 .nil))
 (.cons (.ret (.tup (.cons (.bin .fdiv (.bor 0) (.bor 2)) (.cons (.bin .fdiv (.bor 1) (.bor 2)) .nil))))
 .nil)))⟩
/-- law_share (k20) -/
def f_law_share : Fn := ⟨2, 9,
 (.cons (.ifS (.cmp .eq (.idx (.bor 0) (.lit (.int 0))) (.lit (.str "whole")))
 (.cons (.ret (.tup (.cons (.lit (.int 1)) (.cons (.bin .add (.bin .sub (.idx (.bor 0) (.lit (.int 2))) (.idx (.bor 0) (.lit (.int 1)))) (.lit (.int 1))) .nil))))
 .nil)
 .nil)
 (.cons (.ifS (.cmp .eq (.idx (.bor 0) (.lit (.int 0))) (.lit (.str "pick")))
 (.cons (.opq)
 .nil)
 .nil)
 (.cons (.asgN [2, 3] (.cons (.lit (.int 1)) (.cons (.ite (.cmp .eq (.idx (.bor 0) (.lit (.int 0))) (.lit (.str "row"))) (.lit (.int 1)) (.bin .add (.bin .sub (.idx (.bor 0) (.lit (.int 3))) (.idx (.bor 0) (.lit (.int 2)))) (.lit (.int 1)))) .nil)))
 (.cons (.forS (.many [4, 5]) .enum (.var 1) .no
 (.cons (.asgO 6 (.call n_f_law_share (.cons (.ite (.cmp .eq (.idx (.bor 0) (.lit (.int 0))) (.lit (.str "row"))) (.idx (.idx (.bor 0) (.lit (.int 1))) (.bor 4)) (.idx (.bor 0) (.lit (.int 1)))) (.cons (.var 5) .nil))))
 (.cons (.asgN [2, 3] (.cons (.bin .mul (.bor 2) (.idx (.bor 6) (.lit (.int 0)))) (.cons (.bin .mul (.bor 3) (.idx (.bor 6) (.lit (.int 1)))) .nil)))
 .nil)))
 (.cons (.ret (.tup (.cons (.var 2) (.cons (.var 3) .nil))))
 .nil)))))⟩
/-- law_total (k20) -/
def f_law_total : Fn := ⟨1, 2,
 (.cons (.ifS (.isi (.bor 0) .tuple)
 (.cons (.ret (.bi .sum (.cons (.comp (.call n_f_law_total (.cons (.var 1) .nil)) (.one 1) .seq (.bor 0) .no [1] (.lit (.bl true))) .nil)))
 .nil)
 .nil)
 (.cons (.ret (.ite (.isi (.bor 0) .int) (.var 0) (.lit (.int 0))))
 .nil))⟩
/-- law (k20) -/
def law_k20 : Fn := ⟨1, 14,
 (.cons (.asgO 1 (.call n_f_law_small (.cons (.var 0) (.cons (.lit (.int 0)) (.cons (.lit (.int 40)) .nil)))))
 (.cons (.fz 1)
 (.cons (.asgO 2 (.call n_f_law_all (.cons (.var 1) .nil)))
 (.cons (.fz 1)
 (.cons (.asgO 3 (.comp (.call n_f_law_share (.cons (.var 1) (.cons (.var 8) .nil))) (.one 8) .seq (.bor 2) .no [8] (.lit (.bl true))))
 (.cons (.fz 1)
 (.cons (.ifS (.cmp .ne (.comp (.call n_f_law_tried_3 (.cons (.lit (.int 0)) (.cons (.var 1) (.cons (.var 8) .nil)))) (.one 8) .seq (.bor 2) .no [8] (.lit (.bl true))) (.comp (.call n_f_law_lowest (.cons (.var 11) (.cons (.var 12) .nil))) (.many [11, 12]) .seq (.bor 3) .no [11, 12] (.lit (.bl true))))
 (.cons (.ret (.lit (.bl false)))
 .nil)
 .nil)
 (.cons (.unp [6, 7] (.tup (.cons (.tup (.cons (.lit (.int 0)) (.cons (.lit (.int 1)) .nil))) (.cons (.tup (.cons (.lit (.int 0)) (.cons (.lit (.int 1)) .nil))) .nil))))
 (.cons (.fz 2)
 (.cons (.fz 3)
 (.cons (.forS (.many [8, 9]) .zip (.var 2) (.var 3)
 (.cons (.asgO 6 (.call n_f_law_lowest (.cons (.bin .add (.bin .mul (.idx (.bor 6) (.lit (.int 0))) (.idx (.bor 9) (.lit (.int 1)))) (.bin .mul (.idx (.bor 9) (.lit (.int 0))) (.idx (.bor 6) (.lit (.int 1))))) (.cons (.bin .mul (.idx (.bor 6) (.lit (.int 1))) (.idx (.bor 9) (.lit (.int 1)))) .nil))))
 (.cons (.asgO 10 (.bin .mul (.call n_f_law_total (.cons (.var 8) .nil)) (.idx (.bor 9) (.lit (.int 0)))))
 (.cons (.asgO 7 (.call n_f_law_lowest (.cons (.bin .add (.bin .mul (.idx (.bor 7) (.lit (.int 0))) (.idx (.bor 9) (.lit (.int 1)))) (.bin .mul (.bor 10) (.idx (.bor 7) (.lit (.int 1))))) (.cons (.bin .mul (.idx (.bor 7) (.lit (.int 1))) (.idx (.bor 9) (.lit (.int 1)))) .nil))))
 .nil))))
 (.cons (.fz 1)
 (.cons (.ifS (.or (.cmp .ne (.bor 6) (.tup (.cons (.lit (.int 1)) (.cons (.lit (.int 1)) .nil)))) (.cmp .ne (.call n_f_law_tried_3 (.cons (.lit (.int 1)) (.cons (.var 1) (.cons (.lit (.non)) .nil)))) (.bor 7)))
 (.cons (.ret (.lit (.bl false)))
 .nil)
 .nil)
 (.cons (.asgO 4 (.call n_f_law_spoilt_thing (.cons (.var 0) (.cons (.lit (.int 4000)) (.cons (.idx (.bor 2) (.call n_f_law_pick (.cons (.var 0) (.cons (.lit (.int 4009)) (.cons (.bi .len (.cons (.bor 2) .nil)) .nil))))) .nil)))))
 (.cons (.fz 1)
 (.cons (.fz 4)
 (.cons (.ifS (.and (.cmp .notin (.bor 4) (.bor 2)) (.cmp .ne (.call n_f_law_tried_3 (.cons (.lit (.int 0)) (.cons (.var 1) (.cons (.var 4) .nil)))) (.lit (.str "no worth"))))
 (.cons (.ret (.lit (.bl false)))
 .nil)
 .nil)
 (.cons (.fz 1)
 (.cons (.asgO 5 (.call n_f_law_spoilt_thing (.cons (.var 0) (.cons (.lit (.int 4030)) (.cons (.var 1) .nil)))))
 (.cons (.fz 5)
 (.cons (.ret (.or (.call n_f_law_is_kind (.cons (.var 5) (.cons (.lit (.int 3)) .nil))) (.cmp .eq (.comp (.call n_f_law_tried_3 (.cons (.var 13) (.cons (.var 5) (.cons (.lit (.non)) .nil)))) (.one 13) .range1 (.lit (.int 2)) .no [13] (.lit (.bl true))) (.bin .mul (.lst (.cons (.lit (.str "no kind")) .nil)) (.lit (.int 2))))))
 .nil)))))))))))))))))))))⟩
/-- law_tried (k30) -/
def f_law_tried_4 : Fn := ⟨3, 6,
 (.cons (.asgO 3 (.lit (.non)))
 (.cons (.asgO 4 (.lit (.non)))
 (.cons (.opq)
 (.cons (.ifS (.cmp .is (.bor 3) (.lit (.non)))
 (.cons (.ret (.bor 4))
 .nil)
 .nil)
 (.cons (.ret (.call n_f_law_word (.cons (.var 3) .nil)))
 .nil)))))⟩
/-- law_near (k30) -/
def f_law_near : Fn := ⟨3, 10,
 (.cons (.asgO 3 (.call n_f_law_pick (.cons (.var 0) (.cons (.var 1) (.cons (.lit (.int 4)) .nil)))))
 (.cons (.ifS (.cmp .eq (.bor 3) (.lit (.int 3)))
 (.cons (.ret (.call n_f_law_leaf_kind (.cons (.var 0) (.cons (.bin .add (.bor 1) (.lit (.int 5))) .nil))))
 .nil)
 .nil)
 (.cons (.ifS (.cmp .eq (.idx (.bor 2) (.lit (.int 0))) (.lit (.str "whole")))
 (.cons (.asgO 4 (.bi .max2 (.cons (.neg (.lit (.int 20))) (.cons (.bi .min2 (.cons (.lit (.int 20)) (.cons (.bin .sub (.bin .add (.idx (.bor 2) (.lit (.int 1))) (.bor 3)) (.lit (.int 1))) .nil))) .nil))))
 (.cons (.fz 4)
 (.cons (.ret (.tup (.cons (.lit (.str "whole")) (.cons (.var 4) (.cons (.bi .max2 (.cons (.bor 4) (.cons (.bi .min2 (.cons (.lit (.int 20)) (.cons (.bin .sub (.bin .add (.idx (.bor 2) (.lit (.int 2))) (.call n_f_law_pick (.cons (.var 0) (.cons (.bin .add (.bor 1) (.lit (.int 1))) (.cons (.lit (.int 3)) .nil))))) (.lit (.int 1))) .nil))) .nil))) .nil)))))
 .nil)))
 .nil)
 (.cons (.ifS (.cmp .eq (.idx (.bor 2) (.lit (.int 0))) (.lit (.str "pick")))
 (.cons (.asgO 5 (.ite (.cmp .gt (.bor 3) (.lit (.int 0))) (.slice (.idx (.bor 2) (.lit (.int 1))) (.call n_f_law_pick (.cons (.var 0) (.cons (.bin .add (.bor 1) (.lit (.int 1))) (.cons (.bi .len (.cons (.idx (.bor 2) (.lit (.int 1))) .nil)) .nil)))) .no) (.rev (.idx (.bor 2) (.lit (.int 1))))))
 (.cons (.ret (.tup (.cons (.lit (.str "pick")) (.cons (.bi .tuple (.cons (.comp (.tup (.cons (.var 8) (.cons (.bin .add (.lit (.int 1)) (.bin .mod (.bor 9) (.lit (.int 20)))) .nil))) (.many [8, 9]) .seq (.bor 5) .no [8, 9] (.lit (.bl true))) .nil)) .nil))))
 .nil))
 .nil)
 (.cons (.ifS (.cmp .eq (.idx (.bor 2) (.lit (.int 0))) (.lit (.str "row")))
 (.cons (.asgO 6 (.call n_f_law_pick (.cons (.var 0) (.cons (.bin .add (.bor 1) (.lit (.int 1))) (.cons (.bi .len (.cons (.idx (.bor 2) (.lit (.int 1))) .nil)) .nil)))))
 (.cons (.ifS (.and (.cmp .eq (.bor 3) (.lit (.int 0))) (.cmp .eq (.comp (.var 7) (.one 7) .seq (.idx (.bor 2) (.lit (.int 1))) .no [7] (.cmp .ne (.bor 7) (.idx (.idx (.bor 2) (.lit (.int 1))) (.lit (.int 0))))) (.lst .nil)))
 (.cons (.ret (.tup (.cons (.lit (.str "many")) (.cons (.idx (.idx (.bor 2) (.lit (.int 1))) (.lit (.int 0))) (.cons (.bi .min2 (.cons (.lit (.int 1)) (.cons (.bi .len (.cons (.idx (.bor 2) (.lit (.int 1))) .nil)) .nil))) (.cons (.bi .len (.cons (.idx (.bor 2) (.lit (.int 1))) .nil)) .nil))))))
 .nil)
 .nil)
 (.cons (.ret (.tup (.cons (.lit (.str "row")) (.cons (.bin .add (.bin .add (.slice (.idx (.bor 2) (.lit (.int 1))) .no (.bor 6)) (.tup (.cons (.call n_f_law_near (.cons (.var 0) (.cons (.bin .add (.bor 1) (.lit (.int 7))) (.cons (.idx (.idx (.bor 2) (.lit (.int 1))) (.bor 6)) .nil)))) .nil))) (.slice (.idx (.bor 2) (.lit (.int 1))) (.bin .add (.bor 6) (.lit (.int 1))) .no)) .nil))))
 .nil)))
 .nil)
 (.cons (.ifS (.cmp .eq (.bor 3) (.lit (.int 0)))
 (.cons (.ret (.tup (.cons (.lit (.str "many")) (.cons (.call n_f_law_near (.cons (.var 0) (.cons (.bin .add (.bor 1) (.lit (.int 7))) (.cons (.idx (.bor 2) (.lit (.int 1))) .nil)))) (.cons (.idx (.bor 2) (.lit (.int 2))) (.cons (.idx (.bor 2) (.lit (.int 3))) .nil))))))
 .nil)
 .nil)
 (.cons (.ifS (.cmp .eq (.bor 3) (.lit (.int 1)))
 (.cons (.ret (.tup (.cons (.lit (.str "row")) (.cons (.bin .mul (.tup (.cons (.idx (.bor 2) (.lit (.int 1))) .nil)) (.bin .add (.lit (.int 1)) (.call n_f_law_pick (.cons (.var 0) (.cons (.bin .add (.bor 1) (.lit (.int 1))) (.cons (.lit (.int 3)) .nil)))))) .nil))))
 .nil)
 .nil)
 (.cons (.asgO 4 (.call n_f_law_pick (.cons (.var 0) (.cons (.bin .add (.bor 1) (.lit (.int 1))) (.cons (.bin .add (.idx (.bor 2) (.lit (.int 3))) (.lit (.int 1))) .nil)))))
 (.cons (.fz 4)
 (.cons (.ret (.tup (.cons (.lit (.str "many")) (.cons (.idx (.bor 2) (.lit (.int 1))) (.cons (.var 4) (.cons (.idx (.bor 2) (.lit (.int 3))) .nil))))))
 .nil))))))))))⟩
/-- law_sorted (k30) -/
def f_law_sorted : Fn := ⟨1, 3,
 (.cons (.ret (.comp (.var 2) (.many [1, 2]) .seq (.bi .sorted (.cons (.comp (.tup (.cons (.bi .str (.cons (.bor 2) .nil)) (.cons (.var 2) .nil))) (.one 2) .seq (.bor 0) .no [2] (.lit (.bl true))) .nil)) .no [1, 2] (.lit (.bl true))))
 .nil)⟩
/-- law_are_rows_common (k30) -/
def f_law_are_rows_common : Fn := ⟨1, 11,
 (.cons (.asgO 1 (.comp (.tup (.cons (.lit (.str "whole")) (.cons (.lit (.int 0)) (.cons (.bin .add (.lit (.int 1)) (.call n_f_law_pick (.cons (.var 0) (.cons (.bin .add (.lit (.int 7600)) (.bor 9)) (.cons (.lit (.int 3)) .nil))))) .nil)))) (.one 9) .range1 (.bin .add (.lit (.int 1)) (.call n_f_law_pick (.cons (.var 0) (.cons (.lit (.int 7610)) (.cons (.lit (.int 3)) .nil))))) .no [9] (.lit (.bl true))))
 (.cons (.asgN [4, 5] (.cons (.tup (.cons (.lit (.str "row")) (.cons (.bi .tuple (.cons (.bor 1) .nil)) .nil))) (.cons (.call n_f_law_pick (.cons (.var 0) (.cons (.lit (.int 7611)) (.cons (.lit (.int 4)) .nil)))) .nil)))
 (.cons (.asgO 2 (.tup (.cons (.lit (.str "many")) (.cons (.tup (.cons (.lit (.str "whole")) (.cons (.call n_f_law_pick (.cons (.var 0) (.cons (.lit (.int 7613)) (.cons (.lit (.int 3)) .nil)))) (.cons (.lit (.int 3)) .nil)))) (.cons (.var 5) (.cons (.bin .add (.bor 5) (.call n_f_law_pick (.cons (.var 0) (.cons (.lit (.int 7612)) (.cons (.bin .sub (.lit (.int 4)) (.bor 5)) .nil))))) .nil))))))
 (.cons (.asgO 3 (.comp (.var 10) (.one 10) .seq (.call n_f_law_all (.cons (.var 4) .nil)) .no [10] (.cmp .in_ (.bor 10) (.call n_f_law_all (.cons (.var 2) .nil)))))
 (.cons (.forS (.many [6, 7]) .seq (.tup (.cons (.tup (.cons (.var 4) (.cons (.var 2) .nil))) (.cons (.tup (.cons (.var 2) (.cons (.var 4) .nil))) .nil))) .no
 (.cons (.asgO 8 (.call n_f_law_tried_4 (.cons (.lit (.int 0)) (.cons (.var 6) (.cons (.var 7) .nil)))))
 (.cons (.fz 8)
 (.cons (.ifS (.or (.cmp .ne (.cmp .is (.bor 8) (.lit (.non))) (.cmp .eq (.bor 3) (.lst .nil))) (.and (.cmp .isnot (.bor 8) (.lit (.non))) (.cmp .isnot (.call n_f_is_kind (.cons (.var 8) .nil)) (.lit (.bl true)))))
 (.cons (.ret (.lit (.bl false)))
 .nil)
 .nil)
 (.cons (.fz 3)
 (.cons (.fz 8)
 (.cons (.ifS (.and (.cmp .isnot (.bor 8) (.lit (.non))) (.cmp .ne (.call n_f_law_sorted (.cons (.call n_f_law_all (.cons (.var 8) .nil)) .nil)) (.call n_f_law_sorted (.cons (.var 3) .nil))))
 (.cons (.ret (.lit (.bl false)))
 .nil)
 .nil)
 (.cons (.ifS (.or (.cmp .ne (.call n_f_law_tried_4 (.cons (.lit (.int 1)) (.cons (.var 6) (.cons (.var 7) .nil)))) (.cmp .eq (.bi .len (.cons (.bor 3) .nil)) (.bi .len (.cons (.call n_f_law_all (.cons (.var 6) .nil)) .nil)))) (.cmp .ne (.call n_f_law_tried_4 (.cons (.lit (.int 2)) (.cons (.var 6) (.cons (.var 7) .nil)))) (.cmp .eq (.bor 3) (.lst .nil))))
 (.cons (.ret (.lit (.bl false)))
 .nil)
 .nil)
 .nil))))))))
 (.cons (.ret (.lit (.bl true)))
 .nil))))))⟩
/-- law (k30) -/
def law_k30 : Fn := ⟨1, 17,
 (.cons (.asgO 1 (.tup (.cons (.lit (.str "whole")) (.cons (.lit (.int 0)) (.cons (.lit (.int 1)) .nil)))))
 (.cons (.ifS (.cmp .isnot (.call n_f_law_tried_4 (.cons (.lit (.int 0)) (.cons (.tup (.cons (.lit (.str "row")) (.cons (.bin .mul (.tup (.cons (.var 1) .nil)) (.lit (.int 2))) .nil))) (.cons (.tup (.cons (.lit (.str "row")) (.cons (.bin .mul (.tup (.cons (.var 1) .nil)) (.lit (.int 3))) .nil))) .nil)))) (.lit (.non)))
 (.cons (.ret (.lit (.bl false)))
 .nil)
 .nil)
 (.cons (.asgO 2 (.call n_f_law_small (.cons (.var 0) (.cons (.lit (.int 0)) (.cons (.lit (.int 60)) .nil)))))
 (.cons (.fz 2)
 (.cons (.asgO 3 (.call n_f_law_near (.cons (.var 0) (.cons (.lit (.int 4000)) (.cons (.var 2) .nil)))))
 (.cons (.fz 3)
 (.cons (.ifS (.or (.cmp .gt (.call n_f_law_size (.cons (.var 3) .nil)) (.lit (.int 130))) (.cmp .eq (.call n_f_law_pick (.cons (.var 0) (.cons (.lit (.int 4900)) (.cons (.lit (.int 5)) .nil)))) (.lit (.int 0))))
 (.cons (.asgO 3 (.call n_f_law_small (.cons (.var 0) (.cons (.lit (.int 6000)) (.cons (.lit (.int 60)) .nil)))))
 .nil)
 .nil)
 (.cons (.fz 2)
 (.cons (.fz 3)
 (.cons (.asgN [8, 9] (.cons (.call n_f_law_all (.cons (.var 2) .nil)) (.cons (.call n_f_law_all (.cons (.var 3) .nil)) .nil)))
 (.cons (.asgO 4 (.comp (.var 15) (.one 15) .seq (.bor 8) .no [15] (.cmp .in_ (.bor 15) (.bor 9))))
 (.cons (.fz 2)
 (.cons (.fz 3)
 (.cons (.asgN [5, 10] (.cons (.call n_f_law_tried_4 (.cons (.lit (.int 0)) (.cons (.var 2) (.cons (.var 3) .nil)))) (.cons (.call n_f_law_tried_4 (.cons (.lit (.int 0)) (.cons (.var 3) (.cons (.var 2) .nil)))) .nil)))
 (.cons (.ifS (.or (.cmp .ne (.cmp .is (.bor 5) (.lit (.non))) (.cmp .eq (.bor 4) (.lst .nil))) (.cmp .ne (.cmp .is (.bor 10) (.lit (.non))) (.cmp .eq (.bor 4) (.lst .nil))))
 (.cons (.ret (.lit (.bl false)))
 .nil)
 .nil)
 (.cons (.ifS (.cmp .isnot (.bor 5) (.lit (.non)))
 (.cons (.fz 4)
 (.cons (.ifS (.or (.cmp .isnot (.call n_f_is_kind (.cons (.var 5) .nil)) (.lit (.bl true))) (.cmp .ne (.call n_f_law_sorted (.cons (.call n_f_law_all (.cons (.var 5) .nil)) .nil)) (.call n_f_law_sorted (.cons (.var 4) .nil))))
 (.cons (.ret (.lit (.bl false)))
 .nil)
 .nil)
 (.cons (.fz 4)
 (.cons (.ifS (.cmp .ne (.call n_f_law_sorted (.cons (.call n_f_law_all (.cons (.var 10) .nil)) .nil)) (.call n_f_law_sorted (.cons (.var 4) .nil)))
 (.cons (.ret (.lit (.bl false)))
 .nil)
 .nil)
 .nil))))
 .nil)
 (.cons (.fz 2)
 (.cons (.fz 3)
 (.cons (.ifS (.or (.cmp .ne (.call n_f_law_tried_4 (.cons (.lit (.int 1)) (.cons (.var 2) (.cons (.var 3) .nil)))) (.cmp .eq (.bi .len (.cons (.bor 4) .nil)) (.bi .len (.cons (.bor 8) .nil)))) (.cmp .ne (.call n_f_law_tried_4 (.cons (.lit (.int 1)) (.cons (.var 3) (.cons (.var 2) .nil)))) (.cmp .eq (.bi .len (.cons (.bor 4) .nil)) (.bi .len (.cons (.bor 9) .nil)))))
 (.cons (.ret (.lit (.bl false)))
 .nil)
 .nil)
 (.cons (.fz 2)
 (.cons (.fz 3)
 (.cons (.ifS (.or (.cmp .ne (.call n_f_law_tried_4 (.cons (.lit (.int 2)) (.cons (.var 2) (.cons (.var 3) .nil)))) (.cmp .eq (.bor 4) (.lst .nil))) (.cmp .ne (.call n_f_law_sorted (.cons (.call n_f_law_all (.cons (.call n_f_law_tried_4 (.cons (.lit (.int 0)) (.cons (.var 2) (.cons (.var 2) .nil)))) .nil)) .nil)) (.call n_f_law_sorted (.cons (.var 8) .nil))))
 (.cons (.ret (.lit (.bl false)))
 .nil)
 .nil)
 (.cons (.asgN [11, 12] (.cons (.call n_f_law_pick (.cons (.var 0) (.cons (.lit (.int 7500)) (.cons (.lit (.int 2)) .nil)))) (.cons (.call n_f_law_pick (.cons (.var 0) (.cons (.lit (.int 7501)) (.cons (.lit (.int 2)) .nil)))) .nil)))
 (.cons (.asgN [13, 14] (.cons (.tup (.cons (.lit (.str "many")) (.cons (.tup (.cons (.lit (.str "whole")) (.cons (.lit (.int 0)) (.cons (.lit (.int 2)) .nil)))) (.cons (.var 11) (.cons (.lit (.int 2)) .nil))))) (.cons (.tup (.cons (.lit (.str "many")) (.cons (.tup (.cons (.lit (.str "pick")) (.cons (.tup (.cons (.tup (.cons (.lit (.str "a")) (.cons (.lit (.int 1)) .nil))) .nil)) .nil))) (.cons (.var 12) (.cons (.bin .add (.lit (.int 1)) (.bor 11)) .nil))))) .nil)))
 (.cons (.forS (.one 5) .seq (.tup (.cons (.call n_f_law_tried_4 (.cons (.lit (.int 0)) (.cons (.var 13) (.cons (.var 14) .nil)))) (.cons (.call n_f_law_tried_4 (.cons (.lit (.int 0)) (.cons (.var 14) (.cons (.var 13) .nil)))) .nil))) .no
 (.cons (.ifS (.cmp .ne (.cmp .is (.bor 5) (.lit (.non))) (.cmp .gt (.bin .add (.bor 11) (.bor 12)) (.lit (.int 0))))
 (.cons (.ret (.lit (.bl false)))
 .nil)
 .nil)
 (.cons (.ifS (.and (.cmp .isnot (.bor 5) (.lit (.non))) (.or (.cmp .isnot (.call n_f_is_kind (.cons (.var 5) .nil)) (.lit (.bl true))) (.cmp .ne (.call n_f_law_all (.cons (.var 5) .nil)) (.lst (.cons (.tup .nil) .nil)))))
 (.cons (.ret (.lit (.bl false)))
 .nil)
 .nil)
 .nil)))
 (.cons (.ifS (.not (.call n_f_law_are_rows_common (.cons (.var 0) .nil)))
 (.cons (.ret (.lit (.bl false)))
 .nil)
 .nil)
 (.cons (.fz 2)
 (.cons (.asgO 6 (.call n_f_law_spoilt_thing (.cons (.var 0) (.cons (.lit (.int 7000)) (.cons (.var 2) .nil)))))
 (.cons (.fz 6)
 (.cons (.ifS (.call n_f_law_is_kind (.cons (.var 6) (.cons (.lit (.int 3)) .nil)))
 (.cons (.ret (.lit (.bl true)))
 .nil)
 .nil)
 (.cons (.fz 2)
 (.cons (.fz 6)
 (.cons (.asgO 7 (.bin .add (.comp (.call n_f_law_tried_4 (.cons (.var 16) (.cons (.var 6) (.cons (.var 2) .nil)))) (.one 16) .range1 (.lit (.int 3)) .no [16] (.lit (.bl true))) (.comp (.call n_f_law_tried_4 (.cons (.var 16) (.cons (.var 2) (.cons (.var 6) .nil)))) (.one 16) .range1 (.lit (.int 3)) .no [16] (.lit (.bl true)))))
 (.cons (.ret (.cmp .eq (.bor 7) (.bin .mul (.lst (.cons (.lit (.str "no kind")) .nil)) (.lit (.int 6)))))
 .nil))))))))))))))))))))))))))))))))))⟩
/-- law_led (k31) -/
def f_law_led : Fn := ⟨3, 6,
 (.cons (.ifS (.cmp .eq (.idx (.bor 2) (.lit (.int 0))) (.lit (.str "whole")))
 (.cons (.asgO 3 (.bin .add (.idx (.bor 2) (.lit (.int 1))) (.call n_f_law_pick (.cons (.var 0) (.cons (.var 1) (.cons (.lit (.int 2)) .nil))))))
 (.cons (.ret (.tup (.cons (.lit (.str "whole")) (.cons (.bi .min2 (.cons (.bor 3) (.cons (.idx (.bor 2) (.lit (.int 2))) .nil))) (.cons (.idx (.bor 2) (.lit (.int 2))) .nil)))))
 .nil))
 .nil)
 (.cons (.ifS (.cmp .eq (.idx (.bor 2) (.lit (.int 0))) (.lit (.str "pick")))
 (.cons (.ret (.tup (.cons (.lit (.str "pick")) (.cons (.slice (.idx (.bor 2) (.lit (.int 1))) .no (.bi .max2 (.cons (.lit (.int 1)) (.cons (.bin .sub (.bi .len (.cons (.idx (.bor 2) (.lit (.int 1))) .nil)) (.call n_f_law_pick (.cons (.var 0) (.cons (.var 1) (.cons (.lit (.int 2)) .nil))))) .nil)))) .nil))))
 .nil)
 .nil)
 (.cons (.ifS (.cmp .eq (.idx (.bor 2) (.lit (.int 0))) (.lit (.str "row")))
 (.cons (.ret (.tup (.cons (.lit (.str "row")) (.cons (.bi .tuple (.cons (.comp (.call n_f_law_led (.cons (.var 0) (.cons (.bin .add (.bor 1) (.bin .mul (.lit (.int 7)) (.bor 4))) (.cons (.var 5) .nil)))) (.many [4, 5]) .enum (.idx (.bor 2) (.lit (.int 1))) .no [4, 5] (.lit (.bl true))) .nil)) .nil))))
 .nil)
 .nil)
 (.cons (.ret (.tup (.cons (.lit (.str "many")) (.cons (.call n_f_law_led (.cons (.var 0) (.cons (.bin .add (.bor 1) (.lit (.int 3))) (.cons (.idx (.bor 2) (.lit (.int 1))) .nil)))) (.cons (.bi .min2 (.cons (.bin .add (.idx (.bor 2) (.lit (.int 2))) (.call n_f_law_pick (.cons (.var 0) (.cons (.var 1) (.cons (.lit (.int 2)) .nil))))) (.cons (.idx (.bor 2) (.lit (.int 3))) .nil))) (.cons (.idx (.bor 2) (.lit (.int 3))) .nil))))))
 .nil))))⟩
/-- law_both (k31) -/
def f_law_both : Fn := ⟨2, 2,
 (.cons (.ret (.ite (.or (.cmp .is (.bor 0) (.lit (.non))) (.cmp .is (.bor 1) (.lit (.non)))) (.lit (.non)) (.call n_f_both (.cons (.var 0) (.cons (.var 1) .nil)))))
 .nil)⟩
/-- law_worths (k31) -/
def f_law_worths : Fn := ⟨1, 3,
 (.cons (.ifS (.cmp .is (.bor 0) (.lit (.non)))
 (.cons (.ret (.lst .nil))
 .nil)
 .nil)
 (.cons (.ret (.comp (.var 2) (.many [1, 2]) .seq (.bi .sorted (.cons (.comp (.tup (.cons (.bi .str (.cons (.bor 2) .nil)) (.cons (.var 2) .nil))) (.one 2) .seq (.call n_f_all_worths (.cons (.var 0) .nil)) .no [2] (.lit (.bl true))) .nil)) .no [1, 2] (.lit (.bl true))))
 .nil))⟩
/-- law (k31) -/
def law_k31 : Fn := ⟨1, 8,
 (.cons (.asgO 1 (.call n_f_law_small (.cons (.var 0) (.cons (.lit (.int 0)) (.cons (.lit (.int 30)) .nil)))))
 (.cons (.fz 1)
 (.cons (.asgO 2 (.call n_f_law_led (.cons (.var 0) (.cons (.lit (.int 4000)) (.cons (.var 1) .nil)))))
 (.cons (.fz 1)
 (.cons (.asgO 3 (.ite (.cmp .gt (.call n_f_law_pick (.cons (.var 0) (.cons (.lit (.int 4200)) (.cons (.lit (.int 3)) .nil)))) (.lit (.int 0))) (.call n_f_law_led (.cons (.var 0) (.cons (.lit (.int 4100)) (.cons (.var 1) .nil)))) (.call n_f_law_small (.cons (.var 0) (.cons (.lit (.int 4300)) (.cons (.lit (.int 30)) .nil))))))
 (.cons (.fz 1)
 (.cons (.fz 2)
 (.cons (.fz 3)
 (.cons (.asgO 4 (.call n_f_law_both (.cons (.call n_f_law_both (.cons (.var 1) (.cons (.var 2) .nil))) (.cons (.var 3) .nil))))
 (.cons (.fz 1)
 (.cons (.fz 2)
 (.cons (.fz 3)
 (.cons (.fz 4)
 (.cons (.ifS (.cmp .ne (.call n_f_law_worths (.cons (.var 4) .nil)) (.call n_f_law_worths (.cons (.call n_f_law_both (.cons (.var 1) (.cons (.call n_f_law_both (.cons (.var 2) (.cons (.var 3) .nil))) .nil))) .nil)))
 (.cons (.ret (.lit (.bl false)))
 .nil)
 .nil)
 (.cons (.fz 1)
 (.cons (.fz 2)
 (.cons (.fz 3)
 (.cons (.fz 4)
 (.cons (.ifS (.cmp .ne (.call n_f_law_worths (.cons (.var 4) .nil)) (.call n_f_law_worths (.cons (.call n_f_law_both (.cons (.call n_f_law_both (.cons (.var 3) (.cons (.var 1) .nil))) (.cons (.var 2) .nil))) .nil)))
 (.cons (.ret (.lit (.bl false)))
 .nil)
 .nil)
 (.cons (.fz 1)
 (.cons (.fz 2)
 (.cons (.ifS (.or (.cmp .isnot (.call n_f_is_within (.cons (.var 2) (.cons (.var 1) .nil))) (.lit (.bl true))) (.cmp .isnot (.call n_f_is_within (.cons (.call n_f_law_led (.cons (.var 0) (.cons (.lit (.int 4400)) (.cons (.var 2) .nil)))) (.cons (.var 1) .nil))) (.lit (.bl true))))
 (.cons (.ret (.lit (.bl false)))
 .nil)
 .nil)
 (.cons (.fz 1)
 (.cons (.fz 2)
 (.cons (.fz 3)
 (.cons (.forS (.many [5, 6]) .seq (.tup (.cons (.tup (.cons (.var 1) (.cons (.var 2) .nil))) (.cons (.tup (.cons (.var 2) (.cons (.var 3) .nil))) (.cons (.tup (.cons (.var 3) (.cons (.var 1) .nil))) .nil)))) .no
 (.cons (.asgO 7 (.call n_f_both (.cons (.var 5) (.cons (.var 6) .nil))))
 (.cons (.ifS (.or (.cmp .ne (.cmp .is (.bor 7) (.lit (.non))) (.call n_f_are_apart (.cons (.var 5) (.cons (.var 6) .nil)))) (.cmp .ne (.call n_f_are_apart (.cons (.var 5) (.cons (.var 6) .nil))) (.call n_f_are_apart (.cons (.var 6) (.cons (.var 5) .nil)))))
 (.cons (.ret (.lit (.bl false)))
 .nil)
 .nil)
 (.cons (.fz 7)
 (.cons (.ifS (.and (.cmp .isnot (.bor 7) (.lit (.non))) (.not (.and (.call n_f_is_within (.cons (.var 7) (.cons (.var 5) .nil))) (.call n_f_is_within (.cons (.var 7) (.cons (.var 6) .nil))))))
 (.cons (.ret (.lit (.bl false)))
 .nil)
 .nil)
 (.cons (.fz 7)
 (.cons (.ifS (.cmp .ne (.call n_f_is_within (.cons (.var 5) (.cons (.var 6) .nil))) (.and (.cmp .isnot (.bor 7) (.lit (.non))) (.cmp .eq (.call n_f_how_many (.cons (.var 7) .nil)) (.call n_f_how_many (.cons (.var 5) .nil)))))
 (.cons (.ret (.lit (.bl false)))
 .nil)
 .nil)
 .nil)))))))
 (.cons (.fz 1)
 (.cons (.fz 2)
 (.cons (.fz 3)
 (.cons (.ifS (.and (.call n_f_is_within (.cons (.var 3) (.cons (.var 2) .nil))) (.not (.call n_f_is_within (.cons (.var 3) (.cons (.var 1) .nil)))))
 (.cons (.ret (.lit (.bl false)))
 .nil)
 .nil)
 (.cons (.fz 1)
 (.cons (.fz 2)
 (.cons (.fz 3)
 (.cons (.fz 4)
 (.cons (.ret (.or (.cmp .is (.bor 4) (.lit (.non))) (.and (.call n_f_is_within (.cons (.var 4) (.cons (.var 1) .nil))) (.and (.call n_f_is_within (.cons (.var 4) (.cons (.var 2) .nil))) (.call n_f_is_within (.cons (.var 4) (.cons (.var 3) .nil)))))))
 .nil)))))))))))))))))))))))))))))))))))⟩
/-- is_rule_in (k40) -/
def f_is_rule_in : Fn := ⟨2, 4,
 (.cons (.ifS (.or (.cmp .eq (.bor 1) (.lit (.int 0))) (.or (.not (.isi (.bor 0) .tuple)) (.or (.cmp .eq (.bor 0) (.tup .nil)) (.not (.isi (.idx (.bor 0) (.lit (.int 0))) .str)))))
 (.cons (.ret (.lit (.bl false)))
 .nil)
 .nil)
 (.cons (.asgO 2 (.idx (.bor 0) (.lit (.int 0))))
 (.cons (.ifS (.cmp .in_ (.bor 2) (.tup (.cons (.lit (.str "rising")) (.cons (.lit (.str "unlike")) .nil))))
 (.cons (.ret (.cmp .eq (.bi .len (.cons (.bor 0) .nil)) (.lit (.int 1))))
 .nil)
 .nil)
 (.cons (.ifS (.and (.cmp .in_ (.bor 2) (.tup (.cons (.lit (.str "sum")) (.cons (.lit (.str "size")) .nil)))) (.cmp .eq (.bi .len (.cons (.bor 0) .nil)) (.lit (.int 3))))
 (.cons (.ret (.bi .all (.cons (.comp (.call n_f_is_whole (.cons (.var 3) (.cons (.bin .sub (.lit (.int 0)) (.glob 7 (.int 50))) (.cons (.glob 7 (.int 50)) .nil)))) (.one 3) .seq (.slice (.bor 0) (.lit (.int 1)) .no) .no [3] (.lit (.bl true))) .nil)))
 .nil)
 .nil)
 (.cons (.ifS (.and (.cmp .eq (.bor 2) (.lit (.str "word"))) (.cmp .eq (.bi .len (.cons (.bor 0) .nil)) (.lit (.int 2))))
 (.cons (.ret (.call n_f_is_word (.cons (.idx (.bor 0) (.lit (.int 1))) .nil)))
 .nil)
 .nil)
 (.cons (.ifS (.and (.cmp .eq (.bor 2) (.lit (.str "no"))) (.cmp .eq (.bi .len (.cons (.bor 0) .nil)) (.lit (.int 2))))
 (.cons (.ret (.call n_f_is_rule_in (.cons (.idx (.bor 0) (.lit (.int 1))) (.cons (.bin .sub (.bor 1) (.lit (.int 1))) .nil))))
 .nil)
 .nil)
 (.cons (.ifS (.or (.cmp .notin (.bor 2) (.tup (.cons (.lit (.str "all")) (.cons (.lit (.str "some")) .nil)))) (.cmp .ne (.bi .len (.cons (.bor 0) .nil)) (.lit (.int 3))))
 (.cons (.ret (.lit (.bl false)))
 .nil)
 .nil)
 (.cons (.ret (.and (.call n_f_is_rule_in (.cons (.idx (.bor 0) (.lit (.int 1))) (.cons (.bin .sub (.bor 1) (.lit (.int 1))) .nil))) (.call n_f_is_rule_in (.cons (.idx (.bor 0) (.lit (.int 2))) (.cons (.bin .sub (.bor 1) (.lit (.int 1))) .nil)))))
 .nil))))))))⟩
/-- is_rule (k40) -/
def f_is_rule : Fn := ⟨1, 1,
 (.cons (.ret (.call n_f_is_rule_in (.cons (.var 0) (.cons (.glob 5 (.int 3)) .nil))))
 .nil)⟩
/-- look_rule (k40) -/
def f_look_rule : Fn := ⟨1, 1,
 (.cons (.ifS (.not (.call n_f_is_rule (.cons (.var 0) .nil)))
 (.cons (.raise 3)
 .nil)
 .nil)
 .nil)⟩
/-- leaves (k40) -/
def f_leaves : Fn := ⟨1, 3,
 (.cons (.ifS (.not (.isi (.bor 0) .tuple))
 (.cons (.ret (.lst (.cons (.var 0) .nil)))
 .nil)
 .nil)
 (.cons (.asgO 1 (.lst .nil))
 (.cons (.forS (.one 2) .seq (.var 0) .no
 (.cons (.ext 1 (.call n_f_leaves (.cons (.var 2) .nil)))
 .nil))
 (.cons (.ret (.bor 1))
 .nil))))⟩
/-- numbers_in (k40) -/
def f_numbers_in : Fn := ⟨1, 2,
 (.cons (.ret (.comp (.var 1) (.one 1) .seq (.call n_f_leaves (.cons (.var 0) .nil)) .no [1] (.not (.isi (.bor 1) .str))))
 .nil)⟩
/-- parts_in (k40) -/
def f_parts_in : Fn := ⟨1, 1,
 (.cons (.ret (.ite (.isi (.bor 0) .tuple) (.bi .list (.cons (.bor 0) .nil)) (.lst (.cons (.var 0) .nil))))
 .nil)⟩
/-- does_keep (k40) -/
def f_does_keep : Fn := ⟨2, 6,
 (.cons (.asgO 2 (.idx (.bor 0) (.lit (.int 0))))
 (.cons (.ifS (.cmp .eq (.bor 2) (.lit (.str "sum")))
 (.cons (.ret (.chain .le .le (.idx (.bor 0) (.lit (.int 1))) (.bi .sum (.cons (.call n_f_numbers_in (.cons (.var 1) .nil)) .nil)) (.idx (.bor 0) (.lit (.int 2)))))
 .nil)
 .nil)
 (.cons (.ifS (.cmp .eq (.bor 2) (.lit (.str "size")))
 (.cons (.ret (.chain .le .le (.idx (.bor 0) (.lit (.int 1))) (.bi .len (.cons (.call n_f_parts_in (.cons (.var 1) .nil)) .nil)) (.idx (.bor 0) (.lit (.int 2)))))
 .nil)
 .nil)
 (.cons (.ifS (.cmp .eq (.bor 2) (.lit (.str "word")))
 (.cons (.ret (.cmp .in_ (.idx (.bor 0) (.lit (.int 1))) (.comp (.var 4) (.one 4) .seq (.call n_f_leaves (.cons (.var 1) .nil)) .no [4] (.isi (.bor 4) .str))))
 .nil)
 .nil)
 (.cons (.ifS (.cmp .eq (.bor 2) (.lit (.str "rising")))
 (.cons (.asgO 3 (.call n_f_numbers_in (.cons (.var 1) .nil)))
 (.cons (.ret (.bi .all (.cons (.comp (.cmp .le (.bor 4) (.bor 5)) (.many [4, 5]) .zip (.bor 3) (.slice (.bor 3) (.lit (.int 1)) .no) [4, 5] (.lit (.bl true))) .nil)))
 .nil))
 .nil)
 (.cons (.ifS (.cmp .eq (.bor 2) (.lit (.str "unlike")))
 (.cons (.ret (.cmp .eq (.setlen (.call n_f_parts_in (.cons (.var 1) .nil))) (.bi .len (.cons (.call n_f_parts_in (.cons (.var 1) .nil)) .nil))))
 .nil)
 .nil)
 (.cons (.ifS (.cmp .eq (.bor 2) (.lit (.str "no")))
 (.cons (.ret (.not (.call n_f_does_keep (.cons (.idx (.bor 0) (.lit (.int 1))) (.cons (.var 1) .nil)))))
 .nil)
 .nil)
 (.cons (.ifS (.cmp .eq (.bor 2) (.lit (.str "all")))
 (.cons (.ret (.and (.call n_f_does_keep (.cons (.idx (.bor 0) (.lit (.int 1))) (.cons (.var 1) .nil))) (.call n_f_does_keep (.cons (.idx (.bor 0) (.lit (.int 2))) (.cons (.var 1) .nil)))))
 .nil)
 .nil)
 (.cons (.ret (.or (.call n_f_does_keep (.cons (.idx (.bor 0) (.lit (.int 1))) (.cons (.var 1) .nil))) (.call n_f_does_keep (.cons (.idx (.bor 0) (.lit (.int 2))) (.cons (.var 1) .nil)))))
 .nil)))))))))⟩
/-- keeps (k40) -/
def f_keeps : Fn := ⟨2, 2,
 (.cons (.exp (.call n_f_look_rule (.cons (.var 0) .nil)))
 (.cons (.ret (.call n_f_does_keep (.cons (.var 0) (.cons (.var 1) .nil))))
 .nil))⟩
/-- law_rule (k40) -/
def f_law_rule : Fn := ⟨3, 6,
 (.cons (.asgO 3 (.call n_f_law_pick (.cons (.var 0) (.cons (.var 1) (.cons (.lit (.int 9)) .nil)))))
 (.cons (.ifS (.and (.cmp .gt (.bor 2) (.lit (.int 1))) (.cmp .gt (.bor 3) (.lit (.int 5))))
 (.cons (.asgO 5 (.call n_f_law_rule (.cons (.var 0) (.cons (.bin .add (.bin .mul (.lit (.int 2)) (.bor 1)) (.lit (.int 11))) (.cons (.bin .sub (.bor 2) (.lit (.int 1))) .nil)))))
 (.cons (.ifS (.cmp .eq (.bor 3) (.lit (.int 6)))
 (.cons (.fz 5)
 (.cons (.ret (.tup (.cons (.lit (.str "no")) (.cons (.var 5) .nil))))
 .nil))
 .nil)
 (.cons (.fz 5)
 (.cons (.ret (.tup (.cons (.idx (.lst (.cons (.lit (.str "all")) (.cons (.lit (.str "some")) .nil))) (.bin .sub (.bor 3) (.lit (.int 7)))) (.cons (.var 5) (.cons (.call n_f_law_rule (.cons (.var 0) (.cons (.bin .add (.bin .mul (.lit (.int 2)) (.bor 1)) (.lit (.int 24))) (.cons (.bin .sub (.bor 2) (.lit (.int 1))) .nil)))) .nil)))))
 .nil))))
 .nil)
 (.cons (.asgO 4 (.bin .sub (.call n_f_law_pick (.cons (.var 0) (.cons (.bin .add (.bor 1) (.lit (.int 1))) (.cons (.lit (.int 9)) .nil)))) (.lit (.int 4))))
 (.cons (.ifS (.cmp .lt (.bin .mod (.bor 3) (.lit (.int 6))) (.lit (.int 2)))
 (.cons (.fz 4)
 (.cons (.ret (.tup (.cons (.lit (.str "sum")) (.cons (.var 4) (.cons (.bin .sub (.bin .add (.bor 4) (.call n_f_law_pick (.cons (.var 0) (.cons (.bin .add (.bor 1) (.lit (.int 2))) (.cons (.lit (.int 5)) .nil))))) (.lit (.int 1))) .nil)))))
 .nil))
 .nil)
 (.cons (.ifS (.cmp .eq (.bin .mod (.bor 3) (.lit (.int 6))) (.lit (.int 2)))
 (.cons (.ret (.tup (.cons (.lit (.str "size")) (.cons (.call n_f_law_pick (.cons (.var 0) (.cons (.bin .add (.bor 1) (.lit (.int 1))) (.cons (.lit (.int 3)) .nil)))) (.cons (.call n_f_law_pick (.cons (.var 0) (.cons (.bin .add (.bor 1) (.lit (.int 2))) (.cons (.lit (.int 4)) .nil)))) .nil)))))
 .nil)
 .nil)
 (.cons (.ifS (.cmp .eq (.bin .mod (.bor 3) (.lit (.int 6))) (.lit (.int 3)))
 (.cons (.ret (.tup (.cons (.lit (.str "word")) (.cons (.idx (.lst (.cons (.lit (.str "a")) (.cons (.lit (.str "b")) (.cons (.lit (.str "ab")) (.cons (.lit (.str "zz")) .nil))))) (.call n_f_law_pick (.cons (.var 0) (.cons (.bin .add (.bor 1) (.lit (.int 1))) (.cons (.lit (.int 4)) .nil))))) .nil))))
 .nil)
 .nil)
 (.cons (.ret (.ite (.cmp .eq (.bin .mod (.bor 3) (.lit (.int 6))) (.lit (.int 4))) (.tup (.cons (.lit (.str "rising")) .nil)) (.tup (.cons (.lit (.str "unlike")) .nil))))
 .nil)))))))⟩
/-- law_leaves (k40) -/
def f_law_leaves : Fn := ⟨1, 3,
 (.cons (.ifS (.not (.isi (.bor 0) .tuple))
 (.cons (.ret (.lst (.cons (.var 0) .nil)))
 .nil)
 .nil)
 (.cons (.asgO 1 (.lst .nil))
 (.cons (.forS (.one 2) .seq (.var 0) .no
 (.cons (.asgO 1 (.bin .add (.bor 1) (.call n_f_law_leaves (.cons (.var 2) .nil))))
 .nil))
 (.cons (.ret (.bor 1))
 .nil))))⟩
/-- law_keeps (k40) -/
def f_law_keeps : Fn := ⟨2, 9,
 (.cons (.asgO 2 (.comp (.var 7) (.one 7) .seq (.call n_f_law_leaves (.cons (.var 1) .nil)) .no [7] (.isi (.bor 7) .int)))
 (.cons (.asgO 3 (.ite (.isi (.bor 1) .tuple) (.var 1) (.tup (.cons (.var 1) .nil))))
 (.cons (.ifS (.cmp .eq (.idx (.bor 0) (.lit (.int 0))) (.lit (.str "sum")))
 (.cons (.asgO 5 (.lit (.int 0)))
 (.cons (.fz 2)
 (.cons (.forS (.one 6) .seq (.var 2) .no
 (.cons (.asgO 5 (.bin .add (.bor 5) (.bor 6)))
 .nil))
 (.cons (.ret (.and (.cmp .le (.idx (.bor 0) (.lit (.int 1))) (.bor 5)) (.cmp .le (.bor 5) (.idx (.bor 0) (.lit (.int 2))))))
 .nil))))
 .nil)
 (.cons (.ifS (.cmp .eq (.idx (.bor 0) (.lit (.int 0))) (.lit (.str "size")))
 (.cons (.ret (.and (.cmp .ge (.bi .len (.cons (.bor 3) .nil)) (.idx (.bor 0) (.lit (.int 1)))) (.cmp .le (.bi .len (.cons (.bor 3) .nil)) (.idx (.bor 0) (.lit (.int 2))))))
 .nil)
 .nil)
 (.cons (.ifS (.cmp .eq (.idx (.bor 0) (.lit (.int 0))) (.lit (.str "word")))
 (.cons (.ret (.cmp .ne (.comp (.var 7) (.one 7) .seq (.call n_f_law_leaves (.cons (.var 1) .nil)) .no [7] (.cmp .eq (.bor 7) (.idx (.bor 0) (.lit (.int 1))))) (.lst .nil)))
 .nil)
 .nil)
 (.cons (.ifS (.cmp .eq (.idx (.bor 0) (.lit (.int 0))) (.lit (.str "rising")))
 (.cons (.ret (.cmp .eq (.bor 2) (.bi .sorted (.cons (.bor 2) .nil))))
 .nil)
 .nil)
 (.cons (.ifS (.cmp .eq (.idx (.bor 0) (.lit (.int 0))) (.lit (.str "unlike")))
 (.cons (.ret (.cmp .eq (.comp (.var 8) (.one 8) .range1 (.bi .len (.cons (.bor 3) .nil)) .no [8] (.cmp .in_ (.idx (.bor 3) (.bor 8)) (.slice (.bor 3) .no (.bor 8)))) (.lst .nil)))
 .nil)
 .nil)
 (.cons (.ifS (.cmp .eq (.idx (.bor 0) (.lit (.int 0))) (.lit (.str "no")))
 (.cons (.ret (.not (.call n_f_law_keeps (.cons (.idx (.bor 0) (.lit (.int 1))) (.cons (.var 1) .nil)))))
 .nil)
 .nil)
 (.cons (.asgO 4 (.comp (.call n_f_law_keeps (.cons (.var 7) (.cons (.var 1) .nil))) (.one 7) .seq (.slice (.bor 0) (.lit (.int 1)) .no) .no [7] (.lit (.bl true))))
 (.cons (.ret (.ite (.cmp .eq (.idx (.bor 0) (.lit (.int 0))) (.lit (.str "all"))) (.and (.idx (.bor 4) (.lit (.int 0))) (.idx (.bor 4) (.lit (.int 1)))) (.or (.idx (.bor 4) (.lit (.int 0))) (.idx (.bor 4) (.lit (.int 1))))))
 .nil))))))))))⟩
/-- law_tried (k40) -/
def f_law_tried_5 : Fn := ⟨2, 5,
 (.cons (.asgO 2 (.lit (.non)))
 (.cons (.asgO 3 (.lit (.non)))
 (.cons (.tryK (.asg 3 (.call n_f_keeps (.cons (.var 0) (.cons (.var 1) .nil)))) 4 2 [3])
 (.cons (.ifS (.cmp .is (.bor 2) (.lit (.non)))
 (.cons (.ret (.bor 3))
 .nil)
 .nil)
 (.cons (.ret (.call n_f_law_word (.cons (.var 2) .nil)))
 .nil)))))⟩
/-- law_is_rule (k40) -/
def f_law_is_rule : Fn := ⟨2, 5,
 (.cons (.ifS (.or (.not (.isi (.bor 0) .tuple)) (.or (.cmp .eq (.bor 0) (.tup .nil)) (.or (.not (.isi (.idx (.bor 0) (.lit (.int 0))) .str)) (.cmp .lt (.bor 1) (.lit (.int 1))))))
 (.cons (.ret (.lit (.bl false)))
 .nil)
 .nil)
 (.cons (.asgN [2, 3] (.cons (.idx (.bor 0) (.lit (.int 0))) (.cons (.slice (.bor 0) (.lit (.int 1)) .no) .nil)))
 (.cons (.ifS (.cmp .in_ (.bor 2) (.tup (.cons (.lit (.str "rising")) (.cons (.lit (.str "unlike")) .nil))))
 (.cons (.ret (.cmp .eq (.bor 3) (.tup .nil)))
 .nil)
 .nil)
 (.cons (.ifS (.cmp .in_ (.bor 2) (.tup (.cons (.lit (.str "sum")) (.cons (.lit (.str "size")) .nil))))
 (.cons (.ret (.and (.cmp .eq (.bi .len (.cons (.bor 3) .nil)) (.lit (.int 2))) (.cmp .eq (.comp (.var 4) (.one 4) .seq (.bor 3) .no [4] (.not (.call n_f_law_whole (.cons (.var 4) (.cons (.neg (.lit (.int 50))) (.cons (.lit (.int 50)) .nil)))))) (.lst .nil))))
 .nil)
 .nil)
 (.cons (.ifS (.cmp .eq (.bor 2) (.lit (.str "word")))
 (.cons (.ret (.and (.cmp .eq (.bi .len (.cons (.bor 3) .nil)) (.lit (.int 1))) (.call n_f_law_is_word (.cons (.idx (.bor 3) (.lit (.int 0))) .nil))))
 .nil)
 .nil)
 (.cons (.ifS (.cmp .notin (.tup (.cons (.var 2) (.cons (.bi .len (.cons (.bor 3) .nil)) .nil))) (.tup (.cons (.tup (.cons (.lit (.str "no")) (.cons (.lit (.int 1)) .nil))) (.cons (.tup (.cons (.lit (.str "all")) (.cons (.lit (.int 2)) .nil))) (.cons (.tup (.cons (.lit (.str "some")) (.cons (.lit (.int 2)) .nil))) .nil)))))
 (.cons (.ret (.lit (.bl false)))
 .nil)
 .nil)
 (.cons (.ret (.cmp .eq (.comp (.var 4) (.one 4) .seq (.bor 3) .no [4] (.not (.call n_f_law_is_rule (.cons (.var 4) (.cons (.bin .sub (.bor 1) (.lit (.int 1))) .nil))))) (.lst .nil)))
 .nil)))))))⟩
/-- law (k40) -/
def law_k40 : Fn := ⟨1, 13,
 (.cons (.asgO 1 (.call n_f_law_rule (.cons (.var 0) (.cons (.lit (.int 0)) (.cons (.lit (.int 3)) .nil)))))
 (.cons (.fz 1)
 (.cons (.ifS (.or (.cmp .isnot (.call n_f_is_rule (.cons (.var 1) .nil)) (.lit (.bl true))) (.cmp .isnot (.call n_f_law_is_rule (.cons (.var 1) (.cons (.lit (.int 3)) .nil))) (.lit (.bl true))))
 (.cons (.ret (.lit (.bl false)))
 .nil)
 .nil)
 (.cons (.fz 1)
 (.cons (.asgO 2 (.tup (.cons (.lit (.str "no")) (.cons (.tup (.cons (.lit (.str "no")) (.cons (.var 1) .nil))) .nil))))
 (.cons (.ifS (.cmp .ne (.call n_f_is_rule (.cons (.var 2) .nil)) (.call n_f_law_is_rule (.cons (.var 2) (.cons (.lit (.int 3)) .nil))))
 (.cons (.ret (.lit (.bl false)))
 .nil)
 .nil)
 (.cons (.asgO 3 (.call n_f_law_small (.cons (.var 0) (.cons (.lit (.int 1000)) (.cons (.lit (.int 40)) .nil)))))
 (.cons (.fz 3)
 (.cons (.asgO 4 (.call n_f_law_all (.cons (.var 3) .nil)))
 (.cons (.fz 4)
 (.cons (.forS (.one 5) .seq (.var 4) .no
 (.cons (.fz 1)
 (.cons (.asgO 9 (.call n_f_law_tried_5 (.cons (.var 1) (.cons (.var 5) .nil))))
 (.cons (.fz 1)
 (.cons (.ifS (.or (.cmp .ne (.bor 9) (.call n_f_law_keeps (.cons (.var 1) (.cons (.var 5) .nil)))) (.not (.isi (.bor 9) .bool)))
 (.cons (.ret (.lit (.bl false)))
 .nil)
 .nil)
 .nil)))))
 (.cons (.forS (.one 6) .range1 (.lit (.int 5)) .no
 (.cons (.fz 1)
 (.cons (.asgO 10 (.call n_f_law_spoilt_thing (.cons (.var 0) (.cons (.bin .add (.lit (.int 6000)) (.bin .mul (.lit (.int 20)) (.bor 6))) (.cons (.var 1) .nil)))))
 (.cons (.fz 10)
 (.cons (.ifS (.or (.cmp .ne (.call n_f_is_rule (.cons (.var 10) .nil)) (.call n_f_law_is_rule (.cons (.var 10) (.cons (.lit (.int 3)) .nil)))) (.not (.isi (.call n_f_is_rule (.cons (.var 10) .nil)) .bool)))
 (.cons (.ret (.lit (.bl false)))
 .nil)
 .nil)
 (.cons (.fz 10)
 (.cons (.ifS (.and (.not (.call n_f_law_is_rule (.cons (.var 10) (.cons (.lit (.int 3)) .nil)))) (.cmp .ne (.call n_f_law_tried_5 (.cons (.var 10) (.cons (.idx (.bor 4) (.lit (.int 0))) .nil))) (.lit (.str "no rule"))))
 (.cons (.ret (.lit (.bl false)))
 .nil)
 .nil)
 .nil)))))))
 (.cons (.asgO 7 (.lst (.cons (.tup (.cons (.lit (.str "sum")) (.cons (.neg (.lit (.int 50))) (.cons (.lit (.int 50)) .nil)))) (.cons (.tup (.cons (.lit (.str "sum")) (.cons (.neg (.lit (.int 51))) (.cons (.lit (.int 0)) .nil)))) (.cons (.tup (.cons (.lit (.str "size")) (.cons (.lit (.int 0)) (.cons (.lit (.int 51)) .nil)))) (.cons (.tup (.cons (.lit (.str "word")) (.cons (.lit (.str "zzz")) .nil))) (.cons (.tup (.cons (.lit (.str "word")) (.cons (.lit (.str "zzzz")) .nil))) (.cons (.tup (.cons (.lit (.str "rising")) (.cons (.lit (.int 1)) .nil))) .nil))))))))
 (.cons (.forS (.one 8) .seq (.tup (.cons (.lit (.str "all")) (.cons (.lit (.str "some")) .nil))) .no
 (.cons (.asgO 11 (.tup (.cons (.var 8) (.cons (.tup (.cons (.lit (.str "rising")) .nil)) (.cons (.tup (.cons (.var 8) (.cons (.tup (.cons (.lit (.str "unlike")) .nil)) (.cons (.tup (.cons (.lit (.str "sum")) (.cons (.lit (.int 50)) (.cons (.lit (.int 50)) .nil)))) .nil)))) .nil)))))
 (.cons (.ext 7 (.lst (.cons (.var 11) (.cons (.tup (.cons (.var 8) (.cons (.var 11) (.cons (.tup (.cons (.lit (.str "rising")) .nil)) .nil)))) (.cons (.tup (.cons (.var 8) (.cons (.tup (.cons (.lit (.str "rising")) .nil)) (.cons (.var 11) .nil)))) (.cons (.tup (.cons (.lit (.str "no")) (.cons (.var 11) .nil))) (.cons (.tup (.cons (.var 8) (.cons (.var 11) .nil))) .nil)))))))
 .nil)))
 (.cons (.ret (.cmp .eq (.comp (.call n_f_is_rule (.cons (.var 12) .nil)) (.one 12) .seq (.bor 7) .no [12] (.lit (.bl true))) (.comp (.call n_f_law_is_rule (.cons (.var 12) (.cons (.lit (.int 3)) .nil))) (.one 12) .seq (.bor 7) .no [12] (.lit (.bl true)))))
 .nil)))))))))))))))⟩
/-- keepers (k41) -/
def f_keepers : Fn := ⟨2, 3,
 (.cons (.exp (.call n_f_look_rule (.cons (.var 1) .nil)))
 (.cons (.ret (.comp (.var 2) (.one 2) .seq (.call n_f_all_worths (.cons (.var 0) .nil)) .no [2] (.call n_f_does_keep (.cons (.var 1) (.cons (.var 2) .nil)))))
 .nil))⟩
/-- share_keeping (k41) -/
def f_share_keeping : Fn := ⟨2, 4,
 (.cons (.asgO 2 (.tup (.cons (.lit (.int 0)) (.cons (.lit (.int 1)) .nil))))
 (.cons (.forS (.one 3) .seq (.fr (.call n_f_keepers (.cons (.var 0) (.cons (.var 1) .nil)))) .no
 (.cons (.fz 2)
 (.cons (.asgO 2 (.call n_f_plus (.cons (.var 2) (.cons (.call n_f_share_in (.cons (.var 0) (.cons (.var 3) .nil))) .nil))))
 .nil)))
 (.cons (.ret (.bor 2))
 .nil)))⟩
/-- law_tried (k41) -/
def f_law_tried_6 : Fn := ⟨3, 6,
 (.cons (.asgO 3 (.lit (.non)))
 (.cons (.asgO 4 (.lit (.non)))
 (.cons (.tryK (.asg 4 (.ite (.cmp .eq (.bor 0) (.lit (.int 0))) (.call n_f_keepers (.cons (.var 1) (.cons (.var 2) .nil))) (.call n_f_share_keeping (.cons (.var 1) (.cons (.var 2) .nil))))) 5 3 [1, 2, 3, 4])
 (.cons (.ifS (.cmp .is (.bor 3) (.lit (.non)))
 (.cons (.ret (.bor 4))
 .nil)
 .nil)
 (.cons (.ret (.call n_f_law_word (.cons (.var 3) .nil)))
 .nil)))))⟩
/-- law_plus (k41) -/
def f_law_plus : Fn := ⟨2, 6,
 (.cons (.asgN [2, 3] (.cons (.bin .add (.bin .mul (.idx (.bor 0) (.lit (.int 0))) (.idx (.bor 1) (.lit (.int 1)))) (.bin .mul (.idx (.bor 1) (.lit (.int 0))) (.idx (.bor 0) (.lit (.int 1))))) (.cons (.bin .mul (.idx (.bor 0) (.lit (.int 1))) (.idx (.bor 1) (.lit (.int 1)))) .nil)))
 (.cons (.asgN [4, 5] (.cons (.var 2) (.cons (.var 3) .nil)))
 (.cons (.whl (.cmp .ne (.bor 5) (.lit (.int 0)))
 (.cons (.asgN [4, 5] (.cons (.var 5) (.cons (.bin .mod (.bor 4) (.bor 5)) .nil)))
 .nil))
 (.cons (.ret (.tup (.cons (.bin .fdiv (.bor 2) (.bor 4)) (.cons (.bin .fdiv (.bor 3) (.bor 4)) .nil))))
 .nil))))⟩
/-- law (k41) -/
def law_k41 : Fn := ⟨1, 15,
 (.cons (.asgO 1 (.call n_f_law_small (.cons (.var 0) (.cons (.lit (.int 0)) (.cons (.lit (.int 24)) .nil)))))
 (.cons (.asgN [7, 8] (.cons (.call n_f_law_rule (.cons (.var 0) (.cons (.lit (.int 4000)) (.cons (.lit (.int 2)) .nil)))) (.cons (.call n_f_law_rule (.cons (.var 0) (.cons (.lit (.int 4500)) (.cons (.lit (.int 2)) .nil)))) .nil)))
 (.cons (.forS (.one 2) .seq (.tup (.cons (.var 7) (.cons (.var 8) .nil))) .no
 (.cons (.fz 1)
 (.cons (.asgO 6 (.comp (.var 10) (.one 10) .seq (.call n_f_law_all (.cons (.var 1) .nil)) .no [10] (.call n_f_law_keeps (.cons (.var 2) (.cons (.var 10) .nil)))))
 (.cons (.asgO 9 (.tup (.cons (.lit (.int 0)) (.cons (.lit (.int 1)) .nil))))
 (.cons (.fz 6)
 (.cons (.forS (.one 10) .seq (.var 6) .no
 (.cons (.fz 1)
 (.cons (.fz 9)
 (.cons (.asgO 9 (.call n_f_law_plus (.cons (.var 9) (.cons (.call n_f_share_of (.cons (.var 1) (.cons (.var 10) .nil))) .nil))))
 .nil))))
 (.cons (.fz 1)
 (.cons (.fz 6)
 (.cons (.fz 9)
 (.cons (.ifS (.cmp .ne (.comp (.call n_f_law_tried_6 (.cons (.var 14) (.cons (.var 1) (.cons (.var 2) .nil)))) (.one 14) .range1 (.lit (.int 2)) .no [14] (.lit (.bl true))) (.lst (.cons (.var 6) (.cons (.var 9) .nil))))
 (.cons (.ret (.lit (.bl false)))
 .nil)
 .nil)
 (.cons (.fz 1)
 (.cons (.asgO 11 (.bi .sorted (.cons (.comp (.bi .str (.cons (.bor 10) .nil)) (.one 10) .seq (.bin .add (.bor 6) (.call n_f_keepers (.cons (.var 1) (.cons (.tup (.cons (.lit (.str "no")) (.cons (.var 2) .nil))) .nil)))) .no [10] (.lit (.bl true))) .nil)))
 (.cons (.fz 1)
 (.cons (.ifS (.cmp .ne (.bor 11) (.bi .sorted (.cons (.comp (.bi .str (.cons (.bor 10) .nil)) (.one 10) .seq (.call n_f_law_all (.cons (.var 1) .nil)) .no [10] (.lit (.bl true))) .nil)))
 (.cons (.ret (.lit (.bl false)))
 .nil)
 .nil)
 (.cons (.fz 1)
 (.cons (.fz 9)
 (.cons (.ifS (.cmp .ne (.call n_f_law_plus (.cons (.var 9) (.cons (.call n_f_share_keeping (.cons (.var 1) (.cons (.tup (.cons (.lit (.str "no")) (.cons (.var 2) .nil))) .nil))) .nil))) (.tup (.cons (.lit (.int 1)) (.cons (.lit (.int 1)) .nil))))
 (.cons (.ret (.lit (.bl false)))
 .nil)
 .nil)
 .nil)))))))))))))))))
 (.cons (.fz 1)
 (.cons (.asgO 3 (.call n_f_law_plus (.cons (.call n_f_share_keeping (.cons (.var 1) (.cons (.var 7) .nil))) (.cons (.call n_f_share_keeping (.cons (.var 1) (.cons (.var 8) .nil))) .nil))))
 (.cons (.fz 1)
 (.cons (.asgO 4 (.call n_f_law_plus (.cons (.call n_f_share_keeping (.cons (.var 1) (.cons (.tup (.cons (.lit (.str "all")) (.cons (.var 7) (.cons (.var 8) .nil)))) .nil))) (.cons (.call n_f_share_keeping (.cons (.var 1) (.cons (.tup (.cons (.lit (.str "some")) (.cons (.var 7) (.cons (.var 8) .nil)))) .nil))) .nil))))
 (.cons (.ifS (.cmp .ne (.bor 3) (.bor 4))
 (.cons (.ret (.lit (.bl false)))
 .nil)
 .nil)
 (.cons (.fz 1)
 (.cons (.ifS (.cmp .ne (.call n_f_keepers (.cons (.var 1) (.cons (.tup (.cons (.lit (.str "all")) (.cons (.var 7) (.cons (.var 8) .nil)))) .nil))) (.call n_f_keepers (.cons (.var 1) (.cons (.tup (.cons (.lit (.str "all")) (.cons (.var 8) (.cons (.var 7) .nil)))) .nil))))
 (.cons (.ret (.lit (.bl false)))
 .nil)
 .nil)
 (.cons (.asgO 5 (.tup (.cons (.lit (.str "row")) (.cons (.tup (.cons (.tup (.cons (.lit (.str "whole")) (.cons (.lit (.int 0)) (.cons (.lit (.int 19)) .nil)))) (.cons (.tup (.cons (.lit (.str "whole")) (.cons (.lit (.int 1)) (.cons (.lit (.int 6)) .nil)))) (.cons (.tup (.cons (.lit (.str "whole")) (.cons (.lit (.int 0)) (.cons (.lit (.int 4)) .nil)))) .nil)))) .nil))))
 (.cons (.fz 1)
 (.cons (.asgN [12, 13] (.cons (.call n_f_law_spoilt_thing (.cons (.var 0) (.cons (.lit (.int 6000)) (.cons (.var 1) .nil)))) (.cons (.tup (.cons (.lit (.str "sum")) (.cons (.lit (.int 1)) .nil))) .nil)))
 (.cons (.asgO 6 (.lst (.cons (.lit (.str "too many")) (.cons (.lit (.str "no rule")) (.cons (.lit (.str "no rule")) .nil)))))
 (.cons (.ifS (.cmp .ne (.lst (.cons (.call n_f_law_tried_6 (.cons (.lit (.int 0)) (.cons (.var 5) (.cons (.var 7) .nil)))) (.cons (.call n_f_law_tried_6 (.cons (.lit (.int 0)) (.cons (.var 5) (.cons (.var 13) .nil)))) (.cons (.call n_f_law_tried_6 (.cons (.lit (.int 1)) (.cons (.tup (.cons (.lit (.str "whole")) .nil)) (.cons (.var 13) .nil)))) .nil)))) (.bor 6))
 (.cons (.ret (.lit (.bl false)))
 .nil)
 .nil)
 (.cons (.ret (.or (.call n_f_law_is_kind (.cons (.var 12) (.cons (.lit (.int 3)) .nil))) (.cmp .eq (.comp (.call n_f_law_tried_6 (.cons (.var 14) (.cons (.var 12) (.cons (.var 7) .nil)))) (.one 14) .range1 (.lit (.int 2)) .no [14] (.lit (.bl true))) (.bin .mul (.lst (.cons (.lit (.str "no kind")) .nil)) (.lit (.int 2))))))
 .nil))))))))))))))))⟩
/-- look_rules (k42) -/
def f_look_rules : Fn := ⟨1, 2,
 (.cons (.forS (.one 1) .seq (.var 0) .no
 (.cons (.exp (.call n_f_look_rule (.cons (.var 1) .nil)))
 .nil))
 .nil)⟩
/-- implies (k42) -/
def f_implies : Fn := ⟨3, 4,
 (.cons (.exp (.call n_f_look_rules (.cons (.lst (.cons (.var 1) (.cons (.var 2) .nil))) .nil)))
 (.cons (.ret (.bi .all (.cons (.comp (.call n_f_does_keep (.cons (.var 2) (.cons (.var 3) .nil))) (.one 3) .seq (.call n_f_all_worths (.cons (.var 0) .nil)) .no [3] (.call n_f_does_keep (.cons (.var 1) (.cons (.var 3) .nil)))) .nil)))
 .nil))⟩
/-- alike_on (k42) -/
def f_alike_on : Fn := ⟨3, 3,
 (.cons (.ret (.and (.call n_f_implies (.cons (.var 0) (.cons (.var 1) (.cons (.var 2) .nil)))) (.call n_f_implies (.cons (.var 0) (.cons (.var 2) (.cons (.var 1) .nil))))))
 .nil)⟩
/-- law (k42) -/
def law_k42 : Fn := ⟨1, 12,
 (.cons (.asgO 1 (.call n_f_law_small (.cons (.var 0) (.cons (.lit (.int 0)) (.cons (.lit (.int 60)) .nil)))))
 (.cons (.asgO 2 (.bin .add (.lit (.int 1)) (.call n_f_law_pick (.cons (.var 0) (.cons (.lit (.int 2999)) (.cons (.lit (.int 2)) .nil))))))
 (.cons (.fz 2)
 (.cons (.asgN [6, 7] (.cons (.call n_f_law_rule (.cons (.var 0) (.cons (.lit (.int 3000)) (.cons (.var 2) .nil)))) (.cons (.call n_f_law_rule (.cons (.var 0) (.cons (.lit (.int 3200)) (.cons (.var 2) .nil)))) .nil)))
 (.cons (.fz 1)
 (.cons (.asgO 3 (.call n_f_law_all (.cons (.var 1) .nil)))
 (.cons (.asgO 4 (.comp (.var 11) (.one 11) .seq (.bor 3) .no [11] (.call n_f_law_keeps (.cons (.var 6) (.cons (.var 11) .nil)))))
 (.cons (.asgO 5 (.comp (.var 11) (.one 11) .seq (.bor 3) .no [11] (.call n_f_law_keeps (.cons (.var 7) (.cons (.var 11) .nil)))))
 (.cons (.fz 1)
 (.cons (.ifS (.cmp .ne (.call n_f_implies (.cons (.var 1) (.cons (.var 6) (.cons (.var 7) .nil)))) (.cmp .eq (.comp (.var 11) (.one 11) .seq (.bor 4) .no [11] (.cmp .notin (.bor 11) (.bor 5))) (.lst .nil)))
 (.cons (.ret (.lit (.bl false)))
 .nil)
 .nil)
 (.cons (.fz 1)
 (.cons (.ifS (.or (.cmp .ne (.call n_f_alike_on (.cons (.var 1) (.cons (.var 6) (.cons (.var 7) .nil)))) (.cmp .eq (.bor 4) (.bor 5))) (.cmp .ne (.call n_f_alike_on (.cons (.var 1) (.cons (.var 7) (.cons (.var 6) .nil)))) (.cmp .eq (.bor 4) (.bor 5))))
 (.cons (.ret (.lit (.bl false)))
 .nil)
 .nil)
 (.cons (.asgN [8, 9, 10] (.cons (.tup (.cons (.lit (.str "some")) (.cons (.var 6) (.cons (.var 7) .nil)))) (.cons (.tup (.cons (.lit (.str "all")) (.cons (.var 6) (.cons (.var 7) .nil)))) (.cons (.tup (.cons (.lit (.str "no")) (.cons (.var 6) .nil))) .nil))))
 (.cons (.fz 1)
 (.cons (.ifS (.cmp .ne (.lst (.cons (.call n_f_implies (.cons (.var 1) (.cons (.var 6) (.cons (.var 8) .nil)))) (.cons (.call n_f_implies (.cons (.var 1) (.cons (.var 9) (.cons (.var 7) .nil)))) (.cons (.call n_f_implies (.cons (.var 1) (.cons (.var 6) (.cons (.var 6) .nil)))) .nil)))) (.bin .mul (.lst (.cons (.lit (.bl true)) .nil)) (.lit (.int 3))))
 (.cons (.ret (.lit (.bl false)))
 .nil)
 .nil)
 (.cons (.fz 1)
 (.cons (.ifS (.or (.and (.cmp .eq (.bor 2) (.lit (.int 1))) (.cmp .isnot (.call n_f_alike_on (.cons (.var 1) (.cons (.tup (.cons (.lit (.str "no")) (.cons (.var 10) .nil))) (.cons (.var 6) .nil)))) (.lit (.bl true)))) (.cmp .ne (.call n_f_implies (.cons (.var 1) (.cons (.var 6) (.cons (.var 10) .nil)))) (.cmp .eq (.bor 4) (.lst .nil))))
 (.cons (.ret (.lit (.bl false)))
 .nil)
 .nil)
 (.cons (.fz 1)
 (.cons (.ifS (.cmp .ne (.call n_f_implies (.cons (.var 1) (.cons (.tup (.cons (.lit (.str "no")) (.cons (.var 7) .nil))) (.cons (.var 10) .nil)))) (.call n_f_implies (.cons (.var 1) (.cons (.var 6) (.cons (.var 7) .nil)))))
 (.cons (.ret (.lit (.bl false)))
 .nil)
 .nil)
 (.cons (.fz 1)
 (.cons (.ifS (.cmp .ne (.call n_f_implies (.cons (.var 1) (.cons (.var 8) (.cons (.var 6) .nil)))) (.call n_f_implies (.cons (.var 1) (.cons (.var 7) (.cons (.var 6) .nil)))))
 (.cons (.ret (.lit (.bl false)))
 .nil)
 .nil)
 (.cons (.fz 1)
 (.cons (.ret (.cmp .eq (.call n_f_alike_on (.cons (.var 1) (.cons (.var 9) (.cons (.var 6) .nil)))) (.call n_f_implies (.cons (.var 1) (.cons (.var 6) (.cons (.var 7) .nil))))))
 .nil)))))))))))))))))))))))⟩
/-- tally (k43) -/
def f_tally : Fn := ⟨2, 8,
 (.cons (.exp (.call n_f_look_rules (.cons (.var 1) .nil)))
 (.cons (.dct0 2)
 (.cons (.forS (.one 3) .seq (.fr (.call n_f_all_worths (.cons (.var 0) .nil))) .no
 (.cons (.asgO 4 (.bi .tuple (.cons (.comp (.call n_f_does_keep (.cons (.var 7) (.cons (.var 3) .nil))) (.one 7) .seq (.bor 1) .no [7] (.lit (.bl true))) .nil)))
 (.cons (.opq)
 (.cons (.opq)
 .nil))))
 (.cons (.ret (.comp (.tup (.cons (.var 4) (.cons (.idx (.idx (.bor 2) (.bor 4)) (.lit (.int 0))) (.cons (.idx (.idx (.bor 2) (.bor 4)) (.lit (.int 1))) .nil)))) (.one 4) .seq (.bi .sorted (.cons (.bor 2) .nil)) .no [4] (.lit (.bl true))))
 .nil))))⟩
/-- tightest (k43) -/
def f_tightest : Fn := ⟨2, 7,
 (.cons (.exp (.call n_f_look_rules (.cons (.var 1) .nil)))
 (.cons (.asgO 2 (.call n_f_all_worths (.cons (.var 0) .nil)))
 (.cons (.asgO 3 (.comp (.bi .len (.cons (.comp (.lit (.int 1)) (.one 6) .seq (.bor 2) .no [6] (.call n_f_does_keep (.cons (.var 4) (.cons (.var 6) .nil)))) .nil)) (.one 4) .seq (.bor 1) .no [4] (.lit (.bl true))))
 (.cons (.ret (.comp (.var 5) (.one 5) .range1 (.bi .len (.cons (.bor 3) .nil)) .no [5] (.cmp .eq (.idx (.bor 3) (.bor 5)) (.bi .min1 (.cons (.bor 3) .nil)))))
 .nil))))⟩
/-- parted (k43) -/
def f_parted : Fn := ⟨2, 7,
 (.cons (.exp (.call n_f_look_rules (.cons (.var 1) .nil)))
 (.cons (.asgN [3, 4] (.cons (.lst .nil) (.cons (.lst .nil) .nil)))
 (.cons (.forS (.one 2) .seq (.fr (.call n_f_all_worths (.cons (.var 0) .nil))) .no
 (.cons (.asgO 5 (.bi .tuple (.cons (.comp (.call n_f_does_keep (.cons (.var 6) (.cons (.var 2) .nil))) (.one 6) .seq (.bor 1) .no [6] (.lit (.bl true))) .nil)))
 (.cons (.ifS (.cmp .notin (.bor 5) (.bor 3))
 (.cons (.fz 5)
 (.cons (.app 3 (.var 5))
 (.cons (.app 4 (.lst .nil))
 .nil)))
 .nil)
 (.cons (.opq)
 .nil))))
 (.cons (.ret (.bor 4))
 .nil))))⟩
/-- law (k43) -/
def law_k43 : Fn := ⟨1, 16,
 (.cons (.asgO 1 (.call n_f_law_small (.cons (.var 0) (.cons (.lit (.int 0)) (.cons (.lit (.int 60)) .nil)))))
 (.cons (.asgO 2 (.comp (.call n_f_law_rule (.cons (.var 0) (.cons (.bin .add (.lit (.int 3000)) (.bin .mul (.lit (.int 200)) (.bor 12))) (.cons (.lit (.int 2)) .nil)))) (.one 12) .range1 (.call n_f_law_pick (.cons (.var 0) (.cons (.lit (.int 1)) (.cons (.lit (.int 5)) .nil)))) .no [12] (.lit (.bl true))))
 (.cons (.opq)
 (.cons (.fz 1)
 (.cons (.forS (.one 3) .seq (.fr (.call n_f_law_all (.cons (.var 1) .nil))) .no
 (.cons (.asgO 9 (.bi .tuple (.cons (.comp (.call n_f_law_keeps (.cons (.var 13) (.cons (.var 3) .nil))) (.one 13) .seq (.bor 2) .no [13] (.lit (.bl true))) .nil)))
 (.cons (.ifS (.cmp .notin (.bor 9) (.bor 6))
 (.cons (.opq)
 (.cons (.fz 9)
 (.cons (.app 8 (.var 9))
 .nil)))
 .nil)
 (.cons (.opq)
 (.cons (.opq)
 .nil)))))
 (.cons (.fz 1)
 (.cons (.fz 2)
 (.cons (.ifS (.cmp .ne (.call n_f_tally (.cons (.var 1) (.cons (.var 2) .nil))) (.comp (.tup (.cons (.var 9) (.cons (.bi .len (.cons (.idx (.bor 6) (.bor 9)) .nil)) (.cons (.idx (.bor 7) (.bor 9)) .nil)))) (.one 9) .seq (.bi .sorted (.cons (.bor 6) .nil)) .no [9] (.lit (.bl true))))
 (.cons (.ret (.lit (.bl false)))
 .nil)
 .nil)
 (.cons (.fz 1)
 (.cons (.ifS (.cmp .ne (.call n_f_parted (.cons (.var 1) (.cons (.bi .tuple (.cons (.bor 2) .nil)) .nil))) (.comp (.idx (.bor 6) (.bor 9)) (.one 9) .seq (.bor 8) .no [9] (.lit (.bl true))))
 (.cons (.ret (.lit (.bl false)))
 .nil)
 .nil)
 (.cons (.asgO 4 (.tup (.cons (.lit (.int 0)) (.cons (.lit (.int 1)) .nil))))
 (.cons (.fz 1)
 (.cons (.forS (.many [9, 10, 11]) .seq (.fr (.call n_f_tally (.cons (.var 1) (.cons (.bi .tuple (.cons (.bor 2) .nil)) .nil)))) .no
 (.cons (.fz 4)
 (.cons (.asgO 4 (.call n_f_law_plus (.cons (.var 4) (.cons (.var 11) .nil))))
 (.cons (.ifS (.or (.cmp .ne (.comp (.lit (.int 1)) (.one 14) .seq (.bor 9) .no [14] (.not (.isi (.bor 14) .bool))) (.lst .nil)) (.cmp .lt (.bor 10) (.lit (.int 1))))
 (.cons (.ret (.lit (.bl false)))
 .nil)
 .nil)
 .nil))))
 (.cons (.fz 1)
 (.cons (.asgO 5 (.comp (.bi .len (.cons (.comp (.lit (.int 1)) (.one 3) .seq (.call n_f_law_all (.cons (.var 1) .nil)) .no [3] (.call n_f_law_keeps (.cons (.var 13) (.cons (.var 3) .nil)))) .nil)) (.one 13) .seq (.bor 2) .no [13] (.lit (.bl true))))
 (.cons (.fz 1)
 (.cons (.fz 2)
 (.cons (.ifS (.cmp .ne (.call n_f_tightest (.cons (.var 1) (.cons (.var 2) .nil))) (.comp (.var 12) (.one 12) .range1 (.bi .len (.cons (.bor 2) .nil)) .no [12] (.cmp .eq (.idx (.bor 5) (.bor 12)) (.bi .min1 (.cons (.bor 5) .nil)))))
 (.cons (.ret (.lit (.bl false)))
 .nil)
 .nil)
 (.cons (.fz 1)
 (.cons (.fz 2)
 (.cons (.ret (.and (.cmp .eq (.bor 4) (.tup (.cons (.lit (.int 1)) (.cons (.lit (.int 1)) .nil)))) (.cmp .eq (.bi .sum (.cons (.comp (.idx (.bor 15) (.lit (.int 1))) (.one 15) .seq (.call n_f_tally (.cons (.var 1) (.cons (.var 2) .nil))) .no [15] (.lit (.bl true))) .nil)) (.bi .len (.cons (.call n_f_law_all (.cons (.var 1) .nil)) .nil)))))
 .nil)))))))))))))))))))))⟩
/-- law_class (k44) -/
def f_law_class : Fn := ⟨1, 2,
 (.cons (.asgO 1 (.lst (.cons (.isi (.bor 0) (.cls 5)) (.cons (.isi (.bor 0) (.cls 7)) (.cons (.isi (.bor 0) (.cls 1)) (.cons (.isi (.bor 0) (.cls 3)) .nil))))))
 (.cons (.asgO 1 (.bin .add (.bor 1) (.lst (.cons (.isi (.bor 0) (.cls 6)) (.cons (.isi (.bor 0) (.cls 2)) (.cons (.isi (.bor 0) (.cls 4)) .nil))))))
 (.cons (.ifS (.or (.cmp .ne (.meth .count (.bor 1) (.cons (.lit (.bl true)) .nil)) (.lit (.int 1))) (.not (.isi (.bor 0) .value)))
 (.cons (.ret (.lit (.str "wrong")))
 .nil)
 .nil)
 (.cons (.ret (.idx (.lst (.cons (.lit (.str "ended")) (.cons (.lit (.str "no back")) (.cons (.lit (.str "no kind")) (.cons (.lit (.str "no rule")) (.cons (.lit (.str "no text")) (.cons (.lit (.str "no worth")) (.cons (.lit (.str "too many")) .nil)))))))) (.meth .index (.bor 1) (.cons (.lit (.bl true)) .nil))))
 .nil))))⟩
/-- law (k44) -/
def law_k44 : Fn := ⟨1, 10,
 (.cons (.asgO 1 (.lst (.cons (.lit (.non)) (.cons (.tup .nil) (.cons (.tup (.cons (.lit (.str "whole")) (.cons (.lit (.int 1)) (.cons (.lit (.int 0)) .nil)))) (.cons (.tup (.cons (.lit (.str "whole")) (.cons (.neg (.lit (.int 21))) (.cons (.lit (.int 0)) .nil)))) (.cons (.tup (.cons (.lit (.str "pick")) (.cons (.tup .nil) .nil))) (.cons (.tup (.cons (.lit (.str "pick")) (.cons (.tup (.cons (.tup (.cons (.lit (.str "a")) (.cons (.lit (.int 0)) .nil))) .nil)) .nil))) .nil))))))))
 (.cons (.ext 1 (.lst (.cons (.tup (.cons (.lit (.str "row")) (.cons (.tup .nil) .nil))) (.cons (.tup (.cons (.lit (.str "many")) (.cons (.tup (.cons (.lit (.str "whole")) (.cons (.lit (.int 0)) (.cons (.lit (.int 1)) .nil)))) (.cons (.lit (.int 2)) (.cons (.lit (.int 4)) .nil))))) .nil))))
 (.cons (.asgO 2 (.lst (.cons (.lit (.non)) (.cons (.tup .nil) (.cons (.tup (.cons (.lit (.str "sum")) (.cons (.lit (.int 1)) .nil))) (.cons (.tup (.cons (.lit (.str "sum")) (.cons (.neg (.lit (.int 51))) (.cons (.lit (.int 0)) .nil)))) (.cons (.tup (.cons (.lit (.str "size")) (.cons (.lit (.int 0)) (.cons (.lit (.bl true)) .nil)))) (.cons (.tup (.cons (.lit (.str "word")) (.cons (.lit (.str "abcd")) .nil))) (.cons (.tup (.cons (.lit (.str "no")) .nil)) .nil)))))))))
 (.cons (.ext 2 (.lst (.cons (.tup (.cons (.lit (.str "all")) (.cons (.tup (.cons (.lit (.str "rising")) .nil)) .nil))) (.cons (.lit (.str "rising")) (.cons (.lit (.int 5)) .nil)))))
 (.cons (.unp [5, 6, 7] (.tup (.cons (.tup (.cons (.lit (.str "row")) (.cons (.tup (.cons (.tup (.cons (.lit (.str "whole")) (.cons (.lit (.int 0)) (.cons (.lit (.int 2)) .nil)))) (.cons (.tup (.cons (.lit (.str "pick")) (.cons (.tup (.cons (.tup (.cons (.lit (.str "a")) (.cons (.lit (.int 1)) .nil))) .nil)) .nil))) .nil))) .nil))) (.cons (.tup (.cons (.lit (.str "many")) (.cons (.tup (.cons (.lit (.str "whole")) (.cons (.lit (.int 0)) (.cons (.lit (.int 9)) .nil)))) (.cons (.lit (.int 3)) (.cons (.lit (.int 3)) .nil))))) (.cons (.tup (.cons (.lit (.str "rising")) .nil)) .nil)))))
 (.cons (.forS (.one 3) .range1 (.lit (.int 4)) .no
 (.cons (.asgO 8 (.idx (.bor 1) (.bin .mod (.bin .add (.call n_f_law_pick (.cons (.var 0) (.cons (.lit (.int 0)) (.cons (.lit (.int 8)) .nil)))) (.bin .mul (.lit (.int 3)) (.bor 3))) (.lit (.int 8)))))
 (.cons (.asgO 9 (.idx (.bor 2) (.bin .mod (.bin .add (.call n_f_law_pick (.cons (.var 0) (.cons (.lit (.int 1)) (.cons (.lit (.int 10)) .nil)))) (.bin .mul (.lit (.int 3)) (.bor 3))) (.lit (.int 10)))))
 (.cons (.asgO 4 (.lst (.cons (.told n_f_law_class [1, 2, 3, 4] (.call n_f_depth (.cons (.var 8) .nil))) .nil)))
 (.cons (.app 4 (.told n_f_law_class [1, 2, 3, 4] (.call n_f_words_in (.cons (.var 8) .nil))))
 (.cons (.app 4 (.told n_f_law_class [1, 2, 3, 4] (.call n_f_reach (.cons (.var 8) .nil))))
 (.cons (.app 4 (.told n_f_law_class [1, 2, 3, 4] (.call n_f_mirrored (.cons (.var 8) .nil))))
 (.cons (.app 4 (.told n_f_law_class [1, 2, 3, 4] (.call n_f_mirrored_worth (.cons (.var 8) (.cons (.lit (.non)) .nil)))))
 (.cons (.app 4 (.told n_f_law_class [1, 2, 3, 4] (.call n_f_implies (.cons (.var 8) (.cons (.var 7) (.cons (.var 7) .nil))))))
 (.cons (.app 4 (.told n_f_law_class [1, 2, 3, 4] (.call n_f_alike_on (.cons (.var 8) (.cons (.var 7) (.cons (.var 7) .nil))))))
 (.cons (.app 4 (.told n_f_law_class [1, 2, 3, 4] (.call n_f_tally (.cons (.var 8) (.cons (.lst .nil) .nil)))))
 (.cons (.app 4 (.told n_f_law_class [1, 2, 3, 4] (.call n_f_parted (.cons (.var 8) (.cons (.lst (.cons (.var 7) .nil)) .nil)))))
 (.cons (.app 4 (.told n_f_law_class [1, 2, 3, 4] (.call n_f_tightest (.cons (.var 8) (.cons (.tup (.cons (.var 7) .nil)) .nil)))))
 (.cons (.ifS (.cmp .ne (.bor 4) (.bin .mul (.lst (.cons (.lit (.str "no kind")) .nil)) (.lit (.int 10))))
 (.cons (.ret (.lit (.bl false)))
 .nil)
 .nil)
 (.cons (.asgO 4 (.lst (.cons (.told n_f_law_class [1, 2, 3, 4] (.call n_f_implies (.cons (.var 8) (.cons (.var 7) (.cons (.var 9) .nil))))) .nil)))
 (.cons (.app 4 (.told n_f_law_class [1, 2, 3, 4] (.call n_f_alike_on (.cons (.var 8) (.cons (.var 9) (.cons (.var 7) .nil))))))
 (.cons (.app 4 (.told n_f_law_class [1, 2, 3, 4] (.call n_f_tally (.cons (.var 6) (.cons (.lst (.cons (.var 7) (.cons (.var 9) .nil))) .nil)))))
 (.cons (.app 4 (.told n_f_law_class [1, 2, 3, 4] (.call n_f_parted (.cons (.var 5) (.cons (.tup (.cons (.var 9) .nil)) .nil)))))
 (.cons (.app 4 (.told n_f_law_class [1, 2, 3, 4] (.call n_f_tightest (.cons (.var 8) (.cons (.lst (.cons (.var 9) (.cons (.var 7) .nil))) .nil)))))
 (.cons (.ifS (.cmp .ne (.bor 4) (.bin .mul (.lst (.cons (.lit (.str "no rule")) .nil)) (.lit (.int 5))))
 (.cons (.ret (.lit (.bl false)))
 .nil)
 .nil)
 (.cons (.ifS (.cmp .ne (.told n_f_law_class [1, 2, 3, 4] (.call n_f_mirrored_worth (.cons (.var 5) (.cons (.idx (.lst (.cons (.tup (.cons (.lit (.int 3)) (.cons (.lit (.str "a")) .nil))) (.cons (.tup (.cons (.lit (.int 0)) (.cons (.lit (.str "b")) .nil))) (.cons (.tup (.cons (.lit (.int 0)) .nil)) (.cons (.lst (.cons (.lit (.int 0)) (.cons (.lit (.str "a")) .nil))) .nil))))) (.bor 3)) .nil)))) (.lit (.str "no worth")))
 (.cons (.ret (.lit (.bl false)))
 .nil)
 .nil)
 .nil)))))))))))))))))))))
 (.cons (.asgO 4 (.lst (.cons (.told n_f_law_class [1, 2, 3, 4] (.call n_f_implies (.cons (.var 6) (.cons (.var 7) (.cons (.var 7) .nil))))) .nil)))
 (.cons (.app 4 (.told n_f_law_class [1, 2, 3, 4] (.call n_f_tally (.cons (.var 6) (.cons (.lst (.cons (.var 7) .nil)) .nil)))))
 (.cons (.app 4 (.told n_f_law_class [1, 2, 3, 4] (.call n_f_parted (.cons (.var 6) (.cons (.lst .nil) .nil)))))
 (.cons (.app 4 (.told n_f_law_class [1, 2, 3, 4] (.call n_f_tightest (.cons (.var 6) (.cons (.lst .nil) .nil)))))
 (.cons (.ret (.and (.cmp .eq (.bor 4) (.bin .mul (.lst (.cons (.lit (.str "too many")) .nil)) (.lit (.int 4)))) (.and (.cmp .eq (.call n_f_reach (.cons (.var 6) .nil)) (.tup (.cons (.lit (.int 0)) (.cons (.lit (.int 27)) .nil)))) (.cmp .eq (.call n_f_tightest (.cons (.var 5) (.cons (.lst .nil) .nil))) (.lst .nil)))))
 .nil)))))))))))⟩
/-- law (k45) -/
def law_k45 : Fn := ⟨1, 15,
 (.cons (.asgO 1 (.call n_f_law_small (.cons (.var 0) (.cons (.lit (.int 0)) (.cons (.lit (.int 25)) .nil)))))
 (.cons (.fz 1)
 (.cons (.asgN [5, 6] (.cons (.call n_f_mirrored (.cons (.var 1) .nil)) (.cons (.bin .sub (.call n_f_law_pick (.cons (.var 0) (.cons (.lit (.int 3000)) (.cons (.lit (.int 13)) .nil)))) (.lit (.int 6))) .nil)))
 (.cons (.asgO 2 (.bin .add (.bor 6) (.call n_f_law_pick (.cons (.var 0) (.cons (.lit (.int 3001)) (.cons (.lit (.int 6)) .nil))))))
 (.cons (.fz 2)
 (.cons (.asgO 3 (.lst (.cons (.tup (.cons (.lit (.str "sum")) (.cons (.var 6) (.cons (.var 2) .nil)))) (.cons (.tup (.cons (.lit (.str "size")) (.cons (.call n_f_law_pick (.cons (.var 0) (.cons (.lit (.int 3002)) (.cons (.lit (.int 3)) .nil)))) (.cons (.bin .add (.lit (.int 1)) (.call n_f_law_pick (.cons (.var 0) (.cons (.lit (.int 3003)) (.cons (.lit (.int 3)) .nil))))) .nil)))) (.cons (.tup (.cons (.lit (.str "unlike")) .nil)) .nil)))))
 (.cons (.app 3 (.tup (.cons (.lit (.str "word")) (.cons (.idx (.lst (.cons (.lit (.str "a")) (.cons (.lit (.str "b")) (.cons (.lit (.str "ab")) (.cons (.lit (.str "zz")) .nil))))) (.call n_f_law_pick (.cons (.var 0) (.cons (.lit (.int 3004)) (.cons (.lit (.int 4)) .nil))))) .nil))))
 (.cons (.asgO 4 (.bin .add (.lst (.cons (.tup (.cons (.lit (.str "sum")) (.cons (.bin .sub (.lit (.int 0)) (.bor 2)) (.cons (.bin .sub (.lit (.int 0)) (.bor 6)) .nil)))) .nil)) (.slice (.bor 3) (.lit (.int 1)) .no)))
 (.cons (.fz 3)
 (.cons (.fz 4)
 (.cons (.forS (.many [7, 8]) .zip (.var 3) (.var 4)
 (.cons (.fz 1)
 (.cons (.asgO 9 (.call n_f_keepers (.cons (.var 1) (.cons (.var 7) .nil))))
 (.cons (.asgO 10 (.call n_f_keepers (.cons (.var 5) (.cons (.var 8) .nil))))
 (.cons (.fz 1)
 (.cons (.asgO 11 (.comp (.call n_f_mirrored_worth (.cons (.var 1) (.cons (.var 14) .nil))) (.one 14) .seq (.bor 9) .no [14] (.lit (.bl true))))
 (.cons (.ifS (.or (.cmp .ne (.bi .len (.cons (.bor 9) .nil)) (.bi .len (.cons (.bor 10) .nil))) (.cmp .ne (.comp (.var 14) (.one 14) .seq (.bor 11) .no [14] (.cmp .notin (.bor 14) (.bor 10))) (.lst .nil)))
 (.cons (.ret (.lit (.bl false)))
 .nil)
 .nil)
 (.cons (.fz 1)
 (.cons (.ifS (.cmp .ne (.call n_f_share_keeping (.cons (.var 1) (.cons (.var 7) .nil))) (.call n_f_share_keeping (.cons (.var 5) (.cons (.var 8) .nil))))
 (.cons (.ret (.lit (.bl false)))
 .nil)
 .nil)
 .nil)))))))))
 (.cons (.fz 1)
 (.cons (.fz 3)
 (.cons (.fz 4)
 (.cons (.ifS (.cmp .ne (.call n_f_tally (.cons (.var 1) (.cons (.var 3) .nil))) (.call n_f_tally (.cons (.var 5) (.cons (.var 4) .nil))))
 (.cons (.ret (.lit (.bl false)))
 .nil)
 .nil)
 (.cons (.unp [12, 13] (.tup (.cons (.tup (.cons (.lit (.str "sum")) (.cons (.neg (.lit (.int 50))) (.cons (.lit (.int 50)) .nil)))) (.cons (.tup (.cons (.lit (.str "sum")) (.cons (.lit (.int 1)) (.cons (.lit (.int 0)) .nil)))) .nil))))
 (.cons (.fz 1)
 (.cons (.ifS (.cmp .isnot (.call n_f_alike_on (.cons (.var 1) (.cons (.tup (.cons (.lit (.str "some")) (.cons (.var 12) (.cons (.var 13) .nil)))) (.cons (.var 12) .nil)))) (.lit (.bl true)))
 (.cons (.ret (.lit (.bl false)))
 .nil)
 .nil)
 (.cons (.fz 1)
 (.cons (.fz 2)
 (.cons (.ret (.cmp .is (.call n_f_alike_on (.cons (.var 1) (.cons (.idx (.bor 3) (.lit (.int 0))) (.cons (.tup (.cons (.lit (.str "all")) (.cons (.tup (.cons (.lit (.str "sum")) (.cons (.var 6) (.cons (.lit (.int 50)) .nil)))) (.cons (.tup (.cons (.lit (.str "sum")) (.cons (.neg (.lit (.int 50))) (.cons (.var 2) .nil)))) .nil)))) .nil)))) (.lit (.bl true))))
 .nil)))))))))))))))))))))⟩
/-- home (k46) -/
def f_home : Fn := ⟨1, 1,
 (.cons (.ret (.bi .max2 (.cons (.idx (.bor 0) (.lit (.int 1))) (.cons (.bi .min2 (.cons (.idx (.bor 0) (.lit (.int 2))) (.cons (.lit (.int 0)) .nil))) .nil))))
 .nil)⟩
/-- weight_in (k46) -/
def f_weight_in : Fn := ⟨2, 6,
 (.cons (.ifS (.cmp .eq (.idx (.bor 0) (.lit (.int 0))) (.lit (.str "whole")))
 (.cons (.ret (.bi .abs (.cons (.bin .sub (.bor 1) (.call n_f_home (.cons (.var 0) .nil))) .nil)))
 .nil)
 .nil)
 (.cons (.ifS (.cmp .eq (.idx (.bor 0) (.lit (.int 0))) (.lit (.str "pick")))
 (.cons (.ret (.meth .index (.comp (.var 4) (.many [4, 5]) .seq (.idx (.bor 0) (.lit (.int 1))) .no [4, 5] (.lit (.bl true))) (.cons (.bor 1) .nil)))
 .nil)
 .nil)
 (.cons (.ifS (.cmp .eq (.idx (.bor 0) (.lit (.int 0))) (.lit (.str "row")))
 (.cons (.ret (.bi .sum (.cons (.comp (.call n_f_weight_in (.cons (.var 3) (.cons (.var 2) .nil))) (.many [3, 2]) .zip (.idx (.bor 0) (.lit (.int 1))) (.bor 1) [3, 2] (.lit (.bl true))) .nil)))
 .nil)
 .nil)
 (.cons (.ret (.bin .add (.bin .sub (.bi .len (.cons (.bor 1) .nil)) (.idx (.bor 0) (.lit (.int 2)))) (.bi .sum (.cons (.comp (.call n_f_weight_in (.cons (.idx (.bor 0) (.lit (.int 1))) (.cons (.var 2) .nil))) (.one 2) .seq (.bor 1) .no [2] (.lit (.bl true))) .nil))))
 .nil))))⟩
/-- weight (k46) -/
def f_weight : Fn := ⟨2, 2,
 (.cons (.exp (.call n_f_look_worth (.cons (.var 0) (.cons (.var 1) .nil))))
 (.cons (.ret (.call n_f_weight_in (.cons (.var 0) (.cons (.var 1) .nil))))
 .nil))⟩
/-- law (k46) -/
def law_k46 : Fn := ⟨1, 14,
 (.cons (.asgN [4, 5, 6] (.cons (.call n_f_law_small (.cons (.var 0) (.cons (.lit (.int 0)) (.cons (.lit (.int 9)) .nil)))) (.cons (.call n_f_law_small (.cons (.var 0) (.cons (.lit (.int 20000)) (.cons (.lit (.int 9)) .nil)))) (.cons (.call n_f_law_small (.cons (.var 0) (.cons (.lit (.int 40000)) (.cons (.lit (.int 9)) .nil)))) .nil))))
 (.cons (.opq)
 (.cons (.asgO 1 (.tup (.cons (.lit (.str "row")) (.cons (.tup (.cons (.var 4) (.cons (.var 5) .nil))) .nil))))
 (.cons (.asgO 2 (.call n_f_how_many (.cons (.var 5) .nil)))
 (.cons (.ifS (.or (.cmp .ne (.call n_f_how_many (.cons (.var 1) .nil)) (.bin .mul (.call n_f_how_many (.cons (.var 4) .nil)) (.bor 2))) (.cmp .ne (.call n_f_depth (.cons (.var 1) .nil)) (.bin .add (.lit (.int 1)) (.bi .max2 (.cons (.call n_f_depth (.cons (.var 4) .nil)) (.cons (.call n_f_depth (.cons (.var 5) .nil)) .nil))))))
 (.cons (.ret (.lit (.bl false)))
 .nil)
 .nil)
 (.cons (.forS (.one 3) .seq (.fr (.call n_f_law_all (.cons (.var 4) .nil))) .no
 (.cons (.forS (.one 7) .seq (.fr (.call n_f_law_all (.cons (.var 5) .nil))) .no
 (.cons (.asgN [9, 10] (.cons (.tup (.cons (.var 3) (.cons (.var 7) .nil))) (.cons (.bin .add (.bin .mul (.call n_f_number_of (.cons (.var 4) (.cons (.var 3) .nil))) (.bor 2)) (.call n_f_number_of (.cons (.var 5) (.cons (.var 7) .nil)))) .nil)))
 (.cons (.ifS (.or (.cmp .ne (.call n_f_number_of (.cons (.var 1) (.cons (.var 9) .nil))) (.bor 10)) (.cmp .ne (.call n_f_worth_of (.cons (.var 1) (.cons (.var 10) .nil))) (.bor 9)))
 (.cons (.ret (.lit (.bl false)))
 .nil)
 .nil)
 (.cons (.asgN [11, 12] (.cons (.call n_f_share_of (.cons (.var 4) (.cons (.var 3) .nil))) (.cons (.call n_f_share_of (.cons (.var 5) (.cons (.var 7) .nil))) .nil)))
 (.cons (.asgO 8 (.call n_f_share_of (.cons (.var 1) (.cons (.var 9) .nil))))
 (.cons (.ifS (.cmp .ne (.bin .mul (.bin .mul (.idx (.bor 8) (.lit (.int 0))) (.idx (.bor 11) (.lit (.int 1)))) (.idx (.bor 12) (.lit (.int 1)))) (.bin .mul (.bin .mul (.idx (.bor 8) (.lit (.int 1))) (.idx (.bor 11) (.lit (.int 0)))) (.idx (.bor 12) (.lit (.int 0)))))
 (.cons (.ret (.lit (.bl false)))
 .nil)
 .nil)
 (.cons (.ifS (.cmp .ne (.call n_f_weight (.cons (.var 1) (.cons (.var 9) .nil))) (.bin .add (.call n_f_weight (.cons (.var 4) (.cons (.var 3) .nil))) (.call n_f_weight (.cons (.var 5) (.cons (.var 7) .nil)))))
 (.cons (.ret (.lit (.bl false)))
 .nil)
 .nil)
 (.cons (.ifS (.cmp .ne (.call n_f_mirrored_worth (.cons (.var 1) (.cons (.var 9) .nil))) (.tup (.cons (.call n_f_mirrored_worth (.cons (.var 5) (.cons (.var 7) .nil))) (.cons (.call n_f_mirrored_worth (.cons (.var 4) (.cons (.var 3) .nil))) .nil))))
 (.cons (.ret (.lit (.bl false)))
 .nil)
 .nil)
 .nil))))))))
 .nil))
 (.cons (.ifS (.or (.cmp .ne (.call n_f_mean (.cons (.var 1) .nil)) (.call n_f_law_plus (.cons (.call n_f_mean (.cons (.var 4) .nil)) (.cons (.call n_f_mean (.cons (.var 5) .nil)) .nil)))) (.cmp .ne (.call n_f_mirrored (.cons (.var 1) .nil)) (.tup (.cons (.lit (.str "row")) (.cons (.tup (.cons (.call n_f_mirrored (.cons (.var 5) .nil)) (.cons (.call n_f_mirrored (.cons (.var 4) .nil)) .nil))) .nil)))))
 (.cons (.ret (.lit (.bl false)))
 .nil)
 .nil)
 (.cons (.ifS (.cmp .ne (.call n_f_reach (.cons (.var 1) .nil)) (.bi .tuple (.cons (.comp (.bin .add (.idx (.call n_f_reach (.cons (.var 4) .nil)) (.bor 13)) (.idx (.call n_f_reach (.cons (.var 5) .nil)) (.bor 13))) (.one 13) .seq (.tup (.cons (.lit (.int 0)) (.cons (.lit (.int 1)) .nil))) .no [13] (.lit (.bl true))) .nil)))
 (.cons (.ret (.lit (.bl false)))
 .nil)
 .nil)
 (.cons (.opq)
 (.cons (.ifS (.cmp .ne (.call n_f_is_within (.cons (.var 1) (.cons (.tup (.cons (.lit (.str "row")) (.cons (.tup (.cons (.var 6) (.cons (.var 5) .nil))) .nil))) .nil))) (.call n_f_is_within (.cons (.var 4) (.cons (.var 6) .nil))))
 (.cons (.ret (.lit (.bl false)))
 .nil)
 .nil)
 (.cons (.ret (.cmp .eq (.call n_f_are_apart (.cons (.var 1) (.cons (.tup (.cons (.lit (.str "row")) (.cons (.tup (.cons (.var 6) (.cons (.var 5) .nil))) .nil))) .nil))) (.call n_f_are_apart (.cons (.var 4) (.cons (.var 6) .nil)))))
 .nil)))))))))))⟩
/-- with_part (k50) -/
def f_with_part : Fn := ⟨3, 3,
 (.cons (.ret (.bin .add (.bin .add (.slice (.bor 0) .no (.bor 1)) (.tup (.cons (.var 2) .nil))) (.slice (.bor 0) (.bin .add (.bor 1) (.lit (.int 1))) .no)))
 .nil)⟩
/-- lesser_in (k50) -/
def f_lesser_in : Fn := ⟨2, 10,
 (.cons (.ifS (.cmp .eq (.idx (.bor 0) (.lit (.int 0))) (.lit (.str "whole")))
 (.cons (.ifS (.cmp .eq (.bor 1) (.call n_f_home (.cons (.var 0) .nil)))
 (.cons (.ret (.lst .nil))
 .nil)
 .nil)
 (.cons (.ret (.lst (.cons (.ite (.cmp .gt (.bor 1) (.call n_f_home (.cons (.var 0) .nil))) (.bin .sub (.bor 1) (.lit (.int 1))) (.bin .add (.bor 1) (.lit (.int 1)))) .nil)))
 .nil))
 .nil)
 (.cons (.ifS (.cmp .eq (.idx (.bor 0) (.lit (.int 0))) (.lit (.str "pick")))
 (.cons (.asgO 4 (.comp (.var 7) (.many [7, 8]) .seq (.idx (.bor 0) (.lit (.int 1))) .no [7, 8] (.lit (.bl true))))
 (.cons (.asgO 5 (.meth .index (.bor 4) (.cons (.bor 1) .nil)))
 (.cons (.ret (.ite (.cmp .gt (.bor 5) (.lit (.int 0))) (.lst (.cons (.idx (.bor 4) (.bin .sub (.bor 5) (.lit (.int 1)))) .nil)) (.lst .nil)))
 .nil)))
 .nil)
 (.cons (.asgO 2 (.lst .nil))
 (.cons (.asgO 3 (.ite (.cmp .eq (.idx (.bor 0) (.lit (.int 0))) (.lit (.str "row"))) (.idx (.bor 0) (.lit (.int 1))) (.bin .mul (.tup (.cons (.idx (.bor 0) (.lit (.int 1))) .nil)) (.bi .len (.cons (.bor 1) .nil)))))
 (.cons (.ifS (.and (.cmp .eq (.idx (.bor 0) (.lit (.int 0))) (.lit (.str "many"))) (.cmp .gt (.bi .len (.cons (.bor 1) .nil)) (.idx (.bor 0) (.lit (.int 2)))))
 (.cons (.asgO 2 (.comp (.bin .add (.slice (.bor 1) .no (.bor 5)) (.slice (.bor 1) (.bin .add (.bor 5) (.lit (.int 1))) .no)) (.one 5) .range1 (.bi .len (.cons (.bor 1) .nil)) .no [5] (.lit (.bl true))))
 .nil)
 .nil)
 (.cons (.fz 3)
 (.cons (.forS (.many [5, 6]) .enum (.var 3) .no
 (.cons (.fz 5)
 (.cons (.ext 2 (.comp (.call n_f_with_part (.cons (.var 1) (.cons (.var 5) (.cons (.var 9) .nil)))) (.one 9) .seq (.call n_f_lesser_in (.cons (.var 6) (.cons (.idx (.bor 1) (.bor 5)) .nil))) .no [9] (.lit (.bl true))))
 .nil)))
 (.cons (.ret (.bor 2))
 .nil))))))))⟩
/-- lesser (k50) -/
def f_lesser : Fn := ⟨2, 2,
 (.cons (.exp (.call n_f_look_worth (.cons (.var 0) (.cons (.var 1) .nil))))
 (.cons (.ret (.call n_f_lesser_in (.cons (.var 0) (.cons (.var 1) .nil))))
 .nil))⟩
/-- law_tried (k50) -/
def f_law_tried_7 : Fn := ⟨3, 6,
 (.cons (.asgO 3 (.lit (.non)))
 (.cons (.asgO 4 (.lit (.non)))
 (.cons (.tryK (.asg 4 (.ite (.cmp .eq (.bor 0) (.lit (.int 0))) (.call n_f_lesser (.cons (.var 1) (.cons (.var 2) .nil))) (.call n_f_weight (.cons (.var 1) (.cons (.var 2) .nil))))) 5 3 [1, 2])
 (.cons (.ifS (.cmp .is (.bor 3) (.lit (.non)))
 (.cons (.ret (.bor 4))
 .nil)
 .nil)
 (.cons (.ret (.call n_f_law_word (.cons (.var 3) .nil)))
 .nil)))))⟩
/-- law_weight (k50) -/
def f_law_weight : Fn := ⟨2, 8,
 (.cons (.ifS (.cmp .eq (.idx (.bor 0) (.lit (.int 0))) (.lit (.str "whole")))
 (.cons (.ret (.bi .min1 (.cons (.comp (.bi .abs (.cons (.bin .sub (.bor 1) (.bor 4)) .nil)) (.one 4) .range2 (.idx (.bor 0) (.lit (.int 1))) (.bin .add (.idx (.bor 0) (.lit (.int 2))) (.lit (.int 1))) [4] (.cmp .eq (.bi .abs (.cons (.bor 4) .nil)) (.call n_f_law_nearest (.cons (.var 0) .nil)))) .nil)))
 .nil)
 .nil)
 (.cons (.ifS (.cmp .eq (.idx (.bor 0) (.lit (.int 0))) (.lit (.str "pick")))
 (.cons (.ret (.meth .index (.comp (.var 6) (.many [6, 7]) .seq (.idx (.bor 0) (.lit (.int 1))) .no [6, 7] (.lit (.bl true))) (.cons (.bor 1) .nil)))
 .nil)
 .nil)
 (.cons (.asgO 2 (.ite (.cmp .eq (.idx (.bor 0) (.lit (.int 0))) (.lit (.str "row"))) (.idx (.bor 0) (.lit (.int 1))) (.bin .mul (.lst (.cons (.idx (.bor 0) (.lit (.int 1))) .nil)) (.bi .len (.cons (.bor 1) .nil)))))
 (.cons (.asgO 3 (.ite (.cmp .eq (.idx (.bor 0) (.lit (.int 0))) (.lit (.str "row"))) (.lit (.int 0)) (.bin .sub (.bi .len (.cons (.bor 1) .nil)) (.idx (.bor 0) (.lit (.int 2))))))
 (.cons (.fz 2)
 (.cons (.forS (.many [4, 5]) .zip (.var 2) (.var 1)
 (.cons (.asgO 3 (.bin .add (.bor 3) (.call n_f_law_weight (.cons (.var 4) (.cons (.var 5) .nil)))))
 .nil))
 (.cons (.ret (.bor 3))
 .nil)))))))⟩
/-- law_nearest (k50) -/
def f_law_nearest : Fn := ⟨1, 2,
 (.cons (.ret (.bi .min1 (.cons (.comp (.bi .abs (.cons (.bor 1) .nil)) (.one 1) .range2 (.idx (.bor 0) (.lit (.int 1))) (.bin .add (.idx (.bor 0) (.lit (.int 2))) (.lit (.int 1))) [1] (.lit (.bl true))) .nil)))
 .nil)⟩
/-- law_lesser (k50) -/
def f_law_lesser : Fn := ⟨2, 7,
 (.cons (.ifS (.cmp .in_ (.idx (.bor 0) (.lit (.int 0))) (.tup (.cons (.lit (.str "whole")) (.cons (.lit (.str "pick")) .nil))))
 (.cons (.asgO 4 (.comp (.var 5) (.one 5) .seq (.call n_f_law_all (.cons (.var 0) .nil)) .no [5] (.cmp .eq (.call n_f_law_weight (.cons (.var 0) (.cons (.var 5) .nil))) (.bin .sub (.call n_f_law_weight (.cons (.var 0) (.cons (.var 1) .nil))) (.lit (.int 1))))))
 (.cons (.ifS (.cmp .eq (.idx (.bor 0) (.lit (.int 0))) (.lit (.str "whole")))
 (.cons (.asgO 4 (.comp (.var 5) (.one 5) .seq (.bor 4) .no [5] (.cmp .eq (.bi .abs (.cons (.bin .sub (.bor 5) (.bor 1)) .nil)) (.lit (.int 1)))))
 .nil)
 .nil)
 (.cons (.ret (.bor 4))
 .nil)))
 .nil)
 (.cons (.asgO 2 (.lst .nil))
 (.cons (.ifS (.and (.cmp .eq (.idx (.bor 0) (.lit (.int 0))) (.lit (.str "many"))) (.cmp .gt (.bi .len (.cons (.bor 1) .nil)) (.idx (.bor 0) (.lit (.int 2)))))
 (.cons (.asgO 2 (.comp (.bin .add (.slice (.bor 1) .no (.bor 3)) (.slice (.bor 1) (.bin .add (.bor 3) (.lit (.int 1))) .no)) (.one 3) .range1 (.bi .len (.cons (.bor 1) .nil)) .no [3] (.lit (.bl true))))
 .nil)
 .nil)
 (.cons (.forS (.one 3) .range1 (.bi .len (.cons (.bor 1) .nil)) .no
 (.cons (.asgO 5 (.ite (.cmp .eq (.idx (.bor 0) (.lit (.int 0))) (.lit (.str "row"))) (.idx (.idx (.bor 0) (.lit (.int 1))) (.bor 3)) (.idx (.bor 0) (.lit (.int 1)))))
 (.cons (.ext 2 (.comp (.bin .add (.bin .add (.slice (.bor 1) .no (.bor 3)) (.tup (.cons (.var 6) .nil))) (.slice (.bor 1) (.bin .add (.bor 3) (.lit (.int 1))) .no)) (.one 6) .seq (.call n_f_law_lesser (.cons (.var 5) (.cons (.idx (.bor 1) (.bor 3)) .nil))) .no [6] (.lit (.bl true))))
 .nil)))
 (.cons (.ret (.bor 2))
 .nil)))))⟩
/-- law (k50) -/
def law_k50 : Fn := ⟨1, 13,
 (.cons (.asgO 1 (.call n_f_law_small (.cons (.var 0) (.cons (.lit (.int 0)) (.cons (.lit (.int 60)) .nil)))))
 (.cons (.fz 1)
 (.cons (.asgO 2 (.call n_f_law_all (.cons (.var 1) .nil)))
 (.cons (.fz 1)
 (.cons (.asgO 3 (.comp (.var 7) (.one 7) .seq (.bor 2) .no [7] (.cmp .eq (.call n_f_law_weight (.cons (.var 1) (.cons (.var 7) .nil))) (.lit (.int 0)))))
 (.cons (.forS (.one 4) .range1 (.lit (.int 6)) .no
 (.cons (.asgO 7 (.idx (.bor 2) (.call n_f_law_pick (.cons (.var 0) (.cons (.bin .add (.lit (.int 4000)) (.bor 4)) (.cons (.bi .len (.cons (.bor 2) .nil)) .nil))))))
 (.cons (.fz 1)
 (.cons (.asgO 8 (.call n_f_law_lesser (.cons (.var 1) (.cons (.var 7) .nil))))
 (.cons (.fz 1)
 (.cons (.ifS (.or (.cmp .ne (.call n_f_law_tried_7 (.cons (.lit (.int 0)) (.cons (.var 1) (.cons (.var 7) .nil)))) (.bor 8)) (.cmp .ne (.call n_f_law_tried_7 (.cons (.lit (.int 1)) (.cons (.var 1) (.cons (.var 7) .nil)))) (.call n_f_law_weight (.cons (.var 1) (.cons (.var 7) .nil)))))
 (.cons (.ret (.lit (.bl false)))
 .nil)
 .nil)
 (.cons (.fz 1)
 (.cons (.ifS (.cmp .ne (.comp (.var 11) (.one 11) .seq (.bor 8) .no [11] (.or (.cmp .notin (.bor 11) (.bor 2)) (.cmp .ge (.call n_f_weight (.cons (.var 1) (.cons (.var 11) .nil))) (.call n_f_weight (.cons (.var 1) (.cons (.var 7) .nil)))))) (.lst .nil))
 (.cons (.ret (.lit (.bl false)))
 .nil)
 .nil)
 (.cons (.fz 1)
 (.cons (.asgO 9 (.comp (.call n_f_weight (.cons (.var 1) (.cons (.var 11) .nil))) (.one 11) .seq (.bor 8) .no [11] (.lit (.bl true))))
 (.cons (.fz 1)
 (.cons (.ifS (.and (.cmp .ne (.bor 8) (.lst .nil)) (.cmp .ne (.bi .max1 (.cons (.bor 9) .nil)) (.bin .sub (.call n_f_weight (.cons (.var 1) (.cons (.var 7) .nil))) (.lit (.int 1)))))
 (.cons (.ret (.lit (.bl false)))
 .nil)
 .nil)
 (.cons (.asgO 10 (.lit (.int 0)))
 (.cons (.whl (.cmp .ne (.bor 8) (.lst .nil))
 (.cons (.asgO 7 (.idx (.bor 8) (.call n_f_law_pick (.cons (.var 0) (.cons (.bin .add (.lit (.int 4100)) (.bor 10)) (.cons (.bi .len (.cons (.bor 8) .nil)) .nil))))))
 (.cons (.asgO 10 (.bin .add (.bor 10) (.lit (.int 1))))
 (.cons (.fz 1)
 (.cons (.asgO 8 (.call n_f_lesser (.cons (.var 1) (.cons (.var 7) .nil))))
 .nil)))))
 (.cons (.ifS (.cmp .ne (.lst (.cons (.var 7) .nil)) (.bor 3))
 (.cons (.ret (.lit (.bl false)))
 .nil)
 .nil)
 .nil)))))))))))))))
 (.cons (.asgO 5 (.call n_f_law_spoilt_thing (.cons (.var 0) (.cons (.lit (.int 4300)) (.cons (.idx (.bor 2) (.lit (.int 0))) .nil)))))
 (.cons (.fz 1)
 (.cons (.fz 5)
 (.cons (.ifS (.and (.cmp .notin (.bor 5) (.bor 2)) (.cmp .ne (.comp (.call n_f_law_tried_7 (.cons (.var 12) (.cons (.var 1) (.cons (.var 5) .nil)))) (.one 12) .range1 (.lit (.int 2)) .no [12] (.lit (.bl true))) (.bin .mul (.lst (.cons (.lit (.str "no worth")) .nil)) (.lit (.int 2)))))
 (.cons (.ret (.lit (.bl false)))
 .nil)
 .nil)
 (.cons (.fz 1)
 (.cons (.asgO 6 (.call n_f_law_spoilt_thing (.cons (.var 0) (.cons (.lit (.int 4400)) (.cons (.var 1) .nil)))))
 (.cons (.fz 6)
 (.cons (.ret (.or (.call n_f_law_is_kind (.cons (.var 6) (.cons (.lit (.int 3)) .nil))) (.cmp .eq (.comp (.call n_f_law_tried_7 (.cons (.var 12) (.cons (.var 6) (.cons (.lit (.non)) .nil)))) (.one 12) .range1 (.lit (.int 2)) .no [12] (.lit (.bl true))) (.bin .mul (.lst (.cons (.lit (.str "no kind")) .nil)) (.lit (.int 2))))))
 .nil))))))))))))))⟩
/-- led_down (k51) -/
def f_led_down : Fn := ⟨3, 6,
 (.cons (.exp (.call n_f_look_rule (.cons (.var 2) .nil)))
 (.cons (.exp (.call n_f_look_worth (.cons (.var 0) (.cons (.var 1) .nil))))
 (.cons (.ifS (.call n_f_does_keep (.cons (.var 2) (.cons (.var 1) .nil)))
 (.cons (.raise 2)
 .nil)
 .nil)
 (.cons (.asgO 3 (.lst (.cons (.var 1) .nil)))
 (.cons (.asgO 4 (.comp (.var 5) (.one 5) .seq (.call n_f_lesser_in (.cons (.var 0) (.cons (.var 1) .nil))) .no [5] (.not (.call n_f_does_keep (.cons (.var 2) (.cons (.var 5) .nil))))))
 (.cons (.whl (.cmp .ne (.bor 4) (.lst .nil))
 (.cons (.app 3 (.idx (.bor 4) (.lit (.int 0))))
 (.cons (.asgO 4 (.comp (.var 5) (.one 5) .seq (.call n_f_lesser_in (.cons (.var 0) (.cons (.idx (.bor 4) (.lit (.int 0))) .nil))) .no [5] (.not (.call n_f_does_keep (.cons (.var 2) (.cons (.var 5) .nil))))))
 .nil)))
 (.cons (.ret (.bor 3))
 .nil)))))))⟩
/-- least_breaking (k51) -/
def f_least_breaking : Fn := ⟨2, 4,
 (.cons (.exp (.call n_f_look_rule (.cons (.var 1) .nil)))
 (.cons (.asgO 2 (.lit (.non)))
 (.cons (.forS (.one 3) .seq (.fr (.call n_f_all_worths (.cons (.var 0) .nil))) .no
 (.cons (.ifS (.not (.call n_f_does_keep (.cons (.var 1) (.cons (.var 3) .nil))))
 (.cons (.ifS (.or (.cmp .is (.bor 2) (.lit (.non))) (.cmp .lt (.call n_f_weight_in (.cons (.var 0) (.cons (.var 3) .nil))) (.call n_f_weight_in (.cons (.var 0) (.cons (.var 2) .nil)))))
 (.cons (.asgO 2 (.var 3))
 .nil)
 .nil)
 .nil)
 .nil)
 .nil))
 (.cons (.ret (.bor 2))
 .nil))))⟩
/-- law_tried (k51) -/
def f_law_tried_8 : Fn := ⟨4, 7,
 (.cons (.asgO 4 (.lit (.non)))
 (.cons (.asgO 5 (.lit (.non)))
 (.cons (.tryK (.asg 5 (.ite (.cmp .eq (.bor 0) (.lit (.int 0))) (.call n_f_led_down (.cons (.var 1) (.cons (.var 2) (.cons (.var 3) .nil)))) (.call n_f_least_breaking (.cons (.var 1) (.cons (.var 3) .nil))))) 6 4 [1, 2, 3, 4])
 (.cons (.ifS (.cmp .is (.bor 4) (.lit (.non)))
 (.cons (.ret (.bor 5))
 .nil)
 .nil)
 (.cons (.ret (.call n_f_law_word (.cons (.var 4) .nil)))
 .nil)))))⟩
/-- law (k51) -/
def law_k51 : Fn := ⟨1, 18,
 (.cons (.asgO 1 (.call n_f_law_small (.cons (.var 0) (.cons (.lit (.int 0)) (.cons (.lit (.int 60)) .nil)))))
 (.cons (.asgO 2 (.call n_f_law_rule (.cons (.var 0) (.cons (.lit (.int 4000)) (.cons (.lit (.int 3)) .nil)))))
 (.cons (.fz 1)
 (.cons (.asgO 3 (.call n_f_law_all (.cons (.var 1) .nil)))
 (.cons (.fz 2)
 (.cons (.asgO 4 (.comp (.var 10) (.one 10) .seq (.bor 3) .no [10] (.not (.call n_f_law_keeps (.cons (.var 2) (.cons (.var 10) .nil))))))
 (.cons (.fz 1)
 (.cons (.asgO 5 (.comp (.tup (.cons (.call n_f_weight (.cons (.var 1) (.cons (.var 10) .nil))) (.cons (.var 7) .nil))) (.many [7, 10]) .enum (.bor 3) .no [7, 10] (.cmp .in_ (.bor 10) (.bor 4))))
 (.cons (.asgO 6 (.ite (.cmp .ne (.bor 5) (.lst .nil)) (.idx (.bor 3) (.idx (.bi .min1 (.cons (.bor 5) .nil)) (.lit (.int 1)))) (.lit (.non))))
 (.cons (.fz 1)
 (.cons (.fz 2)
 (.cons (.ifS (.cmp .ne (.call n_f_law_tried_8 (.cons (.lit (.int 1)) (.cons (.var 1) (.cons (.lit (.non)) (.cons (.var 2) .nil))))) (.bor 6))
 (.cons (.ret (.lit (.bl false)))
 .nil)
 .nil)
 (.cons (.forS (.one 7) .range1 (.lit (.int 4)) .no
 (.cons (.asgO 10 (.idx (.bor 3) (.call n_f_law_pick (.cons (.var 0) (.cons (.bin .add (.lit (.int 4500)) (.bor 7)) (.cons (.bi .len (.cons (.bor 3) .nil)) .nil))))))
 (.cons (.fz 1)
 (.cons (.fz 2)
 (.cons (.asgO 11 (.call n_f_law_tried_8 (.cons (.lit (.int 0)) (.cons (.var 1) (.cons (.var 10) (.cons (.var 2) .nil))))))
 (.cons (.ifS (.cmp .notin (.bor 10) (.bor 4))
 (.cons (.ifS (.cmp .ne (.bor 11) (.lit (.str "no worth")))
 (.cons (.ret (.lit (.bl false)))
 .nil)
 .nil)
 .nil)
 (.cons (.asgO 14 (.lst (.cons (.var 10) .nil)))
 (.cons (.fz 1)
 (.cons (.fz 2)
 (.cons (.asgO 15 (.comp (.var 17) (.one 17) .seq (.call n_f_lesser (.cons (.var 1) (.cons (.var 10) .nil))) .no [17] (.not (.call n_f_law_keeps (.cons (.var 2) (.cons (.var 17) .nil))))))
 (.cons (.whl (.cmp .ne (.bor 15) (.lst .nil))
 (.cons (.app 14 (.idx (.bor 15) (.lit (.int 0))))
 (.cons (.fz 1)
 (.cons (.fz 2)
 (.cons (.asgO 15 (.comp (.var 17) (.one 17) .seq (.call n_f_lesser (.cons (.var 1) (.cons (.idx (.bor 14) (.neg (.lit (.int 1)))) .nil))) .no [17] (.not (.call n_f_law_keeps (.cons (.var 2) (.cons (.var 17) .nil))))))
 .nil)))))
 (.cons (.fz 1)
 (.cons (.ifS (.or (.cmp .ne (.bor 11) (.bor 14)) (.cmp .lt (.call n_f_weight (.cons (.var 1) (.cons (.idx (.bor 14) (.neg (.lit (.int 1)))) .nil))) (.call n_f_weight (.cons (.var 1) (.cons (.var 6) .nil)))))
 (.cons (.ret (.lit (.bl false)))
 .nil)
 .nil)
 .nil))))))))
 .nil))))))
 (.cons (.asgO 8 (.tup (.cons (.lit (.str "row")) (.cons (.tup (.cons (.tup (.cons (.lit (.str "whole")) (.cons (.lit (.int 0)) (.cons (.lit (.int 19)) .nil)))) (.cons (.tup (.cons (.lit (.str "whole")) (.cons (.lit (.int 1)) (.cons (.lit (.int 6)) .nil)))) (.cons (.tup (.cons (.lit (.str "whole")) (.cons (.lit (.int 0)) (.cons (.lit (.int 4)) .nil)))) .nil)))) .nil))))
 (.cons (.asgN [12, 13] (.cons (.call n_f_law_spoilt_thing (.cons (.var 0) (.cons (.lit (.int 6000)) (.cons (.idx (.bor 3) (.lit (.int 0))) .nil)))) (.cons (.tup (.cons (.lit (.str "sum")) (.cons (.lit (.int 1)) .nil))) .nil)))
 (.cons (.fz 1)
 (.cons (.fz 2)
 (.cons (.ifS (.and (.cmp .notin (.bor 12) (.bor 3)) (.cmp .ne (.call n_f_law_tried_8 (.cons (.lit (.int 0)) (.cons (.var 1) (.cons (.var 12) (.cons (.var 2) .nil))))) (.lit (.str "no worth"))))
 (.cons (.ret (.lit (.bl false)))
 .nil)
 .nil)
 (.cons (.fz 2)
 (.cons (.ifS (.cmp .ne (.lst (.cons (.call n_f_law_tried_8 (.cons (.lit (.int 1)) (.cons (.var 8) (.cons (.lit (.non)) (.cons (.var 2) .nil))))) (.cons (.call n_f_law_tried_8 (.cons (.lit (.int 1)) (.cons (.var 8) (.cons (.lit (.non)) (.cons (.var 13) .nil))))) .nil))) (.lst (.cons (.lit (.str "too many")) (.cons (.lit (.str "no rule")) .nil))))
 (.cons (.ret (.lit (.bl false)))
 .nil)
 .nil)
 (.cons (.ifS (.cmp .ne (.comp (.call n_f_law_tried_8 (.cons (.var 16) (.cons (.tup (.cons (.lit (.str "whole")) .nil)) (.cons (.var 12) (.cons (.var 13) .nil))))) (.one 16) .range1 (.lit (.int 2)) .no [16] (.lit (.bl true))) (.bin .mul (.lst (.cons (.lit (.str "no rule")) .nil)) (.lit (.int 2))))
 (.cons (.ret (.lit (.bl false)))
 .nil)
 .nil)
 (.cons (.fz 1)
 (.cons (.asgO 9 (.call n_f_law_spoilt_thing (.cons (.var 0) (.cons (.lit (.int 6100)) (.cons (.var 1) .nil)))))
 (.cons (.fz 2)
 (.cons (.fz 9)
 (.cons (.ret (.or (.call n_f_law_is_kind (.cons (.var 9) (.cons (.lit (.int 3)) .nil))) (.cmp .eq (.comp (.call n_f_law_tried_8 (.cons (.var 16) (.cons (.var 9) (.cons (.lit (.non)) (.cons (.var 2) .nil))))) (.one 16) .range1 (.lit (.int 2)) .no [16] (.lit (.bl true))) (.bin .mul (.lst (.cons (.lit (.str "no kind")) .nil)) (.lit (.int 2))))))
 .nil))))))))))))))))))))))))))⟩
/-- law (k52) -/
def law_k52 : Fn := ⟨1, 16,
 (.cons (.asgO 1 (.call n_f_law_small (.cons (.var 0) (.cons (.lit (.int 0)) (.cons (.lit (.int 40)) .nil)))))
 (.cons (.asgN [8, 9] (.cons (.call n_f_law_rule (.cons (.var 0) (.cons (.lit (.int 4000)) (.cons (.lit (.int 2)) .nil)))) (.cons (.call n_f_law_rule (.cons (.var 0) (.cons (.lit (.int 4500)) (.cons (.lit (.int 2)) .nil)))) .nil)))
 (.cons (.fz 1)
 (.cons (.asgO 2 (.call n_f_law_all (.cons (.var 1) .nil)))
 (.cons (.fz 1)
 (.cons (.asgN [10, 11] (.cons (.call n_f_least_breaking (.cons (.var 1) (.cons (.var 8) .nil))) (.cons (.call n_f_least_breaking (.cons (.var 1) (.cons (.var 9) .nil))) .nil)))
 (.cons (.fz 1)
 (.cons (.asgN [12, 13] (.cons (.call n_f_least_breaking (.cons (.var 1) (.cons (.tup (.cons (.lit (.str "all")) (.cons (.var 8) (.cons (.var 9) .nil)))) .nil))) (.cons (.call n_f_least_breaking (.cons (.var 1) (.cons (.tup (.cons (.lit (.str "some")) (.cons (.var 8) (.cons (.var 9) .nil)))) .nil))) .nil)))
 (.cons (.fz 1)
 (.cons (.asgO 3 (.comp (.call n_f_weight (.cons (.var 1) (.cons (.var 15) .nil))) (.one 15) .seq (.tup (.cons (.var 10) (.cons (.var 11) .nil))) .no [15] (.cmp .isnot (.bor 15) (.lit (.non)))))
 (.cons (.fz 1)
 (.cons (.ifS (.or (.cmp .ne (.cmp .is (.bor 12) (.lit (.non))) (.cmp .eq (.bor 3) (.lst .nil))) (.and (.cmp .isnot (.bor 12) (.lit (.non))) (.cmp .ne (.call n_f_weight (.cons (.var 1) (.cons (.var 12) .nil))) (.bi .min1 (.cons (.bor 3) .nil)))))
 (.cons (.ret (.lit (.bl false)))
 .nil)
 .nil)
 (.cons (.fz 1)
 (.cons (.ifS (.and (.cmp .isnot (.bor 13) (.lit (.non))) (.or (.cmp .is (.bor 10) (.lit (.non))) (.or (.cmp .is (.bor 11) (.lit (.non))) (.cmp .lt (.call n_f_weight (.cons (.var 1) (.cons (.var 13) .nil))) (.bi .max1 (.cons (.bor 3) .nil))))))
 (.cons (.ret (.lit (.bl false)))
 .nil)
 .nil)
 (.cons (.asgO 4 (.call n_f_law_rule (.cons (.var 0) (.cons (.lit (.int 5000)) (.cons (.lit (.int 1)) .nil)))))
 (.cons (.fz 1)
 (.cons (.fz 4)
 (.cons (.ifS (.cmp .isnot (.call n_f_least_breaking (.cons (.var 1) (.cons (.tup (.cons (.lit (.str "some")) (.cons (.var 4) (.cons (.tup (.cons (.lit (.str "no")) (.cons (.var 4) .nil))) .nil)))) .nil))) (.lit (.non)))
 (.cons (.ret (.lit (.bl false)))
 .nil)
 .nil)
 (.cons (.fz 1)
 (.cons (.fz 4)
 (.cons (.asgO 5 (.call n_f_least_breaking (.cons (.var 1) (.cons (.tup (.cons (.lit (.str "all")) (.cons (.var 4) (.cons (.tup (.cons (.lit (.str "no")) (.cons (.var 4) .nil))) .nil)))) .nil))))
 (.cons (.fz 1)
 (.cons (.fz 5)
 (.cons (.ifS (.or (.cmp .is (.bor 5) (.lit (.non))) (.cmp .ne (.call n_f_weight (.cons (.var 1) (.cons (.var 5) .nil))) (.lit (.int 0))))
 (.cons (.ret (.lit (.bl false)))
 .nil)
 .nil)
 (.cons (.ifS (.and (.cmp .isnot (.bor 12) (.lit (.non))) (.call n_f_law_keeps (.cons (.tup (.cons (.lit (.str "all")) (.cons (.var 8) (.cons (.var 9) .nil)))) (.cons (.var 12) .nil))))
 (.cons (.ret (.lit (.bl false)))
 .nil)
 .nil)
 (.cons (.ifS (.and (.cmp .isnot (.bor 12) (.lit (.non))) (.cmp .notin (.bor 12) (.bor 2)))
 (.cons (.ret (.lit (.bl false)))
 .nil)
 .nil)
 (.cons (.asgO 6 (.call n_f_law_small (.cons (.var 0) (.cons (.lit (.int 6000)) (.cons (.lit (.int 40)) .nil)))))
 (.cons (.fz 1)
 (.cons (.fz 6)
 (.cons (.asgO 7 (.call n_f_both (.cons (.var 1) (.cons (.var 6) .nil))))
 (.cons (.ifS (.cmp .isnot (.bor 7) (.lit (.non)))
 (.cons (.fz 7)
 (.cons (.asgO 14 (.comp (.var 15) (.one 15) .seq (.call n_f_law_all (.cons (.var 7) .nil)) .no [15] (.not (.call n_f_law_keeps (.cons (.var 8) (.cons (.var 15) .nil))))))
 (.cons (.fz 7)
 (.cons (.ifS (.or (.cmp .ne (.cmp .is (.call n_f_least_breaking (.cons (.var 7) (.cons (.var 8) .nil))) (.lit (.non))) (.cmp .eq (.bor 14) (.lst .nil))) (.and (.cmp .ne (.bor 14) (.lst .nil)) (.cmp .is (.bor 10) (.lit (.non)))))
 (.cons (.ret (.lit (.bl false)))
 .nil)
 .nil)
 .nil))))
 .nil)
 (.cons (.fz 1)
 (.cons (.ret (.cmp .eq (.cmp .is (.bor 10) (.lit (.non))) (.cmp .eq (.bi .len (.cons (.call n_f_keepers (.cons (.var 1) (.cons (.var 8) .nil))) .nil)) (.bi .len (.cons (.bor 2) .nil)))))
 .nil)))))))))))))))))))))))))))))))))⟩
/-- law (k54) -/
def law_k54 : Fn := ⟨1, 17,
 (.cons (.asgO 1 (.call n_f_law_small (.cons (.var 0) (.cons (.lit (.int 0)) (.cons (.lit (.int 40)) .nil)))))
 (.cons (.asgN [5, 6] (.cons (.call n_f_law_rule (.cons (.var 0) (.cons (.lit (.int 3000)) (.cons (.lit (.int 2)) .nil)))) (.cons (.call n_f_law_rule (.cons (.var 0) (.cons (.lit (.int 3200)) (.cons (.lit (.int 2)) .nil)))) .nil)))
 (.cons (.fz 1)
 (.cons (.asgN [7, 8] (.cons (.call n_f_least_breaking (.cons (.var 1) (.cons (.var 5) .nil))) (.cons (.lst .nil) .nil)))
 (.cons (.fz 1)
 (.cons (.forS (.one 2) .seq (.fr (.call n_f_parted (.cons (.var 1) (.cons (.lst (.cons (.var 5) .nil)) .nil)))) .no
 (.cons (.ifS (.not (.call n_f_law_keeps (.cons (.var 5) (.cons (.idx (.bor 2) (.lit (.int 0))) .nil))))
 (.cons (.asgO 8 (.var 2))
 .nil)
 .nil)
 .nil))
 (.cons (.ifS (.cmp .ne (.cmp .is (.bor 7) (.lit (.non))) (.cmp .eq (.bor 8) (.lst .nil)))
 (.cons (.ret (.lit (.bl false)))
 .nil)
 .nil)
 (.cons (.fz 1)
 (.cons (.ifS (.cmp .ne (.bi .len (.cons (.bor 8) .nil)) (.bi .sum (.cons (.comp (.idx (.bor 14) (.lit (.int 1))) (.one 14) .seq (.call n_f_tally (.cons (.var 1) (.cons (.lst (.cons (.var 5) .nil)) .nil))) .no [14] (.cmp .eq (.idx (.bor 14) (.lit (.int 0))) (.tup (.cons (.lit (.bl false)) .nil)))) .nil)))
 (.cons (.ret (.lit (.bl false)))
 .nil)
 .nil)
 (.cons (.ifS (.cmp .isnot (.bor 7) (.lit (.non)))
 (.cons (.fz 1)
 (.cons (.asgO 9 (.bi .min1 (.cons (.comp (.call n_f_weight (.cons (.var 1) (.cons (.var 10) .nil))) (.one 10) .seq (.bor 8) .no [10] (.lit (.bl true))) .nil)))
 (.cons (.fz 1)
 (.cons (.ifS (.cmp .ne (.bor 7) (.idx (.comp (.var 10) (.one 10) .seq (.bor 8) .no [10] (.cmp .eq (.call n_f_weight (.cons (.var 1) (.cons (.var 10) .nil))) (.bor 9))) (.lit (.int 0))))
 (.cons (.ret (.lit (.bl false)))
 .nil)
 .nil)
 .nil))))
 .nil)
 (.cons (.forS (.one 3) .range1 (.bi .min2 (.cons (.lit (.int 3)) (.cons (.bi .len (.cons (.bor 8) .nil)) .nil))) .no
 (.cons (.asgO 10 (.idx (.bor 8) (.call n_f_law_pick (.cons (.var 0) (.cons (.bin .add (.lit (.int 100)) (.bor 3)) (.cons (.bi .len (.cons (.bor 8) .nil)) .nil))))))
 (.cons (.fz 1)
 (.cons (.asgO 11 (.call n_f_led_down (.cons (.var 1) (.cons (.var 10) (.cons (.var 5) .nil)))))
 (.cons (.ifS (.or (.cmp .ne (.idx (.bor 11) (.lit (.int 0))) (.bor 10)) (.cmp .ne (.comp (.lit (.int 1)) (.one 13) .seq (.bor 11) .no [13] (.cmp .notin (.bor 13) (.bor 8))) (.lst .nil)))
 (.cons (.ret (.lit (.bl false)))
 .nil)
 .nil)
 (.cons (.fz 1)
 (.cons (.asgO 12 (.comp (.call n_f_weight (.cons (.var 1) (.cons (.var 13) .nil))) (.one 13) .seq (.bor 11) .no [13] (.lit (.bl true))))
 (.cons (.ifS (.cmp .ne (.comp (.lit (.int 1)) (.many [15, 16]) .zip (.bor 12) (.slice (.bor 12) (.lit (.int 1)) .no) [15, 16] (.cmp .ge (.bor 16) (.bor 15))) (.lst .nil))
 (.cons (.ret (.lit (.bl false)))
 .nil)
 .nil)
 (.cons (.fz 1)
 (.cons (.ifS (.cmp .ne (.comp (.var 13) (.one 13) .seq (.call n_f_lesser (.cons (.var 1) (.cons (.idx (.bor 11) (.neg (.lit (.int 1)))) .nil))) .no [13] (.not (.call n_f_law_keeps (.cons (.var 5) (.cons (.var 13) .nil))))) (.lst .nil))
 (.cons (.ret (.lit (.bl false)))
 .nil)
 .nil)
 .nil))))))))))
 (.cons (.fz 1)
 (.cons (.asgO 4 (.call n_f_least_breaking (.cons (.var 1) (.cons (.var 6) .nil))))
 (.cons (.fz 1)
 (.cons (.ifS (.and (.call n_f_implies (.cons (.var 1) (.cons (.var 5) (.cons (.var 6) .nil)))) (.cmp .isnot (.bor 4) (.lit (.non))))
 (.cons (.fz 1)
 (.cons (.fz 4)
 (.cons (.ifS (.or (.cmp .is (.bor 7) (.lit (.non))) (.cmp .gt (.call n_f_weight (.cons (.var 1) (.cons (.var 7) .nil))) (.call n_f_weight (.cons (.var 1) (.cons (.var 4) .nil)))))
 (.cons (.ret (.lit (.bl false)))
 .nil)
 .nil)
 .nil)))
 .nil)
 (.cons (.fz 1)
 (.cons (.ret (.cmp .eq (.call n_f_least_breaking (.cons (.var 1) (.cons (.tup (.cons (.lit (.str "all")) (.cons (.var 5) (.cons (.var 5) .nil)))) .nil))) (.bor 7)))
 .nil)))))))))))))))))⟩
/-- most_asks (k60) -/
def f_most_asks : Fn := ⟨1, 3,
 (.cons (.exp (.call n_f_look_kind (.cons (.var 0) .nil)))
 (.cons (.asgO 1 (.call n_f_count (.cons (.var 0) .nil)))
 (.cons (.asgO 2 (.lit (.int 0)))
 (.cons (.whl (.cmp .gt (.bor 1) (.lit (.int 1)))
 (.cons (.asgO 1 (.bin .fdiv (.bin .add (.bor 1) (.lit (.int 1))) (.lit (.int 2))))
 (.cons (.asgO 2 (.bin .add (.bor 2) (.lit (.int 1))))
 .nil)))
 (.cons (.ret (.bor 2))
 .nil)))))⟩
/-- law_tried (k60) -/
def f_law_tried_9 : Fn := ⟨3, 6,
 (.cons (.asgO 3 (.lit (.non)))
 (.cons (.asgO 4 (.lit (.non)))
 (.cons (.opq)
 (.cons (.ifS (.cmp .is (.bor 3) (.lit (.non)))
 (.cons (.ret (.bor 4))
 .nil)
 .nil)
 (.cons (.ret (.call n_f_law_word (.cons (.var 3) .nil)))
 .nil)))))⟩
/-- law_ends (k60) -/
def f_law_ends : Fn := ⟨2, 3,
 (.cons (.opq)
 (.cons (.ret (.cmp .eq (.comp (.call n_f_law_tried_9 (.cons (.var 2) (.cons (.var 0) (.cons (.lit (.bl true)) .nil)))) (.one 2) .range1 (.lit (.int 2)) .no [2] (.lit (.bl true))) (.bin .mul (.lst (.cons (.lit (.str "ended")) .nil)) (.lit (.int 2)))))
 .nil))⟩
/-- law (k60) -/
def law_k60 : Fn := ⟨1, 16,
 (.cons (.asgO 1 (.call n_f_law_small (.cons (.var 0) (.cons (.lit (.int 0)) (.cons (.lit (.int 120)) .nil)))))
 (.cons (.fz 1)
 (.cons (.asgO 2 (.call n_f_law_all (.cons (.var 1) .nil)))
 (.cons (.fz 1)
 (.cons (.asgO 3 (.call n_f_law_tried_9 (.cons (.lit (.int 2)) (.cons (.var 1) (.cons (.lit (.non)) .nil)))))
 (.cons (.asgO 4 (.lit (.int 1)))
 (.cons (.forS (.one 5) .range1 (.bor 3) .no
 (.cons (.asgO 4 (.bin .mul (.lit (.int 2)) (.bor 4)))
 .nil))
 (.cons (.ifS (.or (.cmp .lt (.bor 4) (.bi .len (.cons (.bor 2) .nil))) (.and (.cmp .gt (.bor 3) (.lit (.int 0))) (.cmp .ge (.bin .fdiv (.bor 4) (.lit (.int 2))) (.bi .len (.cons (.bor 2) .nil)))))
 (.cons (.ret (.lit (.bl false)))
 .nil)
 .nil)
 (.cons (.forS (.one 6) .range1 (.lit (.int 3)) .no
 (.cons (.opq)
 (.cons (.asgO 9 (.call n_f_law_pick (.cons (.var 0) (.cons (.bin .add (.lit (.int 4000)) (.bor 6)) (.cons (.bi .len (.cons (.bor 2) .nil)) .nil)))))
 (.cons (.asgN [11, 12] (.cons (.lit (.int 0)) (.cons (.bin .sub (.bi .len (.cons (.bor 2) .nil)) (.lit (.int 1))) .nil)))
 (.cons (.asgO 10 (.lit (.int 0)))
 (.cons (.whl (.cmp .lt (.bor 11) (.bor 12))
 (.cons (.fz 8)
 (.cons (.asgO 13 (.call n_f_law_tried_9 (.cons (.lit (.int 0)) (.cons (.var 8) (.cons (.lit (.non)) .nil)))))
 (.cons (.opq)
 (.cons (.asgO 14 (.cmp .lt (.bor 9) (.bor 13)))
 (.cons (.ifS (.cmp .eq (.bor 6) (.lit (.int 2)))
 (.cons (.opq)
 .nil)
 .nil)
 (.cons (.fz 8)
 (.cons (.ifS (.cmp .isnot (.call n_f_law_tried_9 (.cons (.lit (.int 1)) (.cons (.var 8) (.cons (.var 14) .nil)))) (.lit (.non)))
 (.cons (.ret (.lit (.bl false)))
 .nil)
 .nil)
 (.cons (.fz 13)
 (.cons (.unp [11, 12] (.ite (.bor 14) (.tup (.cons (.var 11) (.cons (.bin .sub (.bor 13) (.lit (.int 1))) .nil))) (.tup (.cons (.var 13) (.cons (.var 12) .nil)))))
 (.cons (.asgO 10 (.bin .add (.bor 10) (.lit (.int 1))))
 (.cons (.opq)
 .nil))))))))))))
 (.cons (.opq)
 (.cons (.fz 3)
 (.cons (.fz 8)
 (.cons (.ifS (.not (.call n_f_law_ends (.cons (.var 8) (.cons (.var 3) .nil))))
 (.cons (.ret (.lit (.bl false)))
 .nil)
 .nil)
 .nil))))))))))
 (.cons (.fz 1)
 (.cons (.asgO 7 (.call n_f_law_spoilt_thing (.cons (.var 0) (.cons (.lit (.int 4200)) (.cons (.var 1) .nil)))))
 (.cons (.fz 7)
 (.cons (.ret (.or (.call n_f_law_is_kind (.cons (.var 7) (.cons (.lit (.int 3)) .nil))) (.cmp .eq (.comp (.call n_f_law_tried_9 (.cons (.var 15) (.cons (.var 7) (.cons (.lit (.non)) .nil)))) (.one 15) .seq (.tup (.cons (.lit (.int 2)) (.cons (.lit (.int 3)) .nil))) .no [15] (.lit (.bl true))) (.bin .mul (.lst (.cons (.lit (.str "no kind")) .nil)) (.lit (.int 2))))))
 .nil)))))))))))))⟩
/-- text_of (k70) -/
def f_text_of : Fn := ⟨1, 2,
 (.cons (.ifS (.not (.isi (.bor 0) .tuple))
 (.cons (.ret (.bi .str (.cons (.bor 0) .nil)))
 .nil)
 .nil)
 (.cons (.ret (.bin .add (.bin .add (.lit (.str "(")) (.meth .join (.lit (.str " ")) (.cons (.comp (.call n_f_text_of (.cons (.var 1) .nil)) (.one 1) .seq (.bor 0) .no [1] (.lit (.bl true))) .nil))) (.lit (.str ")"))))
 .nil))⟩
/-- worth_text (k70) -/
def f_worth_text : Fn := ⟨2, 2,
 (.cons (.exp (.call n_f_look_worth (.cons (.var 0) (.cons (.var 1) .nil))))
 (.cons (.ret (.call n_f_text_of (.cons (.var 1) .nil)))
 .nil))⟩
/-- leaf (k70) -/
def f_leaf : Fn := ⟨1, 3,
 (.cons (.asgO 1 (.ite (.cmp .eq (.slice (.bor 0) .no (.lit (.int 1))) (.lit (.str "-"))) (.slice (.bor 0) (.lit (.int 1)) .no) (.var 0)))
 (.cons (.ifS (.and (.chain .le .le (.lit (.int 1)) (.bi .len (.cons (.bor 1) .nil)) (.lit (.int 2))) (.bi .all (.cons (.comp (.cmp .in_ (.bor 2) (.glob 8 (.str "0123456789"))) (.one 2) .seq (.bor 1) .no [2] (.lit (.bl true))) .nil)))
 (.cons (.ret (.bi .int (.cons (.bor 0) .nil)))
 .nil)
 .nil)
 (.cons (.ret (.bor 0))
 .nil)))⟩
/-- parts_read (k70) -/
def f_parts_read : Fn := ⟨2, 7,
 (.cons (.asgO 2 (.lst .nil))
 (.cons (.asgO 3 (.lit (.int 0)))
 (.cons (.asgO 4 (.lit (.int 0)))
 (.cons (.forS (.many [5, 6]) .enum (.fr (.bin .add (.bor 0) (.lit (.str " ")))) .no
 (.cons (.ifS (.cmp .eq (.bor 6) (.lit (.str "(")))
 (.cons (.asgO 4 (.bin .add (.bor 4) (.lit (.int 1))))
 .nil)
 (.cons (.ifS (.cmp .eq (.bor 6) (.lit (.str ")")))
 (.cons (.asgO 4 (.bin .sub (.bor 4) (.lit (.int 1))))
 .nil)
 (.cons (.ifS (.and (.cmp .eq (.bor 6) (.lit (.str " "))) (.cmp .eq (.bor 4) (.lit (.int 0))))
 (.cons (.app 2 (.call n_f_worth_in (.cons (.slice (.bor 0) (.bor 3) (.bor 5)) (.cons (.var 1) .nil))))
 (.cons (.asgO 3 (.bin .add (.bor 5) (.lit (.int 1))))
 .nil))
 .nil)
 .nil))
 .nil))
 (.cons (.ifS (.cmp .lt (.bor 4) (.lit (.int 0)))
 (.cons (.raise 6)
 .nil)
 .nil)
 .nil)))
 (.cons (.ifS (.cmp .gt (.bor 4) (.lit (.int 0)))
 (.cons (.raise 6)
 .nil)
 .nil)
 (.cons (.ret (.bi .tuple (.cons (.bor 2) .nil)))
 .nil))))))⟩
/-- worth_in (k70) -/
def f_worth_in : Fn := ⟨2, 2,
 (.cons (.ifS (.cmp .ne (.slice (.bor 0) .no (.lit (.int 1))) (.lit (.str "(")))
 (.cons (.ret (.call n_f_leaf (.cons (.var 0) .nil)))
 .nil)
 .nil)
 (.cons (.ifS (.or (.cmp .eq (.bor 1) (.lit (.int 0))) (.cmp .ne (.slice (.bor 0) (.neg (.lit (.int 1))) .no) (.lit (.str ")"))))
 (.cons (.raise 6)
 .nil)
 .nil)
 (.cons (.ret (.ite (.cmp .ne (.bor 0) (.lit (.str "()"))) (.call n_f_parts_read (.cons (.slice (.bor 0) (.lit (.int 1)) (.neg (.lit (.int 1)))) (.cons (.bin .sub (.bor 1) (.lit (.int 1))) .nil))) (.tup .nil)))
 .nil)))⟩
/-- read_worth (k70) -/
def f_read_worth : Fn := ⟨2, 3,
 (.cons (.exp (.call n_f_look_kind (.cons (.var 0) .nil)))
 (.cons (.asgO 2 (.call n_f_worth_in (.cons (.var 1) (.cons (.lit (.int 4)) .nil))))
 (.cons (.fz 2)
 (.cons (.ifS (.or (.not (.call n_f_has (.cons (.var 0) (.cons (.var 2) .nil)))) (.cmp .ne (.call n_f_text_of (.cons (.var 2) .nil)) (.bor 1)))
 (.cons (.raise 6)
 .nil)
 .nil)
 (.cons (.ret (.bor 2))
 .nil)))))⟩
/-- law_spoilt (k70) -/
def f_law_spoilt : Fn := ⟨3, 7,
 (.cons (.asgO 3 (.bin .mod (.bor 1) (.bin .add (.bi .len (.cons (.bor 0) .nil)) (.lit (.int 1)))))
 (.cons (.asgO 4 (.idx (.bor 2) (.bin .mod (.bin .fdiv (.bor 1) (.lit (.int 1000))) (.bi .len (.cons (.bor 2) .nil)))))
 (.cons (.asgO 5 (.bin .add (.bin .add (.bor 3) (.lit (.int 1))) (.bin .mod (.bin .fdiv (.bor 1) (.lit (.int 7))) (.lit (.int 9)))))
 (.cons (.asgO 6 (.bin .mod (.bin .fdiv (.bor 1) (.lit (.int 100000))) (.lit (.int 8))))
 (.cons (.ifS (.cmp .lt (.bor 6) (.lit (.int 2)))
 (.cons (.ret (.bin .add (.bin .add (.slice (.bor 0) .no (.bor 3)) (.bor 4)) (.slice (.bor 0) (.bor 3) .no)))
 .nil)
 .nil)
 (.cons (.ifS (.cmp .eq (.bor 6) (.lit (.int 2)))
 (.cons (.ret (.bin .add (.slice (.bor 0) .no (.bor 3)) (.slice (.bor 0) (.bin .add (.bor 3) (.lit (.int 1))) .no)))
 .nil)
 .nil)
 (.cons (.ifS (.cmp .lt (.bor 6) (.lit (.int 5)))
 (.cons (.ret (.bin .add (.bin .add (.slice (.bor 0) .no (.bor 3)) (.bor 4)) (.slice (.bor 0) (.bin .add (.bor 3) (.lit (.int 1))) .no)))
 .nil)
 .nil)
 (.cons (.ifS (.cmp .eq (.bor 6) (.lit (.int 5)))
 (.cons (.ret (.bin .add (.slice (.bor 0) .no (.bor 3)) (.slice (.bor 0) (.bor 5) .no)))
 .nil)
 .nil)
 (.cons (.ifS (.cmp .eq (.bor 6) (.lit (.int 6)))
 (.cons (.ret (.bin .add (.slice (.bor 0) .no (.bor 5)) (.slice (.bor 0) (.bor 3) .no)))
 .nil)
 .nil)
 (.cons (.ret (.idx (.lst (.cons (.bin .add (.bor 0) (.lit (.str " "))) (.cons (.bin .add (.lit (.str " ")) (.bor 0)) (.cons (.bin .add (.slice (.bor 0) (.bor 3) .no) (.slice (.bor 0) .no (.bor 3))) (.cons (.lit (.str "")) (.cons (.bin .add (.bor 0) (.bor 0)) .nil)))))) (.bin .mod (.bor 1) (.lit (.int 5)))))
 .nil))))))))))⟩
/-- law_text (k70) -/
def f_law_text : Fn := ⟨1, 4,
 (.cons (.ifS (.not (.isi (.bor 0) .tuple))
 (.cons (.ret (.bi .str (.cons (.bor 0) .nil)))
 .nil)
 .nil)
 (.cons (.asgO 1 (.lit (.str "(")))
 (.cons (.forS (.many [2, 3]) .enum (.var 0) .no
 (.cons (.asgO 1 (.bin .add (.bin .add (.bor 1) (.ite (.cmp .gt (.bor 2) (.lit (.int 0))) (.lit (.str " ")) (.lit (.str "")))) (.call n_f_law_text (.cons (.var 3) .nil))))
 .nil))
 (.cons (.ret (.bin .add (.bor 1) (.lit (.str ")"))))
 .nil))))⟩
/-- law_tried (k70) -/
def f_law_tried_10 : Fn := ⟨3, 6,
 (.cons (.asgO 3 (.lit (.non)))
 (.cons (.asgO 4 (.lit (.non)))
 (.cons (.tryK (.asg 4 (.ite (.cmp .eq (.bor 0) (.lit (.int 0))) (.call n_f_worth_text (.cons (.var 1) (.cons (.var 2) .nil))) (.call n_f_read_worth (.cons (.var 1) (.cons (.var 2) .nil))))) 5 3 [1, 2, 6])
 (.cons (.ifS (.cmp .is (.bor 3) (.lit (.non)))
 (.cons (.ret (.bor 4))
 .nil)
 .nil)
 (.cons (.ret (.call n_f_law_word (.cons (.var 3) .nil)))
 .nil)))))⟩
/-- law (k70) -/
def law_k70 : Fn := ⟨1, 15,
 (.cons (.asgO 1 (.call n_f_law_small (.cons (.var 0) (.cons (.lit (.int 0)) (.cons (.lit (.int 120)) .nil)))))
 (.cons (.fz 1)
 (.cons (.asgO 2 (.call n_f_law_all (.cons (.var 1) .nil)))
 (.cons (.asgO 3 (.comp (.call n_f_law_text (.cons (.var 6) .nil)) (.one 6) .seq (.bor 2) .no [6] (.lit (.bl true))))
 (.cons (.forS (.one 4) .range1 (.lit (.int 5)) .no
 (.cons (.asgO 11 (.call n_f_law_pick (.cons (.var 0) (.cons (.bin .add (.lit (.int 4000)) (.bor 4)) (.cons (.bi .len (.cons (.bor 2) .nil)) .nil)))))
 (.cons (.fz 1)
 (.cons (.ifS (.or (.cmp .ne (.call n_f_law_tried_10 (.cons (.lit (.int 0)) (.cons (.var 1) (.cons (.idx (.bor 2) (.bor 11)) .nil)))) (.idx (.bor 3) (.bor 11))) (.cmp .ne (.call n_f_law_tried_10 (.cons (.lit (.int 1)) (.cons (.var 1) (.cons (.idx (.bor 3) (.bor 11)) .nil)))) (.idx (.bor 2) (.bor 11))))
 (.cons (.ret (.lit (.bl false)))
 .nil)
 .nil)
 (.cons (.asgO 12 (.call n_f_law_spoilt (.cons (.idx (.bor 3) (.bor 11)) (.cons (.call n_f_law_pick (.cons (.var 0) (.cons (.bin .add (.lit (.int 4010)) (.bor 4)) (.cons (.bin .pow (.lit (.int 10)) (.lit (.int 9))) .nil)))) (.cons (.lit (.str "() -0129ab")) .nil)))))
 (.cons (.asgO 13 (.ite (.cmp .in_ (.bor 12) (.bor 3)) (.idx (.bor 2) (.meth .index (.bor 3) (.cons (.bor 12) .nil))) (.lit (.str "no text"))))
 (.cons (.fz 1)
 (.cons (.fz 12)
 (.cons (.ifS (.cmp .ne (.call n_f_law_tried_10 (.cons (.lit (.int 1)) (.cons (.var 1) (.cons (.var 12) .nil)))) (.bor 13))
 (.cons (.ret (.lit (.bl false)))
 .nil)
 .nil)
 .nil)))))))))
 (.cons (.asgO 5 (.call n_f_law_small (.cons (.var 0) (.cons (.lit (.int 6000)) (.cons (.lit (.int 40)) .nil)))))
 (.cons (.fz 5)
 (.cons (.forS (.one 6) .seq (.fr (.slice (.call n_f_law_all (.cons (.var 5) .nil)) .no (.lit (.int 12)))) .no
 (.cons (.asgO 8 (.call n_f_law_text (.cons (.var 6) .nil)))
 (.cons (.fz 1)
 (.cons (.fz 8)
 (.cons (.ifS (.cmp .ne (.call n_f_law_tried_10 (.cons (.lit (.int 1)) (.cons (.var 1) (.cons (.var 8) .nil)))) (.ite (.cmp .in_ (.bor 8) (.bor 3)) (.idx (.bor 2) (.meth .index (.bor 3) (.cons (.bor 8) .nil))) (.lit (.str "no text"))))
 (.cons (.ret (.lit (.bl false)))
 .nil)
 .nil)
 .nil)))))
 (.cons (.asgO 7 (.lst (.cons (.lit (.str "")) (.cons (.lit (.str "(")) (.cons (.lit (.str ")")) (.cons (.lit (.str "()")) (.cons (.lit (.str "( )")) (.cons (.lit (.str "(()")) (.cons (.lit (.str "())")) (.cons (.lit (.str "1 2")) (.cons (.lit (.str "01")) (.cons (.lit (.str "-0")) (.cons (.lit (.str "+1")) (.cons (.lit (.str "(1  2)")) (.cons (.lit (.str "(1 2 )")) (.cons (.lit (.str "a b")) (.cons (.lit (.str "1)")) (.cons (.lit (.str "((1)")) .nil))))))))))))))))))
 (.cons (.asgO 8 (.idx (.bor 7) (.call n_f_law_pick (.cons (.var 0) (.cons (.lit (.int 4100)) (.cons (.lit (.int 16)) .nil))))))
 (.cons (.fz 1)
 (.cons (.fz 8)
 (.cons (.ifS (.cmp .ne (.call n_f_law_tried_10 (.cons (.lit (.int 1)) (.cons (.var 1) (.cons (.var 8) .nil)))) (.ite (.cmp .in_ (.bor 8) (.bor 3)) (.idx (.bor 2) (.meth .index (.bor 3) (.cons (.bor 8) .nil))) (.lit (.str "no text"))))
 (.cons (.ret (.lit (.bl false)))
 .nil)
 .nil)
 (.cons (.asgO 9 (.call n_f_law_spoilt_thing (.cons (.var 0) (.cons (.lit (.int 4200)) (.cons (.idx (.bor 2) (.lit (.int 0))) .nil)))))
 (.cons (.fz 1)
 (.cons (.fz 9)
 (.cons (.ifS (.and (.cmp .notin (.bor 9) (.bor 2)) (.cmp .ne (.call n_f_law_tried_10 (.cons (.lit (.int 0)) (.cons (.var 1) (.cons (.var 9) .nil)))) (.lit (.str "no worth"))))
 (.cons (.ret (.lit (.bl false)))
 .nil)
 .nil)
 (.cons (.fz 1)
 (.cons (.asgO 10 (.call n_f_law_spoilt_thing (.cons (.var 0) (.cons (.lit (.int 4300)) (.cons (.var 1) .nil)))))
 (.cons (.fz 10)
 (.cons (.ret (.or (.call n_f_law_is_kind (.cons (.var 10) (.cons (.lit (.int 3)) .nil))) (.cmp .eq (.comp (.call n_f_law_tried_10 (.cons (.var 14) (.cons (.var 10) (.cons (.lit (.str "1")) .nil)))) (.one 14) .range1 (.lit (.int 2)) .no [14] (.lit (.bl true))) (.bin .mul (.lst (.cons (.lit (.str "no kind")) .nil)) (.lit (.int 2))))))
 .nil)))))))))))))))))))))⟩
/-- text_of_kind (k71) -/
def f_text_of_kind : Fn := ⟨1, 4,
 (.cons (.ifS (.cmp .eq (.idx (.bor 0) (.lit (.int 0))) (.lit (.str "whole")))
 (.cons (.ret (.bin .add (.bin .add (.bi .str (.cons (.idx (.bor 0) (.lit (.int 1))) .nil)) (.lit (.str ".."))) (.bi .str (.cons (.idx (.bor 0) (.lit (.int 2))) .nil))))
 .nil)
 .nil)
 (.cons (.ifS (.cmp .eq (.idx (.bor 0) (.lit (.int 0))) (.lit (.str "pick")))
 (.cons (.ret (.bin .add (.bin .add (.lit (.str "{")) (.meth .join (.lit (.str " ")) (.cons (.comp (.bin .add (.bin .add (.bor 2) (.lit (.str ":"))) (.bi .str (.cons (.bor 3) .nil))) (.many [2, 3]) .seq (.idx (.bor 0) (.lit (.int 1))) .no [2, 3] (.lit (.bl true))) .nil))) (.lit (.str "}"))))
 .nil)
 .nil)
 (.cons (.ifS (.cmp .eq (.idx (.bor 0) (.lit (.int 0))) (.lit (.str "row")))
 (.cons (.ret (.bin .add (.bin .add (.lit (.str "(")) (.meth .join (.lit (.str " ")) (.cons (.comp (.call n_f_text_of_kind (.cons (.var 1) .nil)) (.one 1) .seq (.idx (.bor 0) (.lit (.int 1))) .no [1] (.lit (.bl true))) .nil))) (.lit (.str ")"))))
 .nil)
 .nil)
 (.cons (.ret (.bin .add (.bin .add (.bin .add (.bin .add (.bin .add (.lit (.str "[")) (.call n_f_text_of_kind (.cons (.idx (.bor 0) (.lit (.int 1))) .nil))) (.lit (.str "]"))) (.bi .str (.cons (.idx (.bor 0) (.lit (.int 2))) .nil))) (.lit (.str ".."))) (.bi .str (.cons (.idx (.bor 0) (.lit (.int 3))) .nil))))
 .nil))))⟩
/-- kind_text (k71) -/
def f_kind_text : Fn := ⟨1, 1,
 (.cons (.exp (.call n_f_look_kind (.cons (.var 0) .nil)))
 (.cons (.ret (.call n_f_text_of_kind (.cons (.var 0) .nil)))
 .nil))⟩
/-- number_in (k71) -/
def f_number_in_2 : Fn := ⟨1, 3,
 (.cons (.asgO 1 (.ite (.cmp .eq (.slice (.bor 0) .no (.lit (.int 1))) (.lit (.str "-"))) (.slice (.bor 0) (.lit (.int 1)) .no) (.var 0)))
 (.cons (.ifS (.or (.not (.chain .le .le (.lit (.int 1)) (.bi .len (.cons (.bor 1) .nil)) (.lit (.int 2)))) (.not (.bi .all (.cons (.comp (.cmp .in_ (.bor 2) (.glob 8 (.str "0123456789"))) (.one 2) .seq (.bor 1) .no [2] (.lit (.bl true))) .nil))))
 (.cons (.raise 6)
 .nil)
 .nil)
 (.cons (.ret (.bi .int (.cons (.bor 0) .nil)))
 .nil)))⟩
/-- bounds_in (k71) -/
def f_bounds_in : Fn := ⟨1, 2,
 (.cons (.asgO 1 (.meth .split (.bor 0) (.cons (.lit (.str "..")) .nil)))
 (.cons (.ifS (.cmp .ne (.bi .len (.cons (.bor 1) .nil)) (.lit (.int 2)))
 (.cons (.raise 6)
 .nil)
 .nil)
 (.cons (.ret (.tup (.cons (.call n_f_number_in_2 (.cons (.idx (.bor 1) (.lit (.int 0))) .nil)) (.cons (.call n_f_number_in_2 (.cons (.idx (.bor 1) (.lit (.int 1))) .nil)) .nil))))
 .nil)))⟩
/-- parts_of_text (k71) -/
def f_parts_of_text : Fn := ⟨2, 6,
 (.cons (.unpO [2, 3, 4, 5] (.cons (.lst .nil) (.cons (.lit (.str "")) (.cons (.lit (.int 0)) (.cons (.lit (.int 0)) .nil)))))
 (.cons (.whl (.cmp .lt (.bor 5) (.bi .len (.cons (.bor 0) .nil)))
 (.cons (.ifS (.and (.cmp .eq (.bor 4) (.lit (.int 0))) (.cmp .eq (.slice (.bor 0) (.bor 5) (.bin .add (.bor 5) (.bi .len (.cons (.bor 1) .nil)))) (.bor 1)))
 (.cons (.app 2 (.var 3))
 (.cons (.asgO 3 (.lit (.str "")))
 (.cons (.asgO 5 (.bin .add (.bor 5) (.bi .len (.cons (.bor 1) .nil))))
 .nil)))
 (.cons (.asgO 4 (.bin .sub (.bin .add (.bor 4) (.bi .int (.cons (.cmp .in_ (.idx (.bor 0) (.bor 5)) (.glob 9 (.str "([{"))) .nil))) (.bi .int (.cons (.cmp .in_ (.idx (.bor 0) (.bor 5)) (.glob 10 (.str ")]}"))) .nil))))
 (.cons (.asgO 3 (.bin .add (.bor 3) (.idx (.bor 0) (.bor 5))))
 (.cons (.asgO 5 (.bin .add (.bor 5) (.lit (.int 1))))
 .nil))))
 .nil))
 (.cons (.ret (.bin .add (.bor 2) (.lst (.cons (.var 3) .nil))))
 .nil)))⟩
/-- choice_in (k71) -/
def f_choice_in : Fn := ⟨1, 2,
 (.cons (.asgO 1 (.meth .split (.bor 0) (.cons (.lit (.str ":")) .nil)))
 (.cons (.ifS (.cmp .ne (.bi .len (.cons (.bor 1) .nil)) (.lit (.int 2)))
 (.cons (.raise 6)
 .nil)
 .nil)
 (.cons (.ret (.tup (.cons (.idx (.bor 1) (.lit (.int 0))) (.cons (.call n_f_number_in_2 (.cons (.idx (.bor 1) (.lit (.int 1))) .nil)) .nil))))
 .nil)))⟩
/-- kind_in (k71) -/
def f_kind_in : Fn := ⟨2, 5,
 (.cons (.ifS (.cmp .eq (.bor 1) (.lit (.int 0)))
 (.cons (.raise 6)
 .nil)
 .nil)
 (.cons (.ifS (.and (.cmp .eq (.slice (.bor 0) .no (.lit (.int 1))) (.lit (.str "{"))) (.cmp .eq (.slice (.bor 0) (.neg (.lit (.int 1))) .no) (.lit (.str "}"))))
 (.cons (.ret (.tup (.cons (.lit (.str "pick")) (.cons (.bi .tuple (.cons (.comp (.call n_f_choice_in (.cons (.var 3) .nil)) (.one 3) .seq (.meth .split (.slice (.bor 0) (.lit (.int 1)) (.neg (.lit (.int 1)))) (.cons (.lit (.str " ")) .nil)) .no [3] (.lit (.bl true))) .nil)) .nil))))
 .nil)
 .nil)
 (.cons (.ifS (.and (.cmp .eq (.slice (.bor 0) .no (.lit (.int 1))) (.lit (.str "("))) (.cmp .eq (.slice (.bor 0) (.neg (.lit (.int 1))) .no) (.lit (.str ")"))))
 (.cons (.ret (.tup (.cons (.lit (.str "row")) (.cons (.bi .tuple (.cons (.comp (.call n_f_kind_in (.cons (.var 4) (.cons (.bin .sub (.bor 1) (.lit (.int 1))) .nil))) (.one 4) .seq (.call n_f_parts_of_text (.cons (.slice (.bor 0) (.lit (.int 1)) (.neg (.lit (.int 1)))) (.cons (.lit (.str " ")) .nil))) .no [4] (.lit (.bl true))) .nil)) .nil))))
 .nil)
 .nil)
 (.cons (.ifS (.and (.cmp .eq (.slice (.bor 0) .no (.lit (.int 1))) (.lit (.str "["))) (.cmp .in_ (.lit (.str "]")) (.bor 0)))
 (.cons (.asgO 2 (.bin .sub (.bi .len (.cons (.bor 0) .nil)) (.meth .index (.rev (.bor 0)) (.cons (.lit (.str "]")) .nil))))
 (.cons (.ret (.bin .add (.tup (.cons (.lit (.str "many")) (.cons (.call n_f_kind_in (.cons (.slice (.bor 0) (.lit (.int 1)) (.bin .sub (.bor 2) (.lit (.int 1)))) (.cons (.bin .sub (.bor 1) (.lit (.int 1))) .nil))) .nil))) (.call n_f_bounds_in (.cons (.slice (.bor 0) (.bor 2) .no) .nil))))
 .nil))
 .nil)
 (.cons (.ret (.bin .add (.tup (.cons (.lit (.str "whole")) .nil)) (.call n_f_bounds_in (.cons (.var 0) .nil))))
 .nil)))))⟩
/-- read_kind (k71) -/
def f_read_kind : Fn := ⟨1, 2,
 (.cons (.ifS (.not (.isi (.bor 0) .str))
 (.cons (.raise 6)
 .nil)
 .nil)
 (.cons (.asgO 1 (.call n_f_kind_in (.cons (.var 0) (.cons (.lit (.int 3)) .nil))))
 (.cons (.fz 1)
 (.cons (.ifS (.or (.not (.call n_f_is_kind (.cons (.var 1) .nil))) (.cmp .ne (.call n_f_text_of_kind (.cons (.var 1) .nil)) (.bor 0)))
 (.cons (.raise 6)
 .nil)
 .nil)
 (.cons (.ret (.bor 1))
 .nil)))))⟩
/-- law_kind_text (k71) -/
def f_law_kind_text : Fn := ⟨1, 5,
 (.cons (.ifS (.cmp .eq (.idx (.bor 0) (.lit (.int 0))) (.lit (.str "pick")))
 (.cons (.ret (.bin .add (.bin .add (.lit (.str "{")) (.meth .join (.lit (.str " ")) (.cons (.comp (.bin .add (.bin .add (.bor 3) (.lit (.str ":"))) (.bi .str (.cons (.bor 4) .nil))) (.many [3, 4]) .seq (.idx (.bor 0) (.lit (.int 1))) .no [3, 4] (.lit (.bl true))) .nil))) (.lit (.str "}"))))
 .nil)
 .nil)
 (.cons (.ifS (.cmp .eq (.idx (.bor 0) (.lit (.int 0))) (.lit (.str "row")))
 (.cons (.ret (.bin .add (.bin .add (.lit (.str "(")) (.meth .join (.lit (.str " ")) (.cons (.comp (.call n_f_law_kind_text (.cons (.var 2) .nil)) (.one 2) .seq (.idx (.bor 0) (.lit (.int 1))) .no [2] (.lit (.bl true))) .nil))) (.lit (.str ")"))))
 .nil)
 .nil)
 (.cons (.asgO 1 (.ite (.cmp .eq (.idx (.bor 0) (.lit (.int 0))) (.lit (.str "many"))) (.bin .add (.bin .add (.lit (.str "[")) (.call n_f_law_kind_text (.cons (.idx (.bor 0) (.lit (.int 1))) .nil))) (.lit (.str "]"))) (.lit (.str ""))))
 (.cons (.ret (.bin .add (.bin .add (.bin .add (.bor 1) (.bi .str (.cons (.idx (.bor 0) (.neg (.lit (.int 2)))) .nil))) (.lit (.str ".."))) (.bi .str (.cons (.idx (.bor 0) (.neg (.lit (.int 1)))) .nil))))
 .nil))))⟩
/-- law (k71) -/
def law_k71 : Fn := ⟨1, 4,
 (.cons (.forS (.one 1) .range1 (.lit (.int 4)) .no
 (.cons (.asgO 2 (.call n_f_law_kind (.cons (.var 0) (.cons (.bin .add (.lit (.int 10)) (.bin .mul (.lit (.int 1000)) (.bor 1))) (.cons (.lit (.int 3)) .nil)))))
 (.cons (.fz 2)
 (.cons (.asgO 3 (.call n_f_law_kind_text (.cons (.var 2) .nil)))
 (.cons (.fz 2)
 (.cons (.fz 3)
 (.cons (.ifS (.or (.cmp .ne (.call n_f_kind_text (.cons (.var 2) .nil)) (.bor 3)) (.or (.cmp .ne (.call n_f_read_kind (.cons (.var 3) .nil)) (.bor 2)) (.cmp .ne (.call n_f_how_many (.cons (.call n_f_read_kind (.cons (.var 3) .nil)) .nil)) (.call n_f_how_many (.cons (.var 2) .nil)))))
 (.cons (.ret (.lit (.bl false)))
 .nil)
 .nil)
 .nil)))))))
 (.cons (.ret (.cmp .eq (.call n_f_read_kind (.cons (.slice (.lit (.str "[[[0..0]0..0]0..0]0..0")) (.lit (.int 1)) (.neg (.lit (.int 5)))) .nil)) (.tup (.cons (.lit (.str "many")) (.cons (.tup (.cons (.lit (.str "many")) (.cons (.tup (.cons (.lit (.str "whole")) (.cons (.lit (.int 0)) (.cons (.lit (.int 0)) .nil)))) (.cons (.lit (.int 0)) (.cons (.lit (.int 0)) .nil))))) (.cons (.lit (.int 0)) (.cons (.lit (.int 0)) .nil)))))))
 .nil))⟩
/-- law (k72) -/
def law_k72 : Fn := ⟨1, 11,
 (.cons (.asgO 1 (.call n_f_law_kind_text (.cons (.call n_f_law_kind (.cons (.var 0) (.cons (.lit (.int 10)) (.cons (.lit (.int 3)) .nil)))) .nil)))
 (.cons (.fz 1)
 (.cons (.asgO 2 (.lst (.cons (.var 1) .nil)))
 (.cons (.forS (.one 3) .range1 (.lit (.int 8)) .no
 (.cons (.asgO 7 (.bin .add (.bin .mul (.call n_f_law_cell (.cons (.var 0) (.cons (.bin .add (.lit (.int 1700)) (.bor 3)) .nil))) (.lit (.int 7919))) (.call n_f_law_pick (.cons (.var 0) (.cons (.bin .add (.lit (.int 1720)) (.bor 3)) (.cons (.lit (.int 999983)) .nil))))))
 (.cons (.fz 1)
 (.cons (.fz 7)
 (.cons (.app 2 (.call n_f_law_spoilt (.cons (.var 1) (.cons (.var 7) (.cons (.lit (.str "0123-. :ab()[]{}")) .nil)))))
 (.cons (.asgO 8 (.call n_f_law_pick (.cons (.var 0) (.cons (.bin .add (.lit (.int 1740)) (.bor 3)) (.cons (.bi .len (.cons (.bor 1) .nil)) .nil)))))
 (.cons (.asgO 9 (.bin .add (.lit (.int 1)) (.call n_f_law_pick (.cons (.var 0) (.cons (.bin .add (.lit (.int 1760)) (.bor 3)) (.cons (.lit (.int 5)) .nil))))))
 (.cons (.app 2 (.bin .add (.slice (.bor 1) .no (.bor 8)) (.slice (.bor 1) (.bin .add (.bor 8) (.bor 9)) .no)))
 (.cons (.app 2 (.bin .add (.slice (.bor 1) .no (.bin .add (.bor 8) (.bor 9))) (.slice (.bor 1) (.bor 8) .no)))
 .nil)))))))))
 (.cons (.fz 2)
 (.cons (.forS (.one 4) .seq (.var 2) .no
 (.cons (.asgO 10 (.told n_f_law_class [1, 6] (.call n_f_kind_text (.cons (.call n_f_read_kind (.cons (.var 4) .nil)) .nil))))
 (.cons (.ifS (.and (.cmp .ne (.bor 10) (.bor 4)) (.cmp .ne (.bor 10) (.lit (.str "no text"))))
 (.cons (.ret (.lit (.bl false)))
 .nil)
 .nil)
 .nil)))
 (.cons (.asgO 5 (.lst (.cons (.lit (.str "-20..20")) (.cons (.lit (.str "{a:1}")) (.cons (.lit (.str "{abc:20 b:3 c:1 dd:2}")) (.cons (.lit (.str "(0..0)")) (.cons (.lit (.str "(0..1 {a:1} [2..3]0..3)")) .nil)))))))
 (.cons (.ext 5 (.lst (.cons (.lit (.str "[(1..2 {z:9})]3..3")) (.cons (.lit (.str "[[{a:1}]0..1]2..2")) .nil))))
 (.cons (.ifS (.cmp .ne (.comp (.call n_f_kind_text (.cons (.call n_f_read_kind (.cons (.var 4) .nil)) .nil)) (.one 4) .seq (.bor 5) .no [4] (.lit (.bl true))) (.bor 5))
 (.cons (.ret (.lit (.bl false)))
 .nil)
 .nil)
 (.cons (.asgO 6 (.lst (.cons (.lit (.str "")) (.cons (.lit (.str "0")) (.cons (.lit (.str "0..")) (.cons (.lit (.str "..0")) (.cons (.lit (.str "1..0")) (.cons (.lit (.str "0..21")) (.cons (.lit (.str "-21..0")) (.cons (.lit (.str "00..1")) (.cons (.lit (.str "0..01")) (.cons (.lit (.str "-0..1")) (.cons (.lit (.str "{}")) (.cons (.lit (.str "{a}")) .nil))))))))))))))
 (.cons (.ext 6 (.lst (.cons (.lit (.str "{a:0}")) (.cons (.lit (.str "{a:21}")) (.cons (.lit (.str "{a:1 a:2}")) .nil)))))
 (.cons (.ext 6 (.lst (.cons (.lit (.str "{a:1  b:1}")) (.cons (.lit (.str "{abcd:1}")) (.cons (.lit (.str "{a:1,b:1}")) (.cons (.lit (.str "()")) (.cons (.lit (.str "(0..0 )")) (.cons (.lit (.str "(0..0  1..1)")) .nil))))))))
 (.cons (.ext 6 (.lst (.cons (.lit (.str "(0..0 0..0 0..0 0..0)")) (.cons (.lit (.str "[0..0]")) (.cons (.lit (.str "[0..0]0..4")) .nil)))))
 (.cons (.ext 6 (.lst (.cons (.lit (.str "[0..0]2..1")) (.cons (.lit (.str "[0..0]-1..1")) (.cons (.lit (.str "[0..0")) (.cons (.lit (.str "0..0]0..1")) (.cons (.lit (.str "((0..0)")) (.cons (.lit (.str "(((0..0)))")) .nil))))))))
 (.cons (.ext 6 (.lst (.cons (.lit (.str "[[[0..0]0..1]0..1]0..1")) (.cons (.lit (.str "(0..0))")) (.cons (.lit (.str " 0..0")) .nil)))))
 (.cons (.ext 6 (.lst (.cons (.lit (.non)) (.cons (.lit (.int 5)) (.cons (.tup (.cons (.lit (.str "0..0")) .nil)) (.cons (.lit (.str "{a:1 b:1 c:1 d:1 e:1}")) (.cons (.lit (.str "0..0\n")) (.cons (.lit (.str "{A:1}")) (.cons (.lit (.str "0...1")) (.cons (.lit (.str "[]0..1")) (.cons (.lit (.str "+0..1")) .nil)))))))))))
 (.cons (.ret (.cmp .eq (.comp (.told n_f_law_class [1, 6] (.call n_f_read_kind (.cons (.var 4) .nil))) (.one 4) .seq (.bor 6) .no [4] (.lit (.bl true))) (.bin .mul (.lst (.cons (.lit (.str "no text")) .nil)) (.lit (.int 42)))))
 .nil)))))))))))))))))⟩
/-- text_of_rule (k73) -/
def f_text_of_rule : Fn := ⟨1, 2,
 (.cons (.ifS (.cmp .in_ (.idx (.bor 0) (.lit (.int 0))) (.tup (.cons (.lit (.str "no")) (.cons (.lit (.str "all")) (.cons (.lit (.str "some")) .nil)))))
 (.cons (.ret (.bin .add (.bin .add (.bin .add (.idx (.bor 0) (.lit (.int 0))) (.lit (.str "("))) (.meth .join (.lit (.str ", ")) (.cons (.comp (.call n_f_text_of_rule (.cons (.var 1) .nil)) (.one 1) .seq (.slice (.bor 0) (.lit (.int 1)) .no) .no [1] (.lit (.bl true))) .nil))) (.lit (.str ")"))))
 .nil)
 .nil)
 (.cons (.ret (.meth .join (.lit (.str " ")) (.cons (.comp (.bi .str (.cons (.bor 1) .nil)) (.one 1) .seq (.bor 0) .no [1] (.lit (.bl true))) .nil)))
 .nil))⟩
/-- rule_text (k73) -/
def f_rule_text : Fn := ⟨1, 1,
 (.cons (.exp (.call n_f_look_rule (.cons (.var 0) .nil)))
 (.cons (.ret (.call n_f_text_of_rule (.cons (.var 0) .nil)))
 .nil))⟩
/-- rule_in (k73) -/
def f_rule_in : Fn := ⟨2, 7,
 (.cons (.ifS (.cmp .eq (.bor 1) (.lit (.int 0)))
 (.cons (.raise 6)
 .nil)
 .nil)
 (.cons (.asgO 2 (.idx (.meth .split (.bor 0) (.cons (.lit (.str "(")) .nil)) (.lit (.int 0))))
 (.cons (.ifS (.and (.cmp .in_ (.bor 2) (.tup (.cons (.lit (.str "no")) (.cons (.lit (.str "all")) (.cons (.lit (.str "some")) .nil))))) (.cmp .eq (.slice (.bor 0) (.neg (.lit (.int 1))) .no) (.lit (.str ")"))))
 (.cons (.asgO 4 (.call n_f_parts_of_text (.cons (.slice (.bor 0) (.bin .add (.bi .len (.cons (.bor 2) .nil)) (.lit (.int 1))) (.neg (.lit (.int 1)))) (.cons (.lit (.str ", ")) .nil))))
 (.cons (.ret (.bin .add (.tup (.cons (.var 2) .nil)) (.bi .tuple (.cons (.comp (.call n_f_rule_in (.cons (.var 5) (.cons (.bin .sub (.bor 1) (.lit (.int 1))) .nil))) (.one 5) .seq (.bor 4) .no [5] (.lit (.bl true))) .nil))))
 .nil))
 .nil)
 (.cons (.asgO 3 (.meth .split (.bor 0) (.cons (.lit (.str " ")) .nil)))
 (.cons (.ifS (.cmp .in_ (.idx (.bor 3) (.lit (.int 0))) (.tup (.cons (.lit (.str "sum")) (.cons (.lit (.str "size")) .nil))))
 (.cons (.ret (.bin .add (.tup (.cons (.idx (.bor 3) (.lit (.int 0))) .nil)) (.bi .tuple (.cons (.comp (.call n_f_number_in_2 (.cons (.var 6) .nil)) (.one 6) .seq (.slice (.bor 3) (.lit (.int 1)) .no) .no [6] (.lit (.bl true))) .nil))))
 .nil)
 .nil)
 (.cons (.ret (.bi .tuple (.cons (.bor 3) .nil)))
 .nil))))))⟩
/-- read_rule (k73) -/
def f_read_rule : Fn := ⟨1, 2,
 (.cons (.ifS (.not (.isi (.bor 0) .str))
 (.cons (.raise 6)
 .nil)
 .nil)
 (.cons (.asgO 1 (.call n_f_rule_in (.cons (.var 0) (.cons (.lit (.int 3)) .nil))))
 (.cons (.fz 1)
 (.cons (.ifS (.or (.not (.call n_f_is_rule (.cons (.var 1) .nil))) (.cmp .ne (.call n_f_text_of_rule (.cons (.var 1) .nil)) (.bor 0)))
 (.cons (.raise 6)
 .nil)
 .nil)
 (.cons (.ret (.bor 1))
 .nil)))))⟩
/-- law_rule_text (k73) -/
def f_law_rule_text : Fn := ⟨1, 2,
 (.cons (.ifS (.cmp .in_ (.idx (.bor 0) (.lit (.int 0))) (.tup (.cons (.lit (.str "no")) (.cons (.lit (.str "all")) (.cons (.lit (.str "some")) .nil)))))
 (.cons (.ret (.bin .add (.bin .add (.bin .add (.idx (.bor 0) (.lit (.int 0))) (.lit (.str "("))) (.meth .join (.lit (.str ", ")) (.cons (.comp (.call n_f_law_rule_text (.cons (.var 1) .nil)) (.one 1) .seq (.slice (.bor 0) (.lit (.int 1)) .no) .no [1] (.lit (.bl true))) .nil))) (.lit (.str ")"))))
 .nil)
 .nil)
 (.cons (.ret (.meth .join (.lit (.str " ")) (.cons (.comp (.bi .str (.cons (.bor 1) .nil)) (.one 1) .seq (.bor 0) .no [1] (.lit (.bl true))) .nil)))
 .nil))⟩
/-- law (k73) -/
def law_k73 : Fn := ⟨1, 5,
 (.cons (.asgO 1 (.call n_f_law_small (.cons (.var 0) (.cons (.lit (.int 10)) (.cons (.lit (.int 30)) .nil)))))
 (.cons (.forS (.one 2) .range1 (.lit (.int 4)) .no
 (.cons (.asgO 3 (.call n_f_law_rule (.cons (.var 0) (.cons (.bin .add (.lit (.int 4000)) (.bin .mul (.lit (.int 300)) (.bor 2))) (.cons (.lit (.int 3)) .nil)))))
 (.cons (.fz 3)
 (.cons (.asgO 4 (.call n_f_law_rule_text (.cons (.var 3) .nil)))
 (.cons (.fz 3)
 (.cons (.fz 4)
 (.cons (.ifS (.or (.cmp .ne (.call n_f_rule_text (.cons (.var 3) .nil)) (.bor 4)) (.cmp .ne (.call n_f_read_rule (.cons (.var 4) .nil)) (.bor 3)))
 (.cons (.ret (.lit (.bl false)))
 .nil)
 .nil)
 (.cons (.fz 1)
 (.cons (.fz 3)
 (.cons (.fz 4)
 (.cons (.ifS (.and (.cmp .eq (.bor 2) (.lit (.int 0))) (.cmp .ne (.call n_f_keepers (.cons (.var 1) (.cons (.call n_f_read_rule (.cons (.var 4) .nil)) .nil))) (.call n_f_keepers (.cons (.var 1) (.cons (.var 3) .nil)))))
 (.cons (.ret (.lit (.bl false)))
 .nil)
 .nil)
 .nil)))))))))))
 (.cons (.ret (.cmp .eq (.call n_f_rule_text (.cons (.tup (.cons (.lit (.str "all")) (.cons (.tup (.cons (.lit (.str "no")) (.cons (.tup (.cons (.lit (.str "rising")) .nil)) .nil))) (.cons (.tup (.cons (.lit (.str "sum")) (.cons (.neg (.lit (.int 3))) (.cons (.lit (.int 5)) .nil)))) .nil)))) .nil)) (.lit (.str "all(no(rising), sum -3 5)"))))
 .nil)))⟩
/-- law (k74) -/
def law_k74 : Fn := ⟨1, 11,
 (.cons (.asgO 1 (.call n_f_law_rule_text (.cons (.call n_f_law_rule (.cons (.var 0) (.cons (.lit (.int 10)) (.cons (.lit (.int 3)) .nil)))) .nil)))
 (.cons (.fz 1)
 (.cons (.asgO 2 (.lst (.cons (.var 1) .nil)))
 (.cons (.forS (.one 3) .range1 (.lit (.int 8)) .no
 (.cons (.asgO 7 (.bin .add (.bin .mul (.call n_f_law_cell (.cons (.var 0) (.cons (.bin .add (.lit (.int 1700)) (.bor 3)) .nil))) (.lit (.int 7919))) (.call n_f_law_pick (.cons (.var 0) (.cons (.bin .add (.lit (.int 1720)) (.bor 3)) (.cons (.lit (.int 999983)) .nil))))))
 (.cons (.fz 1)
 (.cons (.fz 7)
 (.cons (.app 2 (.call n_f_law_spoilt (.cons (.var 1) (.cons (.var 7) (.cons (.lit (.str "0123- ,abnoword()")) .nil)))))
 (.cons (.asgO 8 (.call n_f_law_pick (.cons (.var 0) (.cons (.bin .add (.lit (.int 1740)) (.bor 3)) (.cons (.bi .len (.cons (.bor 1) .nil)) .nil)))))
 (.cons (.asgO 9 (.bin .add (.lit (.int 1)) (.call n_f_law_pick (.cons (.var 0) (.cons (.bin .add (.lit (.int 1760)) (.bor 3)) (.cons (.lit (.int 6)) .nil))))))
 (.cons (.app 2 (.bin .add (.slice (.bor 1) .no (.bor 8)) (.slice (.bor 1) (.bin .add (.bor 8) (.bor 9)) .no)))
 (.cons (.app 2 (.bin .add (.slice (.bor 1) .no (.bin .add (.bor 8) (.bor 9))) (.slice (.bor 1) (.bor 8) .no)))
 .nil)))))))))
 (.cons (.fz 2)
 (.cons (.forS (.one 4) .seq (.var 2) .no
 (.cons (.asgO 10 (.told n_f_law_class [3, 6] (.call n_f_rule_text (.cons (.call n_f_read_rule (.cons (.var 4) .nil)) .nil))))
 (.cons (.ifS (.and (.cmp .ne (.bor 10) (.bor 4)) (.cmp .ne (.bor 10) (.lit (.str "no text"))))
 (.cons (.ret (.lit (.bl false)))
 .nil)
 .nil)
 .nil)))
 (.cons (.asgO 5 (.lst (.cons (.lit (.str "rising")) (.cons (.lit (.str "unlike")) (.cons (.lit (.str "word a")) (.cons (.lit (.str "sum -50 50")) (.cons (.lit (.str "size 5 -5")) (.cons (.lit (.str "no(no(rising))")) .nil))))))))
 (.cons (.ext 5 (.lst (.cons (.lit (.str "all(some(rising, unlike), word no)")) .nil)))
 (.cons (.ifS (.cmp .ne (.comp (.call n_f_rule_text (.cons (.call n_f_read_rule (.cons (.var 4) .nil)) .nil)) (.one 4) .seq (.bor 5) .no [4] (.lit (.bl true))) (.bor 5))
 (.cons (.ret (.lit (.bl false)))
 .nil)
 .nil)
 (.cons (.asgO 6 (.lst (.cons (.lit (.str "")) (.cons (.lit (.str "risen")) (.cons (.lit (.str "word")) (.cons (.lit (.str "word ")) (.cons (.lit (.str "word A")) (.cons (.lit (.str "word abcd")) (.cons (.lit (.str "word a b")) (.cons (.lit (.str "sum")) (.cons (.lit (.str "sum 1")) (.cons (.lit (.str "sum 1 2 3")) .nil))))))))))))
 (.cons (.ext 6 (.lst (.cons (.lit (.str "sum 01 2")) (.cons (.lit (.str "sum -0 2")) .nil))))
 (.cons (.ext 6 (.lst (.cons (.lit (.str "sum 51 52")) (.cons (.lit (.str "size  1 2")) (.cons (.lit (.str "no")) (.cons (.lit (.str "no()")) (.cons (.lit (.str "no(rising")) (.cons (.lit (.str "no rising")) (.cons (.lit (.str "all(rising)")) .nil)))))))))
 (.cons (.ext 6 (.lst (.cons (.lit (.str "all(rising,unlike)")) (.cons (.lit (.str "some(rising, )")) .nil))))
 (.cons (.ext 6 (.lst (.cons (.lit (.str "all(rising, unlike, rising)")) (.cons (.lit (.str "no(no(no(rising)))")) (.cons (.lit (.str "rising ")) (.cons (.lit (.str " rising")) (.cons (.lit (.str "rising\n")) (.cons (.lit (.non)) .nil))))))))
 (.cons (.ext 6 (.lst (.cons (.lit (.int 5)) (.cons (.tup (.cons (.lit (.str "rising")) .nil)) (.cons (.lit (.str "no(rising))")) .nil)))))
 (.cons (.ret (.cmp .eq (.comp (.told n_f_law_class [3, 6] (.call n_f_read_rule (.cons (.var 4) .nil))) (.one 4) .seq (.bor 6) .no [4] (.lit (.bl true))) (.bin .mul (.lst (.cons (.lit (.str "no text")) .nil)) (.lit (.int 30)))))
 .nil))))))))))))))))⟩
/-- next_worth (k75) -/
def f_next_worth : Fn := ⟨2, 3,
 (.cons (.exp (.call n_f_look_worth (.cons (.var 0) (.cons (.var 1) .nil))))
 (.cons (.asgO 2 (.bin .add (.call n_f_number_in (.cons (.var 0) (.cons (.var 1) .nil))) (.lit (.int 1))))
 (.cons (.fz 2)
 (.cons (.ret (.ite (.cmp .lt (.bor 2) (.call n_f_count (.cons (.var 0) .nil))) (.call n_f_of_number (.cons (.var 0) (.cons (.var 2) .nil))) (.lit (.non))))
 .nil))))⟩
/-- worth_ahead (k75) -/
def f_worth_ahead : Fn := ⟨2, 3,
 (.cons (.exp (.call n_f_look_worth (.cons (.var 0) (.cons (.var 1) .nil))))
 (.cons (.asgO 2 (.bin .sub (.call n_f_number_in (.cons (.var 0) (.cons (.var 1) .nil))) (.lit (.int 1))))
 (.cons (.fz 2)
 (.cons (.ret (.ite (.cmp .ge (.bor 2) (.lit (.int 0))) (.call n_f_of_number (.cons (.var 0) (.cons (.var 2) .nil))) (.lit (.non))))
 .nil))))⟩
/-- between (k75) -/
def f_between : Fn := ⟨3, 6,
 (.cons (.exp (.call n_f_look_worth (.cons (.var 0) (.cons (.var 1) .nil))))
 (.cons (.exp (.call n_f_look_worth (.cons (.var 0) (.cons (.var 2) .nil))))
 (.cons (.asgN [3, 4] (.cons (.call n_f_number_in (.cons (.var 0) (.cons (.var 1) .nil))) (.cons (.call n_f_number_in (.cons (.var 0) (.cons (.var 2) .nil))) .nil)))
 (.cons (.ifS (.cmp .ge (.bin .sub (.bor 4) (.bor 3)) (.glob 6 (.int 500)))
 (.cons (.raise 4)
 .nil)
 .nil)
 (.cons (.ret (.comp (.call n_f_of_number (.cons (.var 0) (.cons (.var 5) .nil))) (.one 5) .range2 (.bor 3) (.bin .add (.bor 4) (.lit (.int 1))) [5] (.lit (.bl true))))
 .nil)))))⟩
/-- middle (k75) -/
def f_middle : Fn := ⟨1, 1,
 (.cons (.exp (.call n_f_look_kind (.cons (.var 0) .nil)))
 (.cons (.ret (.call n_f_of_number (.cons (.var 0) (.cons (.bin .fdiv (.bin .sub (.call n_f_count (.cons (.var 0) .nil)) (.lit (.int 1))) (.lit (.int 2))) .nil))))
 .nil))⟩
/-- law (k75) -/
def law_k75 : Fn := ⟨1, 7,
 (.cons (.asgO 1 (.call n_f_law_small (.cons (.var 0) (.cons (.lit (.int 10)) (.cons (.lit (.int 60)) .nil)))))
 (.cons (.fz 1)
 (.cons (.asgO 2 (.call n_f_law_all (.cons (.var 1) .nil)))
 (.cons (.fz 1)
 (.cons (.ifS (.cmp .ne (.call n_f_all_worths (.cons (.var 1) .nil)) (.bor 2))
 (.cons (.ret (.lit (.bl false)))
 .nil)
 .nil)
 (.cons (.fz 2)
 (.cons (.forS (.many [5, 6]) .zip (.var 2) (.fr (.slice (.bor 2) (.lit (.int 1)) .no))
 (.cons (.fz 1)
 (.cons (.ifS (.or (.cmp .ne (.call n_f_next_worth (.cons (.var 1) (.cons (.var 5) .nil))) (.bor 6)) (.cmp .ne (.call n_f_worth_ahead (.cons (.var 1) (.cons (.var 6) .nil))) (.bor 5)))
 (.cons (.ret (.lit (.bl false)))
 .nil)
 .nil)
 .nil)))
 (.cons (.fz 1)
 (.cons (.ifS (.or (.cmp .isnot (.call n_f_worth_ahead (.cons (.var 1) (.cons (.idx (.bor 2) (.lit (.int 0))) .nil))) (.lit (.non))) (.cmp .isnot (.call n_f_next_worth (.cons (.var 1) (.cons (.idx (.bor 2) (.neg (.lit (.int 1)))) .nil))) (.lit (.non))))
 (.cons (.ret (.lit (.bl false)))
 .nil)
 .nil)
 (.cons (.forS (.one 3) .range1 (.lit (.int 3)) .no
 (.cons (.asgN [5, 6] (.cons (.call n_f_law_pick (.cons (.var 0) (.cons (.var 3) (.cons (.bi .len (.cons (.bor 2) .nil)) .nil)))) (.cons (.call n_f_law_pick (.cons (.var 0) (.cons (.bin .add (.lit (.int 3)) (.bor 3)) (.cons (.bi .len (.cons (.bor 2) .nil)) .nil)))) .nil)))
 (.cons (.fz 1)
 (.cons (.ifS (.cmp .ne (.call n_f_between (.cons (.var 1) (.cons (.idx (.bor 2) (.bor 5)) (.cons (.idx (.bor 2) (.bor 6)) .nil)))) (.slice (.bor 2) (.bor 5) (.bin .add (.bor 6) (.lit (.int 1)))))
 (.cons (.ret (.lit (.bl false)))
 .nil)
 .nil)
 .nil))))
 (.cons (.fz 1)
 (.cons (.asgO 4 (.meth .index (.bor 2) (.cons (.call n_f_middle (.cons (.var 1) .nil)) .nil)))
 (.cons (.fz 1)
 (.cons (.ifS (.or (.cmp .ne (.call n_f_number_of (.cons (.var 1) (.cons (.call n_f_middle (.cons (.var 1) .nil)) .nil))) (.bor 4)) (.cmp .notin (.bin .sub (.bin .sub (.bi .len (.cons (.bor 2) .nil)) (.lit (.int 1))) (.bin .mul (.lit (.int 2)) (.bor 4))) (.tup (.cons (.lit (.int 0)) (.cons (.lit (.int 1)) .nil)))))
 (.cons (.ret (.lit (.bl false)))
 .nil)
 .nil)
 (.cons (.fz 1)
 (.cons (.ret (.cmp .eq (.call n_f_between (.cons (.var 1) (.cons (.idx (.bor 2) (.lit (.int 0))) (.cons (.idx (.bor 2) (.neg (.lit (.int 1)))) .nil)))) (.bor 2)))
 .nil))))))))))))))))⟩
/-- law_worth (k76) -/
def f_law_worth : Fn := ⟨2, 4,
 (.cons (.asgO 2 (.lst .nil))
 (.cons (.forS (.one 3) .seq (.fr (.rev (.bor 0))) .no
 (.cons (.app 2 (.idx (.bor 3) (.bin .mod (.bor 1) (.bi .len (.cons (.bor 3) .nil)))))
 (.cons (.asgO 1 (.bin .fdiv (.bor 1) (.bi .len (.cons (.bor 3) .nil))))
 .nil)))
 (.cons (.ret (.bi .tuple (.cons (.rev (.bor 2)) .nil)))
 .nil)))⟩
/-- law (k76) -/
def law_k76 : Fn := ⟨1, 14,
 (.cons (.unp [7, 8] (.tup (.cons (.tup (.cons (.lit (.str "whole")) (.cons (.neg (.lit (.int 20))) (.cons (.lit (.int 20)) .nil)))) (.cons (.tup (.cons (.lit (.str "pick")) (.cons (.tup (.cons (.tup (.cons (.lit (.str "a")) (.cons (.lit (.int 1)) .nil))) (.cons (.tup (.cons (.lit (.str "b")) (.cons (.lit (.int 2)) .nil))) (.cons (.tup (.cons (.lit (.str "cab")) (.cons (.lit (.int 20)) .nil))) .nil)))) .nil))) .nil))))
 (.cons (.asgO 1 (.idx (.lst (.cons (.tup (.cons (.var 7) (.cons (.var 7) (.cons (.var 7) .nil)))) (.cons (.tup (.cons (.var 7) (.cons (.var 8) (.cons (.var 7) .nil)))) (.cons (.tup (.cons (.var 8) (.cons (.var 7) (.cons (.var 7) .nil)))) .nil)))) (.call n_f_law_pick (.cons (.var 0) (.cons (.lit (.int 0)) (.cons (.lit (.int 3)) .nil))))))
 (.cons (.unp [9, 10] (.tup (.cons (.tup (.cons (.lit (.str "row")) (.cons (.var 1) .nil))) (.cons (.lit (.int 1)) .nil))))
 (.cons (.asgO 2 (.comp (.ite (.cmp .eq (.bor 11) (.bor 8)) (.lst (.cons (.lit (.str "a")) (.cons (.lit (.str "b")) (.cons (.lit (.str "cab")) .nil)))) (.bi .range2 (.cons (.neg (.lit (.int 20))) (.cons (.lit (.int 21)) .nil)))) (.one 11) .seq (.bor 1) .no [11] (.lit (.bl true))))
 (.cons (.fz 2)
 (.cons (.forS (.one 3) .seq (.var 2) .no
 (.cons (.asgO 10 (.bin .mul (.bor 10) (.bi .len (.cons (.bor 3) .nil))))
 .nil))
 (.cons (.asgO 4 (.bin .mod (.bin .mul (.call n_f_law_pick (.cons (.var 0) (.cons (.lit (.int 1)) (.cons (.lit (.int 99991)) .nil)))) (.lit (.int 7919))) (.bin .sub (.bor 10) (.lit (.int 600)))))
 (.cons (.fz 2)
 (.cons (.fz 4)
 (.cons (.unp [11, 12] (.tup (.cons (.call n_f_law_worth (.cons (.var 2) (.cons (.var 4) .nil))) (.cons (.call n_f_law_worth (.cons (.var 2) (.cons (.bin .add (.bor 4) (.lit (.int 499))) .nil))) .nil))))
 (.cons (.fz 2)
 (.cons (.ifS (.or (.cmp .ne (.call n_f_how_many (.cons (.var 9) .nil)) (.bor 10)) (.cmp .ne (.call n_f_next_worth (.cons (.var 9) (.cons (.var 11) .nil))) (.call n_f_law_worth (.cons (.var 2) (.cons (.bin .add (.bor 4) (.lit (.int 1))) .nil)))))
 (.cons (.ret (.lit (.bl false)))
 .nil)
 .nil)
 (.cons (.fz 2)
 (.cons (.ifS (.and (.cmp .gt (.bor 4) (.lit (.int 0))) (.cmp .ne (.call n_f_worth_ahead (.cons (.var 9) (.cons (.var 11) .nil))) (.call n_f_law_worth (.cons (.var 2) (.cons (.bin .sub (.bor 4) (.lit (.int 1))) .nil)))))
 (.cons (.ret (.lit (.bl false)))
 .nil)
 .nil)
 (.cons (.fz 2)
 (.cons (.asgO 5 (.call n_f_law_worth (.cons (.var 2) (.cons (.bin .add (.bor 4) (.lit (.int 9))) .nil))))
 (.cons (.fz 2)
 (.cons (.fz 5)
 (.cons (.ifS (.cmp .ne (.call n_f_between (.cons (.var 9) (.cons (.var 11) (.cons (.var 5) .nil)))) (.comp (.call n_f_law_worth (.cons (.var 2) (.cons (.bin .add (.bor 4) (.bor 13)) .nil))) (.one 13) .range1 (.lit (.int 10)) .no [13] (.lit (.bl true))))
 (.cons (.ret (.lit (.bl false)))
 .nil)
 .nil)
 (.cons (.fz 5)
 (.cons (.ifS (.or (.cmp .ne (.call n_f_between (.cons (.var 9) (.cons (.var 5) (.cons (.var 11) .nil)))) (.lst .nil)) (.cmp .ne (.told n_f_law_class [1, 2, 4, 6] (.call n_f_between (.cons (.var 9) (.cons (.var 11) (.cons (.call n_f_next_worth (.cons (.var 9) (.cons (.var 12) .nil))) .nil))))) (.lit (.str "too many"))))
 (.cons (.ret (.lit (.bl false)))
 .nil)
 .nil)
 (.cons (.fz 2)
 (.cons (.ifS (.or (.cmp .ne (.call n_f_middle (.cons (.var 9) .nil)) (.call n_f_law_worth (.cons (.var 2) (.cons (.bin .fdiv (.bin .sub (.bor 10) (.lit (.int 1))) (.lit (.int 2))) .nil)))) (.cmp .ne (.call n_f_read_kind (.cons (.call n_f_kind_text (.cons (.var 9) .nil)) .nil)) (.bor 9)))
 (.cons (.ret (.lit (.bl false)))
 .nil)
 .nil)
 (.cons (.asgO 6 (.tup (.cons (.lit (.str "row")) (.cons (.tup (.cons (.tup (.cons (.lit (.str "whole")) (.cons (.lit (.int 0)) (.cons (.lit (.int 19)) .nil)))) (.cons (.tup (.cons (.lit (.str "whole")) (.cons (.neg (.lit (.int 4))) (.cons (.lit (.int 20)) .nil)))) .nil))) .nil))))
 (.cons (.ifS (.cmp .ne (.bi .len (.cons (.call n_f_between (.cons (.var 6) (.cons (.tup (.cons (.lit (.int 0)) (.cons (.neg (.lit (.int 4))) .nil))) (.cons (.tup (.cons (.lit (.int 19)) (.cons (.lit (.int 20)) .nil))) .nil)))) .nil)) (.lit (.int 500)))
 (.cons (.ret (.lit (.bl false)))
 .nil)
 .nil)
 (.cons (.fz 2)
 (.cons (.ret (.and (.cmp .is (.call n_f_next_worth (.cons (.var 9) (.cons (.call n_f_law_worth (.cons (.var 2) (.cons (.bin .sub (.bor 10) (.lit (.int 1))) .nil))) .nil))) (.lit (.non))) (.cmp .is (.call n_f_worth_ahead (.cons (.var 9) (.cons (.call n_f_law_worth (.cons (.var 2) (.cons (.lit (.int 0)) .nil))) .nil))) (.lit (.non)))))
 .nil)))))))))))))))))))))))))))⟩
/-- best_rule (k77) -/
def f_best_rule : Fn := ⟨2, 9,
 (.cons (.forS (.one 2) .seq (.var 1) .no
 (.cons (.exp (.call n_f_look_rule (.cons (.var 2) .nil)))
 .nil))
 (.cons (.asgO 3 (.call n_f_all_worths (.cons (.var 0) .nil)))
 (.cons (.asgO 4 (.lit (.non)))
 (.cons (.forS (.many [5, 2]) .enum (.var 1) .no
 (.cons (.asgO 6 (.bi .len (.cons (.comp (.lit (.int 1)) (.one 8) .seq (.bor 3) .no [8] (.call n_f_does_keep (.cons (.var 2) (.cons (.var 8) .nil)))) .nil)))
 (.cons (.asgO 7 (.bi .max2 (.cons (.bor 6) (.cons (.bin .sub (.bi .len (.cons (.bor 3) .nil)) (.bor 6)) .nil))))
 (.cons (.ifS (.or (.cmp .is (.bor 4) (.lit (.non))) (.cmp .lt (.bor 7) (.idx (.bor 4) (.lit (.int 0)))))
 (.cons (.fz 7)
 (.cons (.asgO 4 (.tup (.cons (.var 7) (.cons (.var 5) .nil))))
 .nil))
 .nil)
 .nil))))
 (.cons (.ret (.ite (.cmp .isnot (.bor 4) (.lit (.non))) (.idx (.bor 4) (.lit (.int 1))) (.lit (.non))))
 .nil)))))⟩
/-- law (k77) -/
def law_k77 : Fn := ⟨1, 11,
 (.cons (.asgO 1 (.lst (.cons (.lit (.non)) (.cons (.tup .nil) (.cons (.tup (.cons (.lit (.str "whole")) (.cons (.lit (.int 1)) (.cons (.lit (.int 0)) .nil)))) (.cons (.tup (.cons (.lit (.str "whole")) (.cons (.lit (.int 0)) (.cons (.lit (.int 21)) .nil)))) (.cons (.tup (.cons (.lit (.str "pick")) (.cons (.tup .nil) .nil))) (.cons (.tup (.cons (.lit (.str "row")) (.cons (.tup .nil) .nil))) .nil))))))))
 (.cons (.ext 1 (.lst (.cons (.tup (.cons (.lit (.str "many")) (.cons (.tup (.cons (.lit (.str "whole")) (.cons (.lit (.int 0)) (.cons (.lit (.int 1)) .nil)))) (.cons (.lit (.int 0)) (.cons (.lit (.int 4)) .nil))))) (.cons (.lst (.cons (.lit (.str "whole")) (.cons (.lit (.int 0)) (.cons (.lit (.int 1)) .nil)))) (.cons (.lit (.int 5)) .nil)))))
 (.cons (.asgO 2 (.lst (.cons (.lit (.non)) (.cons (.lit (.int 5)) (.cons (.neg (.lit (.int 1))) (.cons (.lit (.bl true)) (.cons (.lit (.str "a")) (.cons (.tup .nil) (.cons (.tup (.cons (.lit (.int 1)) .nil)) (.cons (.lit (.bl false)) (.cons (.lst (.cons (.lit (.int 1)) .nil)) .nil)))))))))))
 (.cons (.asgO 3 (.lst (.cons (.lit (.non)) (.cons (.tup .nil) (.cons (.tup (.cons (.lit (.str "sum")) (.cons (.lit (.int 0)) .nil))) (.cons (.tup (.cons (.lit (.str "sum")) (.cons (.lit (.int 0)) (.cons (.lit (.int 51)) .nil)))) (.cons (.tup (.cons (.lit (.str "word")) (.cons (.lit (.str "A")) .nil))) (.cons (.tup (.cons (.lit (.str "no")) .nil)) (.cons (.lst (.cons (.lit (.str "rising")) .nil)) (.cons (.tup (.cons (.lit (.str "never")) .nil)) (.cons (.lit (.int 5)) .nil)))))))))))
 (.cons (.unp [5, 6] (.tup (.cons (.tup (.cons (.lit (.str "whole")) (.cons (.lit (.int 0)) (.cons (.lit (.int 4)) .nil)))) (.cons (.tup (.cons (.lit (.str "row")) (.cons (.tup (.cons (.tup (.cons (.lit (.str "whole")) (.cons (.lit (.int 0)) (.cons (.lit (.int 20)) .nil)))) (.cons (.tup (.cons (.lit (.str "whole")) (.cons (.neg (.lit (.int 4))) (.cons (.lit (.int 20)) .nil)))) .nil))) .nil))) .nil))))
 (.cons (.forS (.one 4) .range1 (.lit (.int 4)) .no
 (.cons (.unp [9, 10] (.tup (.cons (.idx (.bor 1) (.bin .mod (.bin .add (.call n_f_law_pick (.cons (.var 0) (.cons (.lit (.int 0)) (.cons (.lit (.int 9)) .nil)))) (.bin .mul (.lit (.int 2)) (.bor 4))) (.lit (.int 9)))) (.cons (.idx (.bor 2) (.bin .mod (.bin .add (.call n_f_law_pick (.cons (.var 0) (.cons (.lit (.int 1)) (.cons (.lit (.int 9)) .nil)))) (.bin .mul (.lit (.int 2)) (.bor 4))) (.lit (.int 9)))) .nil))))
 (.cons (.asgO 7 (.idx (.bor 3) (.bin .mod (.bin .add (.call n_f_law_pick (.cons (.var 0) (.cons (.lit (.int 2)) (.cons (.lit (.int 9)) .nil)))) (.bin .mul (.lit (.int 2)) (.bor 4))) (.lit (.int 9)))))
 (.cons (.asgO 8 (.lst (.cons (.told n_f_law_class [1, 2, 3, 4] (.call n_f_next_worth (.cons (.var 9) (.cons (.var 10) .nil)))) .nil)))
 (.cons (.app 8 (.told n_f_law_class [1, 2, 3, 4] (.call n_f_worth_ahead (.cons (.var 9) (.cons (.var 10) .nil)))))
 (.cons (.app 8 (.told n_f_law_class [1, 2, 3, 4] (.call n_f_between (.cons (.var 9) (.cons (.var 10) (.cons (.var 10) .nil))))))
 (.cons (.app 8 (.told n_f_law_class [1, 2, 3, 4] (.call n_f_middle (.cons (.var 9) .nil))))
 (.cons (.app 8 (.told n_f_law_class [1, 2, 3, 4] (.call n_f_kind_text (.cons (.var 9) .nil))))
 (.cons (.opq)
 (.cons (.app 8 (.told n_f_law_class [1, 2, 3, 4] (.call n_f_best_rule (.cons (.var 9) (.cons (.lst (.cons (.tup (.cons (.lit (.str "rising")) .nil)) .nil)) .nil)))))
 (.cons (.ifS (.cmp .ne (.bor 8) (.bin .mul (.lst (.cons (.lit (.str "no kind")) .nil)) (.lit (.int 7))))
 (.cons (.ret (.lit (.bl false)))
 .nil)
 .nil)
 (.cons (.asgO 8 (.lst (.cons (.told n_f_law_class [1, 2, 3, 4] (.call n_f_next_worth (.cons (.var 5) (.cons (.var 10) .nil)))) .nil)))
 (.cons (.app 8 (.told n_f_law_class [1, 2, 3, 4] (.call n_f_worth_ahead (.cons (.var 5) (.cons (.var 10) .nil)))))
 (.cons (.app 8 (.told n_f_law_class [1, 2, 3, 4] (.call n_f_between (.cons (.var 5) (.cons (.lit (.int 0)) (.cons (.var 10) .nil))))))
 (.cons (.app 8 (.told n_f_law_class [1, 2, 3, 4] (.call n_f_between (.cons (.var 5) (.cons (.var 10) (.cons (.lit (.int 0)) .nil))))))
 (.cons (.ifS (.cmp .ne (.bor 8) (.bin .mul (.lst (.cons (.lit (.str "no worth")) .nil)) (.lit (.int 4))))
 (.cons (.ret (.lit (.bl false)))
 .nil)
 .nil)
 (.cons (.asgO 8 (.lst (.cons (.told n_f_law_class [1, 2, 3, 4] (.call n_f_rule_text (.cons (.var 7) .nil))) .nil)))
 (.cons (.app 8 (.told n_f_law_class [1, 2, 3, 4] (.call n_f_best_rule (.cons (.var 9) (.cons (.lst (.cons (.tup (.cons (.lit (.str "rising")) .nil)) (.cons (.var 7) .nil))) .nil)))))
 (.cons (.app 8 (.told n_f_law_class [1, 2, 3, 4] (.call n_f_best_rule (.cons (.var 6) (.cons (.tup (.cons (.var 7) .nil)) .nil)))))
 (.cons (.ifS (.cmp .ne (.bor 8) (.bin .mul (.lst (.cons (.lit (.str "no rule")) .nil)) (.lit (.int 3))))
 (.cons (.ret (.lit (.bl false)))
 .nil)
 .nil)
 .nil))))))))))))))))))))
 (.cons (.opq)
 (.cons (.ifS (.cmp .ne (.told n_f_law_class [1, 2, 3, 4] (.call n_f_best_rule (.cons (.var 6) (.cons (.tup .nil) .nil)))) (.lit (.str "too many")))
 (.cons (.ret (.lit (.bl false)))
 .nil)
 .nil)
 (.cons (.ret (.and (.cmp .eq (.call n_f_next_worth (.cons (.var 5) (.cons (.lit (.int 3)) .nil))) (.lit (.int 4))) (.and (.cmp .eq (.call n_f_middle (.cons (.var 6) .nil)) (.tup (.cons (.lit (.int 10)) (.cons (.lit (.int 8)) .nil)))) (.cmp .is (.call n_f_best_rule (.cons (.var 5) (.cons (.lst .nil) .nil))) (.lit (.non))))))
 .nil)))))))))⟩
/-- law_do (k80) -/
def f_law_do : Fn := ⟨4, 7,
 (.cons (.asgO 4 (.lit (.non)))
 (.cons (.asgO 5 (.lit (.non)))
 (.cons (.opq)
 (.cons (.ifS (.cmp .is (.bor 4) (.lit (.non)))
 (.cons (.ret (.bor 5))
 .nil)
 .nil)
 (.cons (.ret (.call n_f_law_word (.cons (.var 4) .nil)))
 .nil)))))⟩
/-- law_lists (k80) -/
def f_law_lists : Fn := ⟨3, 3,
 (.cons (.ret (.lst (.cons (.call n_f_all_worths (.cons (.var 0) .nil)) (.cons (.call n_f_keepers (.cons (.var 0) (.cons (.var 1) .nil))) (.cons (.call n_f_lesser (.cons (.var 0) (.cons (.var 2) .nil))) .nil)))))
 .nil)⟩
/-- law (k80) -/
def law_k80 : Fn := ⟨1, 12,
 (.cons (.asgN [6, 7] (.cons (.call n_f_law_small (.cons (.var 0) (.cons (.lit (.int 0)) (.cons (.lit (.int 24)) .nil)))) (.cons (.call n_f_law_rule (.cons (.var 0) (.cons (.lit (.int 4000)) (.cons (.lit (.int 2)) .nil)))) .nil)))
 (.cons (.asgO 1 (.call n_f_worth_of (.cons (.var 6) (.cons (.call n_f_law_pick (.cons (.var 0) (.cons (.lit (.int 4100)) (.cons (.bi .len (.cons (.call n_f_law_all (.cons (.var 6) .nil)) .nil)) .nil)))) .nil))))
 (.cons (.fz 1)
 (.cons (.asgO 2 (.call n_f_law_lists (.cons (.var 6) (.cons (.var 7) (.cons (.var 1) .nil)))))
 (.cons (.asgO 3 (.comp (.bi .list (.cons (.bor 4) .nil)) (.one 4) .seq (.bor 2) .no [4] (.lit (.bl true))))
 (.cons (.fz 2)
 (.cons (.forS (.one 4) .seq (.var 2) .no
 (.cons (.app 4 (.lit (.non)))
 (.cons (.opq)
 .nil)))
 (.cons (.fz 1)
 (.cons (.ifS (.or (.cmp .ne (.call n_f_law_lists (.cons (.var 6) (.cons (.var 7) (.cons (.var 1) .nil)))) (.bor 3)) (.cmp .ne (.call n_f_least_breaking (.cons (.var 6) (.cons (.var 7) .nil))) (.call n_f_least_breaking (.cons (.var 6) (.cons (.var 7) .nil)))))
 (.cons (.ret (.lit (.bl false)))
 .nil)
 .nil)
 (.cons (.opq)
 (.cons (.opq)
 (.cons (.opq)
 (.cons (.asgO 5 (.tup (.cons (.lit (.str "row")) (.cons (.tup (.cons (.tup (.cons (.lit (.str "whole")) (.cons (.lit (.int 0)) (.cons (.lit (.int 19)) .nil)))) (.cons (.tup (.cons (.lit (.str "whole")) (.cons (.lit (.int 1)) (.cons (.lit (.int 6)) .nil)))) (.cons (.tup (.cons (.lit (.str "whole")) (.cons (.lit (.int 0)) (.cons (.lit (.int 4)) .nil)))) .nil)))) .nil))))
 (.cons (.unp [9, 10] (.tup (.cons (.tup (.cons (.lit (.str "whole")) (.cons (.lit (.int 2)) (.cons (.lit (.int 1)) .nil)))) (.cons (.tup (.cons (.lit (.str "sum")) (.cons (.lit (.int 1)) .nil))) .nil))))
 (.cons (.asgO 2 (.bin .add (.comp (.call n_f_law_do (.cons (.var 11) (.cons (.var 9) (.cons (.var 10) (.cons (.lit (.non)) .nil))))) (.one 11) .range1 (.lit (.int 2)) .no [11] (.lit (.bl true))) (.lst (.cons (.call n_f_law_do (.cons (.lit (.int 4)) (.cons (.var 9) (.cons (.lit (.non)) (.cons (.var 10) .nil))))) .nil))))
 (.cons (.ifS (.or (.cmp .ne (.bor 2) (.bin .mul (.lst (.cons (.lit (.str "no rule")) .nil)) (.lit (.int 3)))) (.cmp .ne (.comp (.call n_f_law_do (.cons (.var 11) (.cons (.var 9) (.cons (.lit (.non)) (.cons (.lit (.non)) .nil))))) (.one 11) .seq (.tup (.cons (.lit (.int 2)) (.cons (.lit (.int 3)) .nil))) .no [11] (.lit (.bl true))) (.bin .mul (.lst (.cons (.lit (.str "no kind")) .nil)) (.lit (.int 2)))))
 (.cons (.ret (.lit (.bl false)))
 .nil)
 .nil)
 (.cons (.asgO 2 (.lst (.cons (.call n_f_law_do (.cons (.lit (.int 0)) (.cons (.var 5) (.cons (.var 10) (.cons (.lit (.non)) .nil))))) (.cons (.call n_f_law_do (.cons (.lit (.int 0)) (.cons (.var 5) (.cons (.var 7) (.cons (.lit (.non)) .nil))))) (.cons (.call n_f_law_do (.cons (.lit (.int 5)) (.cons (.var 5) (.cons (.lit (.non)) (.cons (.lit (.non)) .nil))))) .nil)))))
 (.cons (.ifS (.or (.cmp .ne (.bor 2) (.lst (.cons (.lit (.str "no rule")) (.cons (.lit (.str "too many")) (.cons (.lit (.str "too many")) .nil))))) (.cmp .ne (.call n_f_law_do (.cons (.lit (.int 2)) (.cons (.var 5) (.cons (.lit (.non)) (.cons (.lit (.non)) .nil))))) (.lit (.str "no worth"))))
 (.cons (.ret (.lit (.bl false)))
 .nil)
 .nil)
 (.cons (.opq)
 .nil)))))))))))))))))))⟩
/-- law_deed (k81) -/
def f_law_deed : Fn := ⟨2, 2,
 (.cons (.ret (.tup (.cons (.idx (.lst (.cons (.lit (.str "keep")) (.cons (.lit (.str "bar")) .nil))) (.call n_f_law_pick (.cons (.var 0) (.cons (.var 1) (.cons (.lit (.int 2)) .nil))))) (.cons (.call n_f_law_rule (.cons (.var 0) (.cons (.bin .add (.bin .mul (.lit (.int 4)) (.bor 1)) (.lit (.int 30))) (.cons (.lit (.int 2)) .nil)))) .nil))))
 .nil)⟩
/-- law_sifted (k81) -/
def f_law_sifted : Fn := ⟨2, 3,
 (.cons (.ret (.comp (.var 2) (.one 2) .seq (.bor 0) .no [2] (.cmp .eq (.call n_f_law_keeps (.cons (.idx (.bor 1) (.lit (.int 1))) (.cons (.var 2) .nil))) (.cmp .eq (.idx (.bor 1) (.lit (.int 0))) (.lit (.str "keep"))))))
 .nil)⟩
/-- law_did (k81) -/
def f_law_did : Fn := ⟨2, 2,
 (.cons (.opq)
 .nil)⟩
/-- law (k81) -/
def law_k81 : Fn := ⟨1, 10,
 (.cons (.asgO 1 (.call n_f_law_small (.cons (.var 0) (.cons (.lit (.int 10)) (.cons (.lit (.int 60)) .nil)))))
 (.cons (.opq)
 (.cons (.opq)
 (.cons (.forS (.one 2) .range1 (.lit (.int 6)) .no
 (.cons (.asgO 6 (.call n_f_law_deed (.cons (.var 0) (.cons (.bin .add (.lit (.int 1000)) (.bin .mul (.lit (.int 100)) (.bor 2))) .nil))))
 (.cons (.fz 6)
 (.cons (.asgO 7 (.call n_f_law_sifted (.cons (.var 4) (.cons (.var 6) .nil))))
 (.cons (.opq)
 (.cons (.fz 6)
 (.cons (.fz 7)
 (.cons (.asgN [4, 5] (.cons (.var 7) (.cons (.bin .add (.bor 5) (.lst (.cons (.var 6) .nil))) .nil)))
 (.cons (.opq)
 (.cons (.ifS (.cmp .eq (.bor 2) (.lit (.int 1)))
 (.cons (.asgO 8 (.tup (.cons (.lit (.int 0)) (.cons (.lit (.int 1)) .nil))))
 (.cons (.forS (.one 9) .seq (.var 4) .no
 (.cons (.fz 1)
 (.cons (.fz 8)
 (.cons (.asgO 8 (.call n_f_law_plus (.cons (.var 8) (.cons (.call n_f_share_of (.cons (.var 1) (.cons (.var 9) .nil))) .nil))))
 .nil))))
 (.cons (.opq)
 .nil)))
 .nil)
 .nil))))))))))
 (.cons (.opq)
 .nil)))))⟩
/-- law (k82) -/
def law_k82 : Fn := ⟨1, 10,
 (.cons (.asgO 1 (.call n_f_law_small (.cons (.var 0) (.cons (.lit (.int 10)) (.cons (.lit (.int 40)) .nil)))))
 (.cons (.opq)
 (.cons (.forS (.one 2) .range1 (.lit (.int 16)) .no
 (.cons (.asgO 7 (.call n_f_law_pick (.cons (.var 0) (.cons (.bin .add (.lit (.int 900)) (.bor 2)) (.cons (.lit (.int 7)) .nil)))))
 (.cons (.ifS (.cmp .lt (.bor 7) (.lit (.int 4)))
 (.cons (.asgO 8 (.call n_f_law_deed (.cons (.var 0) (.cons (.bin .add (.lit (.int 1000)) (.bin .mul (.lit (.int 100)) (.bor 2))) .nil))))
 (.cons (.fz 8)
 (.cons (.asgO 9 (.call n_f_law_sifted (.cons (.idx (.bor 4) (.bor 6)) (.cons (.var 8) .nil))))
 (.cons (.fz 8)
 (.cons (.ifS (.cmp .ne (.call n_f_law_did (.cons (.var 3) (.cons (.var 8) .nil))) (.bin .sub (.bi .len (.cons (.idx (.bor 4) (.bor 6)) .nil)) (.bi .len (.cons (.bor 9) .nil))))
 (.cons (.ret (.lit (.bl false)))
 .nil)
 .nil)
 (.cons (.fz 9)
 (.cons (.asgO 4 (.bin .add (.slice (.bor 4) .no (.bin .add (.bor 6) (.lit (.int 1)))) (.lst (.cons (.var 9) .nil))))
 (.cons (.fz 8)
 (.cons (.asgO 5 (.bin .add (.slice (.bor 5) .no (.bor 6)) (.lst (.cons (.var 8) .nil))))
 (.cons (.asgO 6 (.bin .add (.bor 6) (.lit (.int 1))))
 .nil))))))))))
 (.cons (.ifS (.cmp .lt (.bor 7) (.lit (.int 6)))
 (.cons (.opq)
 (.cons (.asgO 6 (.bi .max2 (.cons (.lit (.int 0)) (.cons (.bin .sub (.bor 6) (.lit (.int 1))) .nil))))
 .nil))
 (.cons (.opq)
 (.cons (.asgO 6 (.bi .min2 (.cons (.bi .len (.cons (.bor 5) .nil)) (.cons (.bin .add (.bor 6) (.lit (.int 1))) .nil))))
 .nil)))
 .nil))
 (.cons (.opq)
 .nil))))
 (.cons (.ret (.lit (.bl true)))
 .nil))))⟩
/-- law (k83) -/
def law_k83 : Fn := ⟨1, 11,
 (.cons (.asgO 1 (.call n_f_law_small (.cons (.var 0) (.cons (.lit (.int 10)) (.cons (.lit (.int 40)) .nil)))))
 (.cons (.opq)
 (.cons (.forS (.one 2) .range1 (.lit (.int 5)) .no
 (.cons (.asgO 6 (.call n_f_law_deed (.cons (.var 0) (.cons (.bin .add (.lit (.int 1000)) (.bin .mul (.lit (.int 100)) (.bor 2))) .nil))))
 (.cons (.fz 6)
 (.cons (.app 5 (.call n_f_law_sifted (.cons (.idx (.bor 5) (.neg (.lit (.int 1)))) (.cons (.var 6) .nil))))
 (.cons (.fz 6)
 (.cons (.exp (.call n_f_law_did (.cons (.var 4) (.cons (.var 6) .nil))))
 .nil))))))
 (.cons (.opq)
 (.cons (.opq)
 (.cons (.opq)
 (.cons (.fz 3)
 (.cons (.forS (.many [7, 8]) .seq (.tup (.cons (.tup (.cons (.var 4) (.cons (.lit (.int 2000)) .nil))) (.cons (.tup (.cons (.var 3) (.cons (.lit (.int 3000)) .nil))) .nil))) .no
 (.cons (.opq)
 (.cons (.asgO 9 (.idx (.bor 5) (.neg (.lit (.int 1)))))
 (.cons (.forS (.one 2) .range1 (.lit (.int 2)) .no
 (.cons (.asgO 6 (.call n_f_law_deed (.cons (.var 0) (.cons (.bin .add (.bor 8) (.bin .mul (.lit (.int 100)) (.bor 2))) .nil))))
 (.cons (.fz 6)
 (.cons (.fz 9)
 (.cons (.asgO 10 (.call n_f_law_sifted (.cons (.var 9) (.cons (.var 6) .nil))))
 (.cons (.fz 6)
 (.cons (.ifS (.cmp .ne (.call n_f_law_did (.cons (.var 7) (.cons (.var 6) .nil))) (.bin .sub (.bi .len (.cons (.bor 9) .nil)) (.bi .len (.cons (.bor 10) .nil))))
 (.cons (.ret (.lit (.bl false)))
 .nil)
 .nil)
 (.cons (.mov 9 10)
 .nil))))))))
 (.cons (.forS (.one 2) .range1 (.lit (.int 7)) .no
 (.cons (.opq)
 .nil))
 (.cons (.opq)
 (.cons (.forS (.one 2) .range1 (.lit (.int 7)) .no
 (.cons (.opq)
 .nil))
 (.cons (.opq)
 .nil))))))))
 (.cons (.ret (.lit (.bl true)))
 .nil)))))))))⟩
/-- sieve_text (k84) -/
def f_sieve_text : Fn := ⟨1, 5,
 (.cons (.opq)
 (.cons (.ret (.meth .join (.lit (.str "")) (.cons (.comp (.bin .add (.bor 2) (.lit (.str "\n"))) (.one 2) .seq (.bor 1) .no [2] (.lit (.bl true))) .nil)))
 .nil))⟩
/-- read_sieve (k84) -/
def f_read_sieve : Fn := ⟨1, 7,
 (.cons (.ifS (.or (.not (.isi (.bor 0) .str)) (.cmp .ne (.idx (.meth .split (.bor 0) (.cons (.lit (.str "\n")) .nil)) (.neg (.lit (.int 1)))) (.lit (.str ""))))
 (.cons (.raise 6)
 .nil)
 .nil)
 (.cons (.asgO 1 (.slice (.meth .split (.bor 0) (.cons (.lit (.str "\n")) .nil)) .no (.neg (.lit (.int 1)))))
 (.cons (.opq)
 (.cons (.forS (.one 2) .seq (.fr (.slice (.bor 1) (.lit (.int 1)) .no)) .no
 (.cons (.opq)
 (.cons (.ifS (.cmp .notin (.bor 4) (.tup (.cons (.lit (.str "keep")) (.cons (.lit (.str "bar")) .nil))))
 (.cons (.raise 6)
 .nil)
 .nil)
 (.cons (.ifS (.cmp .eq (.bor 4) (.lit (.str "keep")))
 (.cons (.opq)
 .nil)
 (.cons (.opq)
 .nil))
 .nil))))
 (.cons (.ret (.bor 3))
 .nil)))))⟩
/-- law (k84) -/
def law_k84 : Fn := ⟨1, 10,
 (.cons (.asgO 1 (.lst (.cons (.lit (.non)) (.cons (.tup .nil) (.cons (.tup (.cons (.lit (.str "sum")) (.cons (.lit (.int 0)) .nil))) (.cons (.tup (.cons (.lit (.str "sum")) (.cons (.lit (.int 0)) (.cons (.lit (.int 51)) .nil)))) (.cons (.tup (.cons (.lit (.str "word")) (.cons (.lit (.str "A")) .nil))) (.cons (.tup (.cons (.lit (.str "no")) .nil)) (.cons (.lst (.cons (.lit (.str "rising")) .nil)) (.cons (.tup (.cons (.lit (.str "never")) .nil)) (.cons (.lit (.int 5)) .nil)))))))))))
 (.cons (.ext 1 (.lst (.cons (.tup (.cons (.lit (.str "no")) (.cons (.tup (.cons (.lit (.str "no")) (.cons (.tup (.cons (.lit (.str "no")) (.cons (.tup (.cons (.lit (.str "rising")) .nil)) .nil))) .nil))) .nil))) .nil)))
 (.cons (.opq)
 (.cons (.opq)
 (.cons (.opq)
 (.cons (.opq)
 (.cons (.opq)
 (.cons (.forS (.one 3) .range1 (.lit (.int 5)) .no
 (.cons (.asgO 8 (.idx (.bor 1) (.bin .mod (.bin .add (.call n_f_law_pick (.cons (.var 0) (.cons (.lit (.int 0)) (.cons (.lit (.int 10)) .nil)))) (.bin .mul (.lit (.int 2)) (.bor 3))) (.lit (.int 10)))))
 (.cons (.opq)
 (.cons (.opq)
 (.cons (.ifS (.cmp .ne (.bor 9) (.bin .mul (.lst (.cons (.lit (.str "no rule")) .nil)) (.lit (.int 2))))
 (.cons (.ret (.lit (.bl false)))
 .nil)
 .nil)
 .nil)))))
 (.cons (.opq)
 (.cons (.opq)
 (.cons (.opq)
 (.cons (.asgO 5 (.tup (.cons (.lit (.str "row")) (.cons (.tup (.cons (.tup (.cons (.lit (.str "whole")) (.cons (.lit (.int 0)) (.cons (.lit (.int 20)) .nil)))) (.cons (.tup (.cons (.lit (.str "whole")) (.cons (.neg (.lit (.int 4))) (.cons (.lit (.int 20)) .nil)))) .nil))) .nil))))
 (.cons (.opq)
 (.cons (.ifS (.cmp .ne (.told n_f_law_class [1, 3, 6] (.call n_f_read_sieve (.cons (.lit (.str "(0..20 -4..20)\n")) .nil))) (.lit (.str "no text")))
 (.cons (.ret (.lit (.bl false)))
 .nil)
 .nil)
 (.cons (.fz 2)
 (.cons (.ret (.cmp .eq (.call n_f_sieve_text (.cons (.var 2) .nil)) (.lit (.str "(0..2 0..2)\nkeep rising\nbar unlike\n"))))
 .nil))))))))))))))))⟩
/-- law (k85) -/
def law_k85 : Fn := ⟨1, 12,
 (.cons (.asgO 1 (.call n_f_law_small (.cons (.var 0) (.cons (.lit (.int 10)) (.cons (.lit (.int 40)) .nil)))))
 (.cons (.opq)
 (.cons (.forS (.one 3) .range1 (.lit (.int 5)) .no
 (.cons (.fz 2)
 (.cons (.exp (.call n_f_law_did (.cons (.var 2) (.cons (.call n_f_law_deed (.cons (.var 0) (.cons (.bin .add (.lit (.int 1000)) (.bin .mul (.lit (.int 100)) (.bor 3))) .nil))) .nil))))
 .nil)))
 (.cons (.forS (.one 3) .range1 (.call n_f_law_pick (.cons (.var 0) (.cons (.lit (.int 0)) (.cons (.lit (.int 3)) .nil)))) .no
 (.cons (.opq)
 .nil))
 (.cons (.fz 1)
 (.cons (.asgO 4 (.bin .add (.call n_f_law_kind_text (.cons (.var 1) .nil)) (.lit (.str "\n"))))
 (.cons (.opq)
 (.cons (.opq)
 (.cons (.fz 2)
 (.cons (.ifS (.cmp .ne (.call n_f_sieve_text (.cons (.var 2) .nil)) (.bor 4))
 (.cons (.ret (.lit (.bl false)))
 .nil)
 .nil)
 (.cons (.fz 4)
 (.cons (.asgO 5 (.call n_f_read_sieve (.cons (.var 4) .nil)))
 (.cons (.opq)
 (.cons (.opq)
 (.cons (.forS (.one 3) .range1 (.lit (.int 2)) .no
 (.cons (.asgO 10 (.call n_f_law_deed (.cons (.var 0) (.cons (.bin .add (.lit (.int 3000)) (.bin .mul (.lit (.int 100)) (.bor 3))) .nil))))
 (.cons (.fz 9)
 (.cons (.fz 10)
 (.cons (.asgO 11 (.call n_f_law_sifted (.cons (.var 9) (.cons (.var 10) .nil))))
 (.cons (.fz 5)
 (.cons (.fz 10)
 (.cons (.ifS (.cmp .ne (.call n_f_law_did (.cons (.var 5) (.cons (.var 10) .nil))) (.bin .sub (.bi .len (.cons (.bor 9) .nil)) (.bi .len (.cons (.bor 11) .nil))))
 (.cons (.ret (.lit (.bl false)))
 .nil)
 .nil)
 (.cons (.mov 9 11)
 (.cons (.asgO 4 (.bin .add (.bin .add (.bin .add (.bin .add (.bor 4) (.idx (.bor 10) (.lit (.int 0)))) (.lit (.str " "))) (.call n_f_law_rule_text (.cons (.idx (.bor 10) (.lit (.int 1))) .nil))) (.lit (.str "\n"))))
 .nil))))))))))
 (.cons (.opq)
 (.cons (.opq)
 (.cons (.opq)
 .nil))))))))))))))))))⟩
/-- law (k86) -/
def law_k86 : Fn := ⟨1, 13,
 (.cons (.opq)
 (.cons (.forS (.one 2) .range1 (.lit (.int 4)) .no
 (.cons (.fz 1)
 (.cons (.exp (.call n_f_law_did (.cons (.var 1) (.cons (.call n_f_law_deed (.cons (.var 0) (.cons (.bin .add (.lit (.int 1000)) (.bin .mul (.lit (.int 100)) (.bor 2))) .nil))) .nil))))
 .nil)))
 (.cons (.fz 1)
 (.cons (.asgO 3 (.call n_f_sieve_text (.cons (.var 1) .nil)))
 (.cons (.fz 3)
 (.cons (.asgN [7, 8] (.cons (.meth .split (.bor 3) (.cons (.lit (.str "\n")) .nil)) (.cons (.lst (.cons (.var 3) .nil)) .nil)))
 (.cons (.forS (.one 2) .range1 (.lit (.int 3)) .no
 (.cons (.asgO 9 (.bin .add (.bin .mul (.call n_f_law_cell (.cons (.var 0) (.cons (.bin .add (.lit (.int 1700)) (.bor 2)) .nil))) (.lit (.int 7919))) (.call n_f_law_pick (.cons (.var 0) (.cons (.bin .add (.lit (.int 1720)) (.bor 2)) (.cons (.lit (.int 999983)) .nil))))))
 (.cons (.fz 3)
 (.cons (.fz 9)
 (.cons (.app 8 (.call n_f_law_spoilt (.cons (.var 3) (.cons (.var 9) (.cons (.lit (.str "0123-. kba()\n")) .nil)))))
 (.cons (.asgO 10 (.call n_f_law_pick (.cons (.var 0) (.cons (.bin .add (.lit (.int 1740)) (.bor 2)) (.cons (.bi .len (.cons (.bor 7) .nil)) .nil)))))
 (.cons (.asgO 11 (.slice (.bor 7) (.bor 10) (.bin .add (.bor 10) (.lit (.int 2)))))
 (.cons (.app 8 (.meth .join (.lit (.str "\n")) (.cons (.bin .add (.slice (.bor 7) .no (.bor 10)) (.slice (.bor 7) (.bin .add (.bor 10) (.lit (.int 1))) .no)) .nil)))
 (.cons (.app 8 (.meth .join (.lit (.str "\n")) (.cons (.bin .add (.slice (.bor 7) .no (.bin .add (.bor 10) (.lit (.int 1)))) (.slice (.bor 7) (.bor 10) .no)) .nil)))
 (.cons (.app 8 (.meth .join (.lit (.str "\n")) (.cons (.bin .add (.bin .add (.slice (.bor 7) .no (.bor 10)) (.rev (.bor 11))) (.slice (.bor 7) (.bin .add (.bor 10) (.lit (.int 2))) .no)) .nil)))
 .nil))))))))))
 (.cons (.forS (.one 4) .seq (.var 8) .no
 (.cons (.asgO 12 (.told n_f_law_class [1, 3, 6] (.call n_f_sieve_text (.cons (.call n_f_read_sieve (.cons (.var 4) .nil)) .nil))))
 (.cons (.ifS (.and (.cmp .ne (.bor 12) (.bor 4)) (.cmp .ne (.bor 12) (.lit (.str "no text"))))
 (.cons (.ret (.lit (.bl false)))
 .nil)
 .nil)
 .nil)))
 (.cons (.asgO 5 (.lst (.cons (.lit (.str "0..1\n")) (.cons (.lit (.str "{a:1 b:2}\nkeep word a\n")) (.cons (.lit (.str "0..2\nbar sum 1 1\nkeep no(sum 0 0)\nbar rising\n")) .nil)))))
 (.cons (.opq)
 (.cons (.asgO 6 (.lst (.cons (.lit (.str "")) (.cons (.lit (.str "\n")) (.cons (.lit (.str "0..1")) (.cons (.lit (.str "keep rising\n")) (.cons (.lit (.str "0..1\nkeep\n")) (.cons (.lit (.str "0..1\nkeep \n")) (.cons (.lit (.str "0..1\nrising\n")) .nil)))))))))
 (.cons (.ext 6 (.lst (.cons (.lit (.str "0..1\nbars rising\n")) .nil)))
 (.cons (.ext 6 (.lst (.cons (.lit (.str "0..1\n\n")) (.cons (.lit (.str "0..1\n keep rising\n")) (.cons (.lit (.str "0..1\nkeep rising")) (.cons (.lit (.str "0..1\nkeep  rising\n")) .nil))))))
 (.cons (.ext 6 (.lst (.cons (.lit (.str "0..1\n0..1\n")) (.cons (.lit (.str "[0..9]3..3\n")) .nil))))
 (.cons (.ext 6 (.lst (.cons (.lit (.non)) (.cons (.lit (.int 5)) (.cons (.tup (.cons (.lit (.str "0..1\n")) .nil)) (.cons (.lit (.str "0..1\nkeep sum 51 52\n")) (.cons (.lit (.str "1..0\n")) (.cons (.lit (.str "0..1 \n")) (.cons (.lit (.str "0..1\nKeep rising\n")) .nil)))))))))
 (.cons (.ret (.cmp .eq (.comp (.told n_f_law_class [1, 3, 6] (.call n_f_read_sieve (.cons (.var 4) .nil))) (.one 4) .seq (.bor 6) .no [4] (.lit (.bl true))) (.bin .mul (.lst (.cons (.lit (.str "no text")) .nil)) (.lit (.int 21)))))
 .nil))))))))))))))))⟩
/-- law_stays (k87) -/
def f_law_stays : Fn := ⟨1, 3,
 (.cons (.opq)
 (.cons (.ifS (.not (.isi (.bor 1) .list))
 (.cons (.ret (.lit (.bl false)))
 .nil)
 .nil)
 (.cons (.asgO 2 (.bi .list (.cons (.bor 1) .nil)))
 (.cons (.app 1 (.lit (.str "?")))
 (.cons (.opq)
 .nil)))))⟩
/-- law (k87) -/
def law_k87 : Fn := ⟨1, 8,
 (.cons (.asgO 1 (.call n_f_law_small (.cons (.var 0) (.cons (.lit (.int 10)) (.cons (.lit (.int 40)) .nil)))))
 (.cons (.opq)
 (.cons (.opq)
 (.cons (.opq)
 (.cons (.opq)
 (.cons (.opq)
 (.cons (.asgO 3 (.bi .list (.cons (.bor 7) .nil)))
 (.cons (.fz 1)
 (.cons (.asgO 4 (.call n_f_best_rule (.cons (.var 1) (.cons (.var 7) .nil))))
 (.cons (.fz 1)
 (.cons (.ifS (.or (.cmp .ne (.bor 7) (.bor 3)) (.cmp .ne (.call n_f_best_rule (.cons (.var 1) (.cons (.bi .tuple (.cons (.bor 7) .nil)) .nil))) (.bor 4)))
 (.cons (.ret (.lit (.bl false)))
 .nil)
 .nil)
 (.cons (.opq)
 (.cons (.opq)
 .nil)))))))))))))⟩
/-- law (k88) -/
def law_k88 : Fn := ⟨1, 12,
 (.cons (.asgO 1 (.call n_f_law_small (.cons (.var 0) (.cons (.lit (.int 10)) (.cons (.lit (.int 60)) .nil)))))
 (.cons (.fz 1)
 (.cons (.asgN [4, 5, 6] (.cons (.call n_f_law_all (.cons (.var 1) .nil)) (.cons (.lst .nil) (.cons (.lst .nil) .nil))))
 (.cons (.forS (.one 2) .range1 (.bin .add (.lit (.int 1)) (.call n_f_law_pick (.cons (.var 0) (.cons (.lit (.int 0)) (.cons (.lit (.int 5)) .nil))))) .no
 (.cons (.asgO 7 (.call n_f_law_rule (.cons (.var 0) (.cons (.bin .add (.lit (.int 4000)) (.bin .mul (.lit (.int 300)) (.bor 2))) (.cons (.lit (.int 2)) .nil)))))
 (.cons (.fz 7)
 (.cons (.asgO 8 (.bi .len (.cons (.comp (.var 11) (.one 11) .seq (.bor 4) .no [11] (.call n_f_law_keeps (.cons (.var 7) (.cons (.var 11) .nil)))) .nil)))
 (.cons (.fz 7)
 (.cons (.app 5 (.var 7))
 (.cons (.app 6 (.tup (.cons (.bi .max2 (.cons (.bor 8) (.cons (.bin .sub (.bi .len (.cons (.bor 4) .nil)) (.bor 8)) .nil))) (.cons (.var 2) .nil))))
 .nil)))))))
 (.cons (.fz 1)
 (.cons (.asgO 3 (.call n_f_best_rule (.cons (.var 1) (.cons (.bi .list (.cons (.bor 5) .nil)) .nil))))
 (.cons (.fz 1)
 (.cons (.ifS (.or (.cmp .ne (.bor 3) (.idx (.bi .min1 (.cons (.bor 6) .nil)) (.lit (.int 1)))) (.or (.cmp .ne (.call n_f_best_rule (.cons (.var 1) (.cons (.bi .tuple (.cons (.bor 5) .nil)) .nil))) (.bor 3)) (.cmp .isnot (.call n_f_best_rule (.cons (.var 1) (.cons (.lst .nil) .nil))) (.lit (.non)))))
 (.cons (.ret (.lit (.bl false)))
 .nil)
 .nil)
 (.cons (.opq)
 (.cons (.opq)
 (.cons (.opq)
 (.cons (.opq)
 (.cons (.opq)
 .nil)))))))))))))⟩
/-- law (k89) -/
def law_k89 : Fn := ⟨1, 6,
 (.cons (.asgO 1 (.call n_f_law_small (.cons (.var 0) (.cons (.lit (.int 0)) (.cons (.lit (.int 40)) .nil)))))
 (.cons (.asgO 2 (.comp (.call n_f_law_rule (.cons (.var 0) (.cons (.bin .add (.lit (.int 3000)) (.bin .mul (.lit (.int 200)) (.bor 5))) (.cons (.lit (.int 2)) .nil)))) (.one 5) .range1 (.lit (.int 3)) .no [5] (.lit (.bl true))))
 (.cons (.asgO 3 (.bi .list (.cons (.bor 2) .nil)))
 (.cons (.opq)
 (.cons (.opq)
 (.cons (.opq)
 (.cons (.opq)
 (.cons (.opq)
 (.cons (.ret (.and (.cmp .eq (.bor 4) (.bin .mul (.lst (.cons (.lit (.bl true)) .nil)) (.lit (.int 5)))) (.cmp .eq (.bor 2) (.bor 3))))
 .nil)))))))))⟩
/-- law (k90) -/
def law_k90 : Fn := ⟨1, 21,
 (.cons (.asgO 1 (.call n_f_law_small (.cons (.var 0) (.cons (.lit (.int 0)) (.cons (.lit (.int 60)) .nil)))))
 (.cons (.asgO 2 (.comp (.call n_f_law_rule (.cons (.var 0) (.cons (.bin .add (.lit (.int 3000)) (.bin .mul (.lit (.int 200)) (.bor 17))) (.cons (.lit (.int 2)) .nil)))) (.one 17) .range1 (.lit (.int 3)) .no [17] (.lit (.bl true))))
 (.cons (.opq)
 (.cons (.fz 1)
 (.cons (.fz 2)
 (.cons (.forS (.many [8, 9, 10]) .seq (.fr (.call n_f_tally (.cons (.var 1) (.cons (.var 2) .nil)))) .no
 (.cons (.opq)
 (.cons (.fz 2)
 (.cons (.forS (.many [18, 19]) .zip (.var 2) (.var 8)
 (.cons (.ifS (.var 19)
 (.cons (.opq)
 .nil)
 (.cons (.opq)
 .nil))
 .nil))
 (.cons (.opq)
 (.cons (.opq)
 (.cons (.app 7 (.idx (.bor 6) (.bor 8)))
 (.cons (.opq)
 .nil))))))))
 (.cons (.fz 1)
 (.cons (.fz 2)
 (.cons (.asgO 3 (.call n_f_parted (.cons (.var 1) (.cons (.var 2) .nil))))
 (.cons (.ifS (.cmp .ne (.bi .sorted (.cons (.comp (.bi .len (.cons (.bor 20) .nil)) (.one 20) .seq (.bor 3) .no [20] (.lit (.bl true))) .nil)) (.bi .sorted (.cons (.comp (.bi .len (.cons (.bor 20) .nil)) (.one 20) .seq (.bor 7) .no [20] (.lit (.bl true))) .nil)))
 (.cons (.ret (.lit (.bl false)))
 .nil)
 .nil)
 (.cons (.ifS (.cmp .ne (.comp (.var 20) (.one 20) .seq (.bor 3) .no [20] (.cmp .notin (.bor 20) (.bor 7))) (.lst .nil))
 (.cons (.ret (.lit (.bl false)))
 .nil)
 .nil)
 (.cons (.fz 1)
 (.cons (.fz 2)
 (.cons (.asgN [12, 13] (.cons (.call n_f_best_rule (.cons (.var 1) (.cons (.var 2) .nil))) (.cons (.call n_f_tightest (.cons (.var 1) (.cons (.var 2) .nil))) .nil)))
 (.cons (.fz 1)
 (.cons (.asgO 4 (.comp (.bi .len (.cons (.call n_f_keepers (.cons (.var 1) (.cons (.var 18) .nil))) .nil)) (.one 18) .seq (.bor 2) .no [18] (.lit (.bl true))))
 (.cons (.asgO 5 (.bi .sum (.cons (.comp (.bi .len (.cons (.bor 20) .nil)) (.one 20) .seq (.bor 3) .no [20] (.lit (.bl true))) .nil)))
 (.cons (.ifS (.cmp .gt (.bi .max2 (.cons (.idx (.bor 4) (.bor 12)) (.cons (.bin .sub (.bor 5) (.idx (.bor 4) (.bor 12))) .nil))) (.bi .max2 (.cons (.idx (.bor 4) (.idx (.bor 13) (.lit (.int 0)))) (.cons (.bin .sub (.bor 5) (.idx (.bor 4) (.idx (.bor 13) (.lit (.int 0))))) .nil))))
 (.cons (.ret (.lit (.bl false)))
 .nil)
 .nil)
 (.cons (.opq)
 (.cons (.opq)
 (.cons (.opq)
 (.cons (.opq)
 .nil))))))))))))))))))))))⟩
/-- law_pair (k91) -/
def f_law_pair : Fn := ⟨2, 6,
 (.cons (.asgO 2 (.bin .sub (.call n_f_law_pick (.cons (.var 0) (.cons (.var 1) (.cons (.lit (.int 13)) .nil)))) (.lit (.int 6))))
 (.cons (.asgO 3 (.bin .add (.bor 2) (.call n_f_law_pick (.cons (.var 0) (.cons (.bin .add (.bor 1) (.lit (.int 1))) (.cons (.lit (.int 7)) .nil))))))
 (.cons (.asgO 4 (.call n_f_law_pick (.cons (.var 0) (.cons (.bin .add (.bor 1) (.lit (.int 2))) (.cons (.lit (.int 4)) .nil)))))
 (.cons (.ifS (.cmp .lt (.bor 4) (.lit (.int 2)))
 (.cons (.fz 2)
 (.cons (.fz 3)
 (.cons (.ret (.tup (.cons (.tup (.cons (.lit (.str "sum")) (.cons (.var 2) (.cons (.var 3) .nil)))) (.cons (.tup (.cons (.lit (.str "sum")) (.cons (.bin .sub (.lit (.int 0)) (.bor 3)) (.cons (.bin .sub (.lit (.int 0)) (.bor 2)) .nil)))) .nil))))
 .nil)))
 .nil)
 (.cons (.asgO 5 (.tup (.cons (.lit (.str "size")) (.cons (.lit (.int 1)) (.cons (.bin .add (.lit (.int 1)) (.call n_f_law_pick (.cons (.var 0) (.cons (.bin .add (.bor 1) (.lit (.int 1))) (.cons (.lit (.int 3)) .nil))))) .nil)))))
 (.cons (.ifS (.cmp .eq (.bor 4) (.lit (.int 3)))
 (.cons (.asgO 5 (.tup (.cons (.lit (.str "word")) (.cons (.idx (.lst (.cons (.lit (.str "a")) (.cons (.lit (.str "b")) (.cons (.lit (.str "ab")) .nil)))) (.call n_f_law_pick (.cons (.var 0) (.cons (.bin .add (.bor 1) (.lit (.int 1))) (.cons (.lit (.int 3)) .nil))))) .nil))))
 .nil)
 .nil)
 (.cons (.ret (.tup (.cons (.var 5) (.cons (.var 5) .nil))))
 .nil)))))))⟩
/-- law (k91) -/
def law_k91 : Fn := ⟨1, 12,
 (.cons (.asgO 1 (.call n_f_law_small (.cons (.var 0) (.cons (.lit (.int 0)) (.cons (.lit (.int 50)) .nil)))))
 (.cons (.opq)
 (.cons (.forS (.one 2) .range1 (.lit (.int 6)) .no
 (.cons (.unp [9, 10] (.call n_f_law_pair (.cons (.var 0) (.cons (.bin .add (.lit (.int 3000)) (.bin .mul (.lit (.int 10)) (.bor 2))) .nil))))
 (.cons (.asgO 7 (.call n_f_law_pick (.cons (.var 0) (.cons (.bin .add (.lit (.int 3100)) (.bor 2)) (.cons (.lit (.int 5)) .nil)))))
 (.cons (.ifS (.cmp .lt (.bor 7) (.lit (.int 2)))
 (.cons (.opq)
 .nil)
 (.cons (.ifS (.cmp .lt (.bor 7) (.lit (.int 4)))
 (.cons (.opq)
 .nil)
 (.cons (.opq)
 .nil))
 .nil))
 (.cons (.opq)
 (.cons (.opq)
 (.cons (.opq)
 .nil)))))))
 (.cons (.asgO 3 (.comp (.call n_f_law_pair (.cons (.var 0) (.cons (.bin .add (.lit (.int 4000)) (.bin .mul (.lit (.int 10)) (.bor 2))) .nil))) (.one 2) .range1 (.lit (.int 4)) .no [2] (.lit (.bl true))))
 (.cons (.fz 1)
 (.cons (.asgO 4 (.call n_f_best_rule (.cons (.var 1) (.cons (.comp (.var 9) (.many [9, 10]) .seq (.bor 3) .no [9, 10] (.lit (.bl true))) .nil))))
 (.cons (.opq)
 (.cons (.fz 1)
 (.cons (.ret (.cmp .eq (.bor 4) (.call n_f_best_rule (.cons (.call n_f_mirrored (.cons (.var 1) .nil)) (.cons (.comp (.var 10) (.many [9, 10]) .seq (.bor 3) .no [9, 10] (.lit (.bl true))) .nil)))))
 .nil)))))))))⟩
def G : Nat → Option Fn
  | 0 => some f_is_whole
  | 1 => some f_is_word
  | 2 => some f_are_choices
  | 3 => some f_is_kind_in
  | 4 => some f_is_kind
  | 5 => some f_law_cell
  | 6 => some f_law_pick
  | 7 => some f_law_word_of
  | 8 => some f_law_leaf_kind
  | 9 => some f_law_kind
  | 10 => some f_law_whole
  | 11 => some f_law_is_word
  | 12 => some f_law_is_kind
  | 13 => some f_law_places
  | 14 => some f_law_at
  | 15 => some f_law_put
  | 16 => some f_law_spoilt_thing
  | 17 => some law_k01
  | 18 => some f_look_kind
  | 19 => some f_has
  | 20 => some f_is_worth
  | 21 => some f_law_all
  | 22 => some f_law_rows_of
  | 23 => some f_law_size
  | 24 => some f_law_small
  | 25 => some f_law_word
  | 26 => some f_law_tried
  | 27 => some f_law_same
  | 28 => some law_k02
  | 29 => some f_depth_of
  | 30 => some f_depth
  | 31 => some f_words_of
  | 32 => some f_words_in
  | 33 => some f_reach_of
  | 34 => some f_reach
  | 35 => some f_law_deep
  | 36 => some f_law_sum
  | 37 => some law_k03
  | 38 => some f_look_worth
  | 39 => some f_mirrored_kind
  | 40 => some f_mirrored
  | 41 => some f_mirrored_in
  | 42 => some f_mirrored_worth
  | 43 => some f_count
  | 44 => some f_power
  | 45 => some f_how_many
  | 46 => some f_of_number
  | 47 => some f_parts_of
  | 48 => some f_all_worths
  | 49 => some f_both_in
  | 50 => some f_both_rows
  | 51 => some f_both_many
  | 52 => some f_both
  | 53 => some f_is_within
  | 54 => some f_are_apart
  | 55 => some f_divisor
  | 56 => some f_share
  | 57 => some f_times
  | 58 => some f_plus
  | 59 => some f_share_in
  | 60 => some f_share_of
  | 61 => some f_mean_in
  | 62 => some f_mean
  | 63 => some f_law_about
  | 64 => some law_k04
  | 65 => some f_worth_of
  | 66 => some f_number_in
  | 67 => some f_number_of_parts
  | 68 => some f_number_of
  | 69 => some f_law_tried_2
  | 70 => some law_k10
  | 71 => some f_law_tried_3
  | 72 => some f_law_lowest
  | 73 => some f_law_share
  | 74 => some f_law_total
  | 75 => some law_k20
  | 76 => some f_law_tried_4
  | 77 => some f_law_near
  | 78 => some f_law_sorted
  | 79 => some f_law_are_rows_common
  | 80 => some law_k30
  | 81 => some f_law_led
  | 82 => some f_law_both
  | 83 => some f_law_worths
  | 84 => some law_k31
  | 85 => some f_is_rule_in
  | 86 => some f_is_rule
  | 87 => some f_look_rule
  | 88 => some f_leaves
  | 89 => some f_numbers_in
  | 90 => some f_parts_in
  | 91 => some f_does_keep
  | 92 => some f_keeps
  | 93 => some f_law_rule
  | 94 => some f_law_leaves
  | 95 => some f_law_keeps
  | 96 => some f_law_tried_5
  | 97 => some f_law_is_rule
  | 98 => some law_k40
  | 99 => some f_keepers
  | 100 => some f_share_keeping
  | 101 => some f_law_tried_6
  | 102 => some f_law_plus
  | 103 => some law_k41
  | 104 => some f_look_rules
  | 105 => some f_implies
  | 106 => some f_alike_on
  | 107 => some law_k42
  | 108 => some f_tally
  | 109 => some f_tightest
  | 110 => some f_parted
  | 111 => some law_k43
  | 112 => some f_law_class
  | 113 => some law_k44
  | 114 => some law_k45
  | 115 => some f_home
  | 116 => some f_weight_in
  | 117 => some f_weight
  | 118 => some law_k46
  | 119 => some f_with_part
  | 120 => some f_lesser_in
  | 121 => some f_lesser
  | 122 => some f_law_tried_7
  | 123 => some f_law_weight
  | 124 => some f_law_nearest
  | 125 => some f_law_lesser
  | 126 => some law_k50
  | 127 => some f_led_down
  | 128 => some f_least_breaking
  | 129 => some f_law_tried_8
  | 130 => some law_k51
  | 131 => some law_k52
  | 132 => some law_k54
  | 133 => some f_most_asks
  | 134 => some f_law_tried_9
  | 135 => some f_law_ends
  | 136 => some law_k60
  | 137 => some f_text_of
  | 138 => some f_worth_text
  | 139 => some f_leaf
  | 140 => some f_parts_read
  | 141 => some f_worth_in
  | 142 => some f_read_worth
  | 143 => some f_law_spoilt
  | 144 => some f_law_text
  | 145 => some f_law_tried_10
  | 146 => some law_k70
  | 147 => some f_text_of_kind
  | 148 => some f_kind_text
  | 149 => some f_number_in_2
  | 150 => some f_bounds_in
  | 151 => some f_parts_of_text
  | 152 => some f_choice_in
  | 153 => some f_kind_in
  | 154 => some f_read_kind
  | 155 => some f_law_kind_text
  | 156 => some law_k71
  | 157 => some law_k72
  | 158 => some f_text_of_rule
  | 159 => some f_rule_text
  | 160 => some f_rule_in
  | 161 => some f_read_rule
  | 162 => some f_law_rule_text
  | 163 => some law_k73
  | 164 => some law_k74
  | 165 => some f_next_worth
  | 166 => some f_worth_ahead
  | 167 => some f_between
  | 168 => some f_middle
  | 169 => some law_k75
  | 170 => some f_law_worth
  | 171 => some law_k76
  | 172 => some f_best_rule
  | 173 => some law_k77
  | 174 => some f_law_do
  | 175 => some f_law_lists
  | 176 => some law_k80
  | 177 => some f_law_deed
  | 178 => some f_law_sifted
  | 179 => some f_law_did
  | 180 => some law_k81
  | 181 => some law_k82
  | 182 => some law_k83
  | 183 => some f_sieve_text
  | 184 => some f_read_sieve
  | 185 => some law_k84
  | 186 => some law_k85
  | 187 => some law_k86
  | 188 => some f_law_stays
  | 189 => some law_k87
  | 190 => some law_k88
  | 191 => some law_k89
  | 192 => some law_k90
  | 193 => some f_law_pair
  | 194 => some law_k91
  | _ => none
end GG

end

section
set_option Elab.async false
set_option linter.all false
set_option maxRecDepth 100000
set_option maxHeartbeats 1000000
namespace GG
open PySem Wk
/-! sizes -/
mutual
def sz : PyData → Nat
  | .str s => s.length + 1
  | .tuple xs => szAll xs + 1
  | .list xs => szAll xs + 1
  | .dict _ => 2 ^ 40
  | .int _ => 1
  | .bool _ => 1
  | .none => 1
def szAll : List PyData → Nat
  | [] => 0
  | x :: xs => sz x + szAll xs
end
abbrev B : Nat := 1000000
@[simp] theorem sz_str (s : Str) : sz (.str s) = s.length + 1 := by rw [sz]
@[simp] theorem sz_tup (xs : List PyData) : sz (.tuple xs) = szAll xs + 1 := by rw [sz]
@[simp] theorem sz_lst (xs : List PyData) : sz (.list xs) = szAll xs + 1 := by rw [sz]
@[simp] theorem sz_int (i : Int) : sz (.int i) = 1 := by rw [sz]
@[simp] theorem sz_bool (i : Bool) : sz (.bool i) = 1 := by rw [sz]
@[simp] theorem sz_none : sz .none = 1 := by rw [sz]
@[simp] theorem szAll_nil : szAll [] = 0 := by rw [szAll]
@[simp] theorem szAll_cons (x : PyData) (xs : List PyData) : szAll (x :: xs) = sz x + szAll xs := by rw [szAll]
theorem sz_pos (p : PyData) : 1 ≤ sz p := by
  cases p with
  | dict _ => rw [sz]; omega
  | _ => simp
theorem sz_mem : ∀ {xs : List PyData} {x : PyData}, x ∈ xs → sz x ≤ szAll xs
  | y :: ys, x, h => by
    rw [szAll_cons]
    rcases List.mem_cons.mp h with rfl | h
    · omega
    · have := sz_mem h; omega
theorem len_sz : ∀ (xs : List PyData), xs.length ≤ szAll xs
  | [] => by simp
  | x :: xs => by
    have := len_sz xs
    have := sz_pos x
    rw [szAll_cons, List.length_cons]; omega
theorem szAll_append : ∀ (xs ys : List PyData), szAll (xs ++ ys) = szAll xs + szAll ys
  | [], ys => by simp
  | x :: xs, ys => by simp [szAll_append xs ys]; omega
theorem okLen_B {n : Nat} (h : n ≤ 16000000) : okLen n = true := okLen_ok (Nat.le_trans h (by decide))
theorem B_line {n : Nat} (h : n ≤ 16000000) : n ≤ sizeLine := Nat.le_trans h (by decide)
theorem okLen_str {s : Str} (h : sz (.str s) ≤ B) : okLen s.length = true := okLen_B (by rw [sz_str] at h; unfold B at h; omega)
@[simp] theorem nilT_cons (x : PyData) (xs : List PyData) : isNilT (.tuple (x :: xs)) = false := rfl
@[simp] theorem nilT_nil : isNilT (.tuple []) = true := rfl
@[simp] theorem nilL_cons (x : PyData) (xs : List PyData) : isNilL (.list (x :: xs)) = false := rfl
@[simp] theorem nilL_nil : isNilL (.list []) = true := rfl

theorem pbl {a b : Bool} (h : a = b) : (pure (.bl a) : M Rv) = pure (.bl b) := by rw [h]
def isWhole (p : PyData) (lo hi : Int) : Bool := match p with
  | .int i => decide (lo ≤ i) && decide (i ≤ hi)
  | _ => false
theorem whole_or (p : PyData) (lo hi : Int) : isWhole p lo hi = false ∨ ∃ i, p = .int i ∧ isWhole p lo hi = true ∧ lo ≤ i ∧ i ≤ hi := by
  cases p with
  | int i => by_cases h : lo ≤ i <;> by_cases h2 : i ≤ hi <;> simp [isWhole, h, h2]
  | _ => exact .inl rfl
theorem is_whole_ok {n : Nat} (hn : 1 ≤ n) (p : PyData) (lo hi : Int) : callF G n n_f_is_whole [.d p, .int lo, .int hi] = pure (.bl (isWhole p lo hi)) := by
  obtain ⟨n, rfl⟩ := Nat.exists_eq_add_of_le' hn
  rw [call_eq f_is_whole rfl]
  cases p <;> simp [f_is_whole, isWhole]
theorem law_whole_ok {n : Nat} (hn : 1 ≤ n) (p : PyData) (lo hi : Int) : callF G n n_f_law_whole [.d p, .int lo, .int hi] = pure (.bl (isWhole p lo hi)) := by
  obtain ⟨n, rfl⟩ := Nat.exists_eq_add_of_le' hn
  rw [call_eq f_law_whole rfl]
  cases p <;> simp [f_law_whole, isWhole]
def small : Str := "abcdefghijklmnopqrstuvwxyz"
theorem small_eq : small.cps.toList = List.range' 97 26 := by decide +kernel
def okSign (c : Nat) : Bool := decide (97 ≤ c) && decide (c ≤ 122)
theorem sign_eq (c : Nat) : strIn ⟨#[c]⟩ small = okSign c := by
  rw [strIn_one, small_eq]
  unfold okSign
  rw [← Bool.decide_and]
  exact decide_eq_decide.mpr (by rw [List.mem_range'_1]; omega)
def isWord (p : PyData) : Bool := match p with
  | .str s => decide (1 ≤ (s.length : Int)) && decide ((s.length : Int) ≤ 3) && s.cps.toList.all okSign
  | _ => false
theorem word_or (p : PyData) : isWord p = false ∨ ∃ s, p = .str s ∧ isWord p = true := by
  cases h : isWord p with
  | false => exact .inl rfl
  | true => cases p <;> first | (cases h; done) | exact .inr ⟨_, rfl, rfl⟩
theorem is_word_ok {n : Nat} (hn : 1 ≤ n) (p : PyData) (h : sz p ≤ B) : callF G n n_f_is_word [.d p] = pure (.bl (isWord p)) := by
  obtain ⟨n, rfl⟩ := Nat.exists_eq_add_of_le' hn
  rw [call_eq f_is_word rfl]
  cases p with
  | str s =>
    have h := okLen_str h
    simp [f_is_word, len_str h, items_str h]
    rw [comp_mapM (fun c => .bool (okSign c))]
    · simp [all_own, isWord]
    · intro c _
      have := sign_eq c
      unfold small at this
      simp [turnF, this]
  | _ => simp [f_is_word, isWord]
def isPair : PyData → Bool
  | .tuple xs => decide ((xs.length : Int) = 2)
  | _ => false
def isChoice : PyData → Bool
  | .tuple [w, k] => isWord w && isWhole k 1 20
  | _ => false
def wordOf : PyData → PyData
  | .tuple (w :: _) => w
  | _ => .none
def words (xs : List PyData) : List Str := xs.map fun x => match wordOf x with | .str s => s | _ => Str.empty
def areChoices : PyData → Bool
  | .tuple xs => decide (1 ≤ (xs.length : Int)) && decide ((xs.length : Int) ≤ 4) && xs.all isPair && xs.all isChoice && decide ((words xs).Nodup)
  | _ => false
theorem pair_eq {x : PyData} (h : isPair x = true) : ∃ w k, x = .tuple [w, k] := by
  cases x with
  | tuple xs =>
    match xs, h with
    | [w, k], _ => exact ⟨w, k, rfl⟩
    | [], h => simp [isPair] at h
    | [_], h => simp [isPair] at h
    | _ :: _ :: _ :: _, h => simp [isPair] at h; omega
  | _ => cases h
theorem choice_eq {x : PyData} (h : isChoice x = true) : ∃ s i, x = .tuple [.str s, .int i] := by
  unfold isChoice at h
  split at h
  · simp only [Bool.and_eq_true] at h
    rename_i w k
    cases w <;> first | (cases h.1; done) | skip
    cases k <;> first | (cases h.2; done) | exact ⟨_, _, rfl⟩
  · cases h
theorem are_choices_ok {n : Nat} (hn : 2 ≤ n) (p : PyData) (h : sz p ≤ B) : callF G n n_f_are_choices [.d p] = pure (.bl (areChoices p)) := by
  obtain ⟨n, rfl⟩ := Nat.exists_eq_add_of_le' (show 1 ≤ n by omega)
  have hn' : 1 ≤ n := by omega
  rw [call_eq f_are_choices rfl]
  cases p with
  | tuple xs =>
    simp at h
    simp [f_are_choices]
    by_cases z1 : (1 ≤ (xs.length : Int)) <;> by_cases z2 : ((xs.length : Int) ≤ 4) <;> simp [z1, z2, areChoices]
    rw [comp_mapA (fun x => .bool (isPair x))]
    · rw [pure_bind', all_own, pure_bind', toB_bl, pure_bind']
      cases c2 : xs.all isPair with
      | false => simp [c2]
      | true =>
        have c2' := List.all_eq_true.mp c2
        simp
        rw [comp_mapA (fun x => .bool (isChoice x))]
        · rw [pure_bind', all_own, pure_bind', toB_bl, pure_bind']
          cases c3 : xs.all isChoice with
          | false => simp [c3]
          | true =>
            have c3' := List.all_eq_true.mp c3
            simp
            rw [comp_mapA (fun x => .str (match wordOf x with | .str s => s | _ => Str.empty))]
            · rw [pure_bind', setlen_strs _ (by omega)]
              have e : (firstK (xs.map fun x => (Sum.inr (match wordOf x with | .str s => s | _ => Str.empty) : Sum Int Str)) xs.length).length = xs.length ↔ (words xs).Nodup := by
                have e2 := firstK_nodup (xs.map fun x => (Sum.inr (match wordOf x with | .str s => s | _ => Str.empty) : Sum Int Str))
                rw [List.length_map] at e2
                rw [e2]
                have e3 : (xs.map fun x => (Sum.inr (match wordOf x with | .str s => s | _ => Str.empty) : Sum Int Str)) = (words xs).map Sum.inr := by
                  unfold words; rw [List.map_map]; rfl
                rw [e3, nodup_inr]
              simp
              exact pbl (decide_eq_decide.mpr (by rw [← e]; exact Int.ofNat_inj))
            · intro x hx
              obtain ⟨s, i, rfl⟩ := choice_eq (c3' x hx)
              simp [turnF, wordOf]
        · intro x hx
          obtain ⟨w, k, rfl⟩ := pair_eq (c2' x hx)
          have hf := sz_mem hx
          simp at hf
          simp [turnF, isChoice, is_word_ok hn' w (by unfold B at *; omega), is_whole_ok hn']
    · intro x hx
      cases x <;> simp [turnF, isPair]
  | _ => simp [f_are_choices, areChoices]
end GG

end

section
set_option Elab.async false
set_option linter.all false
set_option maxRecDepth 100000
set_option maxHeartbeats 2000000
namespace GG
open PySem Wk
def leI : PyData → PyData → Bool
  | .int a, .int b => decide (a ≤ b)
  | _, _ => false
/-- what a kind is, so deep at most -/
def isKind : Nat → PyData → Bool
  | 0, _ => false
  | d + 1, p => match p with
    | .tuple [.str w, a] => if w = "pick" then areChoices a else if w = "row" then (match a with
      | .tuple ys => decide (1 ≤ (ys.length : Int)) && decide ((ys.length : Int) ≤ 3) && ys.all (isKind d)
      | _ => false) else false
    | .tuple [.str w, a, b] => if w = "whole" then isWhole a (-20) 20 && isWhole b (-20) 20 && leI a b else false
    | .tuple [.str w, k, a, b] => if w = "many" then isWhole a 0 3 && isWhole b 0 3 && leI a b && isKind d k else false
    | _ => false
theorem kind_in_ok : ∀ (d n : Nat) (p : PyData), sz p ≤ B → d + 2 ≤ n → callF G n n_f_is_kind_in [.d p, .int d] = pure (.bl (isKind d p))
  | 0, n, p, h, hn => by
    obtain ⟨n, rfl⟩ := Nat.exists_eq_add_of_le' (show 1 ≤ n by omega)
    rw [call_eq f_is_kind_in rfl]
    simp [f_is_kind_in, isKind]
  | d + 1, n, p, h, hn => by
    obtain ⟨n, rfl⟩ := Nat.exists_eq_add_of_le' (show 1 ≤ n by omega)
    have hd : ((d + 1 : Nat) : Int) ≠ 0 := by omega
    have hd' : ¬ ((d : Int) + 1 = 0) := by omega
    have hn' : 1 ≤ n := by omega
    rw [call_eq f_is_kind_in rfl]
    cases p with
    | tuple xs =>
      match xs, h with
      | [], _ => simp [f_is_kind_in, hd', isKind]
      | x :: xs, h =>
        cases x with
        | str w =>
          simp at h
          simp [f_is_kind_in, hd']
          match xs, h with
          | [], _ =>
            simp
            by_cases h1 : w = "pick" <;> by_cases h2 : w = "row" <;> by_cases h3 : w = "many" <;> simp [isKind, h1, h2, h3]
          | [a], h =>
            simp at h
            simp
            by_cases h1 : w = "pick"
            · subst h1
              simp [isKind]
              rw [are_choices_ok (by omega) _ (by unfold B at *; omega)]
            · by_cases h2 : w = "row"
              · subst h2
                simp [isKind]
                cases a with
                | tuple ys =>
                  simp
                  by_cases z1 : (1 ≤ (ys.length : Int)) <;> by_cases z2 : ((ys.length : Int) ≤ 3) <;> simp [z1, z2]
                  rw [comp_mapA (fun x => .bool (isKind d x))]
                  · simp
                  · intro x hx
                    have := sz_mem hx
                    simp at h
                    simp [turnF]
                    rw [kind_in_ok d n x (by unfold B at *; omega) (by omega)]
                    simp
                | _ => simp
              · by_cases h3 : w = "many" <;> simp [isKind, h1, h2, h3]
          | [a, b], h => 
            by_cases h1 : w = "whole"
            · subst h1
              simp [isKind, comp_cons, turnF, is_whole_ok hn', all_eq]
              rcases whole_or a (-20) 20 with z1 | ⟨i, rfl, z1, z2, z3⟩
              · simp [z1]
              · rcases whole_or b (-20) 20 with z4 | ⟨j, rfl, z4, z5, z6⟩ <;> simp [z1, z4, leI]
            · by_cases h3 : w = "many" <;> simp [isKind, h1, h3]
          | [k, a, b], h =>
            by_cases h1 : w = "many"
            · subst h1
              simp [isKind, comp_cons, turnF, is_whole_ok hn', all_eq]
              rcases whole_or a 0 3 with z1 | ⟨i, rfl, z1, z2, z3⟩
              · simp [z1]
              · rcases whole_or b 0 3 with z4 | ⟨j, rfl, z4, z5, z6⟩
                · simp [z1, z4]
                · simp at h
                  simp [z1, z4, leI]
                  have e := kind_in_ok d n k (by unfold B at *; omega) (by omega)
                  by_cases z : j < i
                  · simp [z, show ¬ i ≤ j by omega]
                  · simp [z, show i ≤ j by omega, e]
            · simp [isKind, h1]
          | a :: b :: c :: e :: r, h =>
            have k2 : ¬ ((r.length : Int) + 1 + 1 + 1 + 1 + 1 = 2) := by omega
            have k3 : ¬ ((r.length : Int) + 1 + 1 + 1 + 1 + 1 = 3) := by omega
            have k4 : ¬ ((r.length : Int) + 1 + 1 + 1 + 1 + 1 = 4) := by omega
            by_cases h3 : w = "many" <;> simp [isKind, k2, k3, k4, h3]
        | _ => simp [f_is_kind_in, isKind]
    | _ => simp [f_is_kind_in, isKind]
theorem is_kind_ok (n : Nat) (p : PyData) (h : sz p ≤ B) (hn : 6 ≤ n) : callF G n n_f_is_kind [.d p] = pure (.bl (isKind 3 p)) := by
  obtain ⟨n, rfl⟩ := Nat.exists_eq_add_of_le' (show 1 ≤ n by omega)
  rw [call_eq f_is_kind rfl]
  have e := kind_in_ok 3 n p h (by omega)
  simp at e
  simp [f_is_kind, e]
@[simp] theorem one_lt (a b : Nat) : ([a] < [b]) = (a < b) := by simp [List.cons_lt_cons_iff]
@[simp] theorem one_le (a b : Nat) : ([a] ≤ [b]) = (a ≤ b) := by
  rw [← List.not_lt, one_lt, Nat.not_lt]
theorem list_a : (Str.ofString "a").cps.toList = [97] := by decide +kernel
theorem list_z : (Str.ofString "z").cps.toList = [122] := by decide +kernel
theorem filterMap_nil {α β : Type} {f : α → Option β} : ∀ {xs : List α}, (xs.filterMap f).isEmpty = xs.all fun x => (f x).isNone
  | [] => rfl
  | x :: xs => by
    rw [List.filterMap_cons, List.all_cons]
    cases h : f x with
    | none => simp [filterMap_nil]
    | some y => simp
theorem nilL_eq (xs : List PyData) : isNilL (.list xs) = xs.isEmpty := by cases xs <;> rfl
theorem nilT_eq (xs : List PyData) : isNilT (.tuple xs) = xs.isEmpty := by cases xs <;> rfl
theorem law_is_word_ok {n : Nat} (hn : 1 ≤ n) (p : PyData) (h : sz p ≤ B) : callF G n n_f_law_is_word [.d p] = pure (.bl (isWord p)) := by
  obtain ⟨n, rfl⟩ := Nat.exists_eq_add_of_le' hn
  rw [call_eq f_law_is_word rfl]
  cases p with
  | str s =>
    have h := okLen_str h
    simp [f_law_is_word, len_str h, items_str h]
    rw [comp_filterM (fun c => if okSign c then none else some (.str ⟨#[c]⟩))]
    · simp only [pure_bind', toP_own, eq_od, eq_nilL, toP_d, nilL_eq, filterMap_nil, isWord]
      have e : ∀ c, (if okSign c = true then (none : Option PyData) else some (.str ⟨#[c]⟩)).isNone = okSign c := fun c => by cases okSign c <;> rfl
      simp [e, Bool.and_assoc]
    · intro c _
      simp [turnF, list_a, list_z, okSign]
      by_cases h1 : 97 ≤ c <;> by_cases h2 : c ≤ 122 <;> simp [h1, h2] <;> omega
  | _ => simp [f_law_is_word, isWord]
end GG

end

section
set_option Elab.async false
set_option linter.all false
set_option maxRecDepth 100000
set_option maxHeartbeats 400000
namespace GG
open PySem Wk
theorem any_str (w : List Str) (s : Str) : ((w.map PyData.str).any fun z => PyData.eqv z (.str s)) = decide (s ∈ w) := by
  induction w with
  | nil => simp
  | cons x w ih =>
    rw [List.map_cons, List.any_cons, ih]
    simp only [PyData.eqv, beq_dec]
    by_cases h : x = s
    · simp [h]
    · simp [h, Ne.symm h]
theorem lk_0 (n : Nat) (p : PyData) (hn : 2 ≤ n) : callF G n n_f_law_is_kind [.d p, .int 0] = pure (.bl false) := by
  obtain ⟨n, rfl⟩ := Nat.exists_eq_add_of_le' (show 1 ≤ n by omega)
  rw [call_eq f_law_is_kind rfl]
  cases p with
  | tuple xs =>
    match xs with
    | [] => simp [f_law_is_kind]
    | [a] => simp [f_law_is_kind]
    | a :: b :: xs => cases a <;> simp [f_law_is_kind]
  | _ => simp [f_law_is_kind]
theorem lk_long {n d : Nat} (w : Str) (y a b c : PyData) (r : List PyData) (hd' : ¬ ((d : Int) + 1 < 1)) : callF G (n+1) n_f_law_is_kind [.d (.tuple (.str w :: y :: a :: b :: c :: r)), .int (d + 1)] = pure (.bl false) := by
  rw [call_eq f_law_is_kind rfl]
  have k2 : ¬ ((r.length : Int) + 1 + 1 + 1 + 1 = 2) := by omega
  have k3 : ¬ ((r.length : Int) + 1 + 1 + 1 + 1 = 3) := by omega
  have k4 : ¬ ((r.length : Int) + 1 + 1 + 1 + 1 = 1) := by omega
  have k5 : ¬ ((r.length : Int) + 1 + 1 + 1 + 1 + 1 < 2) := by omega
  by_cases h1 : w = "whole"
  · simp [f_law_is_kind, hd', k2, k5, h1]
  · by_cases h2 : w = "pick"
    · simp [f_law_is_kind, hd',k4, k5, h2]
    · by_cases h3 : w = "row"
      · simp [f_law_is_kind, hd',k4,k5, h3]
      · by_cases h4 : w = "many"
        · simp [f_law_is_kind, hd', k3,k5, h4]
        · simp [f_law_is_kind, hd', k5, h1, h2, h3, h4]
theorem lk_3 {n d : Nat} (w : Str) (y b : PyData) (hn' : 1 ≤ n) (hd' : ¬ ((d : Int) + 1 < 1)) : callF G (n+1) n_f_law_is_kind [.d (.tuple [.str w, y, b]), .int (d + 1)] = pure (.bl (isKind (d + 1) (.tuple [.str w, y, b]))) := by
  rw [call_eq f_law_is_kind rfl]
  by_cases h1 : w = "whole"
  · subst h1
    simp [f_law_is_kind, hd', isKind, law_whole_ok hn']
    rcases whole_or y (-20) 20 with z1 | ⟨i, rfl, z1, z2, z3⟩
    · simp [z1]
    · simp [z1, law_whole_ok hn']
      refine pbl ?_
      cases b <;> simp [isWhole, leI]
      rename_i j
      by_cases q1 : i ≤ j <;> by_cases q2 : j ≤ 20 <;> simp [q1, q2] <;> omega
  · by_cases h3 : w = "many"
    · simp [f_law_is_kind, hd', isKind, h3]
    · by_cases h4 : w = "row"
      · simp [f_law_is_kind, hd', isKind, h4]
      · by_cases h5 : w = "pick"
        · simp [f_law_is_kind, hd', isKind, h5]
        · simp [f_law_is_kind, hd', isKind, h1, h3, h4, h5]
theorem lk_4 {n d : Nat} (w : Str) (y a b : PyData) (hn' : 1 ≤ n) (hd' : ¬ ((d : Int) + 1 < 1)) (e : callF G n n_f_law_is_kind [.d y, .int d] = pure (.bl (isKind d y))) :
    callF G (n+1) n_f_law_is_kind [.d (.tuple [.str w, y, a, b]), .int (d + 1)] = pure (.bl (isKind (d + 1) (.tuple [.str w, y, a, b]))) := by
  rw [call_eq f_law_is_kind rfl]
  by_cases h1 : w = "many"
  · subst h1
    simp [f_law_is_kind, hd', isKind, law_whole_ok hn']
    rcases whole_or a 0 3 with z1 | ⟨i, rfl, z1, z2, z3⟩
    · simp [z1]
    · have e2 : isWhole b i 3 = (isWhole b 0 3 && leI (.int i) b) := by
        cases b <;> simp [isWhole, leI]
        rename_i j
        by_cases q1 : i ≤ j <;> by_cases q2 : j ≤ 3 <;> simp [q1, q2] <;> omega
      simp [z1, law_whole_ok hn', e2]
      cases (isWhole b 0 3 && leI (.int i) b) <;> simp [e]
  · by_cases h3 : w = "whole"
    · simp [f_law_is_kind, hd', isKind, h3]
    · by_cases h4 : w = "row"
      · simp [f_law_is_kind, hd', isKind, h4]
      · by_cases h5 : w = "pick"
        · simp [f_law_is_kind, hd', isKind, h5]
        · simp [f_law_is_kind, hd', isKind, h1, h3, h4, h5]
theorem lk_row {n d : Nat} (y : PyData) (hd' : ¬ ((d : Int) + 1 < 1)) (hB : sz y ≤ B) (e : ∀ x, sz x ≤ B → callF G n n_f_law_is_kind [.d x, .int d] = pure (.bl (isKind d x))) :
    callF G (n+1) n_f_law_is_kind [.d (.tuple [.str "row", y]), .int (d + 1)] = pure (.bl (isKind (d + 1) (.tuple [.str "row", y]))) := by
  rw [call_eq f_law_is_kind rfl]
  simp [f_law_is_kind, hd', isKind]
  cases y with
  | tuple ys =>
    simp
    by_cases z1 : (1 ≤ (ys.length : Int)) <;> by_cases z2 : ((ys.length : Int) ≤ 3) <;> simp [z1, z2]
    rw [comp_pure (fun x => if isKind d x then none else some x)]
    · simp only [pure_bind', toP_own, eq_od, eq_nilL, toP_d, nilL_eq, filterMap_nil]
      have e : ∀ c, (if isKind d c = true then (none : Option PyData) else some c).isNone = isKind d c := fun c => by cases isKind d c <;> rfl
      simp [e]
    · intro x hx
      have := sz_mem hx
      simp at hB
      simp [turnF, e x (by unfold B at *; omega)]
      cases isKind d x <;> simp
  | _ => simp
theorem fm_len {α β : Type} {f : α → Option β} : ∀ xs : List α, (xs.filterMap f).length = xs.length ↔ ∀ x ∈ xs, (f x).isSome = true
  | [] => by simp
  | x :: xs => by
    have ih := fm_len (f := f) xs
    have hl := List.length_filterMap_le f xs
    rw [List.filterMap_cons]
    cases h : f x with
    | none => simp [h]; omega
    | some y => simp [h, ih]
theorem fm_map {α β : Type} {p : α → Bool} {g : α → β} {xs : List α} (h : ∀ x ∈ xs, p x = true) : (xs.filterMap fun x => if p x = true then some (g x) else none) = xs.map g := by
  induction xs with
  | nil => rfl
  | cons x xs ih => rw [List.filterMap_cons]; simp [h x List.mem_cons_self, ih fun y hy => h y (List.mem_cons_of_mem _ hy)]
theorem nodup_take {α : Type} [DecidableEq α] (w : List α) : (∀ k, k < w.length → ∀ x, w[k]? = some x → x ∉ w.take k) ↔ w.Nodup := by
  constructor
  · intro h
    rw [List.nodup_iff_pairwise_ne, List.pairwise_iff_getElem]
    intro i j hi hj hij e
    refine h j hj w[j] (List.getElem?_eq_getElem hj) ?_
    rw [List.mem_take_iff_getElem]
    exact ⟨i, by omega, e⟩
  · intro h k hk x hx hm
    rw [List.mem_take_iff_getElem] at hm
    obtain ⟨i, hi, e⟩ := hm
    rw [List.nodup_iff_pairwise_ne, List.pairwise_iff_getElem] at h
    have hx2 := List.getElem?_eq_some_iff.mp hx
    obtain ⟨hk2, hx2⟩ := hx2
    exact h i k (by omega) hk2 (by omega) (by rw [e, hx2])
theorem choice_pair {x : PyData} (h : isChoice x = true) : isPair x = true := by
  obtain ⟨s, i, rfl⟩ := choice_eq h
  rfl
theorem words_eq {ys : List PyData} (h : ∀ x ∈ ys, isChoice x = true) : ys.map wordOf = (words ys).map .str := by
  unfold words
  rw [List.map_map]
  refine List.map_congr_left fun x hx => ?_
  obtain ⟨s, i, rfl⟩ := choice_eq (h x hx)
  rfl
theorem bool_iff {a b : Bool} (h : a = true ↔ b = true) : a = b := by cases a <;> cases b <;> simp_all
theorem comp_words {w : List Str} (h4 : w.length ≤ 4) (f : PyData → M (Option PyData)) (hf : ∀ (k : Nat) (hk : k < w.length), f (.int k) = pure (if w[k] ∈ w.take k then some (.int k) else none)) :
    (walk .range1 (.int w.length) (.d .none) >>= fun xs => compM f xs >>= fun ys => pure (Rv.bl (isNilL (.list ys)))) = pure (.bl (decide w.Nodup)) := by
  rw [walk_rng1 _ _ (Nat.le_trans h4 (by decide)), pure_bind']
  rw [comp_filterM (fun k => if (match w[k]? with | some x => decide (x ∈ w.take k) | none => false) then some (.int (k : Int)) else none)]
  · rw [pure_bind', nilL_eq, filterMap_nil]
    refine pbl (bool_iff ?_)
    rw [List.all_eq_true, decide_eq_true_iff, ← nodup_take]
    simp only [List.mem_range]
    refine forall_congr' fun k => forall_congr' fun hk => ?_
    rw [List.getElem?_eq_getElem hk]
    simp
  · intro k hk
    rw [List.mem_range] at hk
    rw [hf k hk, List.getElem?_eq_getElem hk]
    simp
theorem lk_pick {n d : Nat} (y : PyData) (hd' : ¬ ((d : Int) + 1 < 1)) (hB : sz y ≤ B) (hn' : 1 ≤ n) :
    callF G (n+1) n_f_law_is_kind [.d (.tuple [.str "pick", y]), .int (d + 1)] = pure (.bl (isKind (d + 1) (.tuple [.str "pick", y]))) := by
  rw [call_eq f_law_is_kind rfl]
  simp [f_law_is_kind, hd', isKind]
  cases y with
  | tuple ys =>
    simp at hB
    simp
    by_cases z1 : (1 ≤ (ys.length : Int)) <;> by_cases z2 : ((ys.length : Int) ≤ 4) <;> simp [z1, z2, areChoices]
    rw [comp_pure (fun x => if isPair x then some x else none)]
    · rw [pure_bind']
      rw [comp_pure (fun x => if isChoice x then some (wordOf x) else none)]
      · have e0 : (List.filterMap (fun x => if isChoice x = true then some (wordOf x) else none) (List.filterMap (fun x => if isPair x = true then some x else none) ys)) = ys.filterMap fun x => if isChoice x = true then some (wordOf x) else none := by
          rw [List.filterMap_filterMap]
          congr 1; funext x
          cases h : isPair x with
          | true => simp
          | false =>
            have : isChoice x = false := by
              cases h2 : isChoice x with
              | false => rfl
              | true => rw [choice_pair h2] at h; cases h
            simp [this]
        rw [e0, pure_bind']
        by_cases hc : ∀ x ∈ ys, isChoice x = true
        · have hp : ∀ x ∈ ys, isPair x = true := fun x hx => choice_pair (hc x hx)
          rw [fm_map hc, words_eq hc, List.all_eq_true.mpr hc, List.all_eq_true.mpr hp]
          have hl : (words ys).length = ys.length := by unfold words; rw [List.length_map]
          rw [List.length_map, hl, if_pos rfl, ← hl, comp_words (by omega)]
          · simp
          · intro k hk
            simp [turnF, idx_own', List.getElem?_map, List.getElem?_eq_getElem hk, cut_take, ← List.map_take, any_str]
            by_cases z : (words ys)[k] ∈ (words ys).take k
            · simp [z]
            · simp [z]
        · have e1 : ¬ (((ys.filterMap fun x => if isChoice x = true then some (wordOf x) else none).length : Int) = (ys.length : Int)) := fun z => hc fun x hx => by
            have := (fm_len ys).mp (Int.ofNat_inj.mp z) x hx
            cases h : isChoice x with
            | true => rfl
            | false => rw [h] at this; cases this
          have e2 : ys.all isChoice = false := by
            cases h : ys.all isChoice with
            | false => rfl
            | true => exact absurd (List.all_eq_true.mp h) hc
          rw [if_neg e1, e2]
          simp
      · intro x hx
        rw [List.mem_filterMap] at hx
        obtain ⟨a, ha, hp⟩ := hx
        have hp2 : isPair a = true := by
          cases h : isPair a with
          | true => rfl
          | false => simp [h] at hp
        rw [hp2, if_pos rfl] at hp
        cases hp
        obtain ⟨w, k, rfl⟩ := pair_eq hp2
        have hf := sz_mem ha
        simp at hf
        simp [turnF, isChoice, law_is_word_ok hn' w (by unfold B at *; omega), law_whole_ok hn']
        cases isWord w <;> cases isWhole k 1 20 <;> simp [wordOf]
    · intro x hx
      cases x <;> simp [turnF, isPair]
      rename_i xs
      by_cases h : (xs.length : Int) = 2 <;> simp [h]
  | _ => simp [areChoices]
theorem law_kind_ok : ∀ (d n : Nat) (p : PyData), sz p ≤ B → d + 2 ≤ n → callF G n n_f_law_is_kind [.d p, .int d] = pure (.bl (isKind d p))
  | 0, n, p, h, hn => lk_0 n p hn
  | d + 1, n, p, h, hn => by
    obtain ⟨n, rfl⟩ := Nat.exists_eq_add_of_le' (show 1 ≤ n by omega)
    have hd' : ¬ ((d : Int) + 1 < 1) := by omega
    have hn' : 1 ≤ n := by omega
    have ih := fun x hx => law_kind_ok d n x hx (by omega)
    have short : ∀ p, (∀ w y r, p ≠ .tuple (.str w :: y :: r)) → callF G (n+1) n_f_law_is_kind [.d p, .int (d + 1)] = pure (.bl (isKind (d + 1) p)) := fun p hp => by
      rw [call_eq f_law_is_kind rfl]
      cases p with
      | tuple xs =>
        match xs, hp with
        | [], _ => simp [f_law_is_kind, isKind]
        | [a], _ => simp [f_law_is_kind, isKind]
        | x :: y :: r, hp =>
          have k1 : ¬ ((r.length : Int) + 1 + 1 < 2) := by omega
          cases x with
          | str w => exact absurd rfl (hp w y r)
          | _ => simp [f_law_is_kind, isKind, k1]
      | _ => simp [f_law_is_kind, isKind]
    rw [show ((d + 1 : Nat) : Int) = (d : Int) + 1 by omega]
    by_cases hs : ∃ w y r, p = .tuple (.str w :: y :: r)
    · obtain ⟨w, y, r, rfl⟩ := hs
      match r, h with
      | [], h =>
        simp at h
        by_cases h1 : w = "pick"
        · subst h1; exact lk_pick y hd' (by unfold B at *; omega) hn'
        · by_cases h2 : w = "row"
          · subst h2; exact lk_row y hd' (by unfold B at *; omega) ih
          · rw [call_eq f_law_is_kind rfl]
            by_cases h3 : w = "whole"
            · simp [f_law_is_kind, hd', isKind, h3]
            · by_cases h4 : w = "many"
              · simp [f_law_is_kind, hd', isKind, h4]
              · simp [f_law_is_kind, hd', isKind, h1, h2, h3, h4]
      | [b], h => exact lk_3 w y b hn' hd'
      | [a, b], h => exact lk_4 w y a b hn' hd' (ih y (by simp at h; unfold B at *; omega))
      | a :: b :: c :: r, h => rw [lk_long w y a b c r hd']; simp [isKind]
    · exact short p fun w y r z => hs ⟨w, y, r, z⟩
end GG

end

section
set_option Elab.async false
set_option linter.all false
set_option maxRecDepth 100000
set_option maxHeartbeats 400000
namespace GG
open PySem Wk
/-! draws -/
abbrev scr (ns : List Int) : Rv := .d (.list (ns.map .int))
def cellV (ns : List Int) (k : Nat) : Int := if k < ns.length then (ns[k]?).getD 0 else if ns = [] then 0 else (ns[k % ns.length]?).getD 0 * 31 + k
theorem bits_31 : okMul 31 0 = true := by decide +kernel
theorem okMul_r (i j : Int) (h : decide (Builtin.Int.intBits j ≤ 64) = true) : okMul i j = true := by
  unfold okMul; rw [h]; simp
theorem okMul_l (i j : Int) (h : decide (Builtin.Int.intBits i ≤ 64) = true) : okMul i j = true := by
  unfold okMul; rw [h]; simp
@[simp] theorem mul_31 (i : Int) : binOp .mul (.d (.int i)) (.d (.int 31)) = pure (.int (i * 31)) := mul_int _ _ (okMul_r _ _ (by decide +kernel))
@[simp] theorem mul_6151 (i : Int) : binOp .mul (.d (.int 6151)) (.d (.int i)) = pure (.int (6151 * i)) := mul_int _ _ (okMul_l _ _ (by decide +kernel))
@[simp] theorem mul_40692 (i : Int) : binOp .mul (.d (.int i)) (.d (.int 40692)) = pure (.int (i * 40692)) := mul_int _ _ (okMul_r _ _ (by decide +kernel))
theorem bits62 {i : Int} (h : -4611686018427387904 < i) (h2 : i < 4611686018427387904) : decide (Builtin.Int.intBits i ≤ 64) = true := by
  unfold Builtin.Int.intBits
  by_cases z : i = 0
  · simp [z]
  · have z2 : i.natAbs ≠ 0 := by omega
    have := (Nat.log2_lt z2 (k := 62)).mpr (by omega)
    simp [z]; omega
theorem mul_l (i j : Int) (h : -4611686018427387904 < i) (h2 : i < 4611686018427387904) : binOp .mul (.d (.int i)) (.d (.int j)) = pure (.int (i * j)) := mul_int _ _ (okMul_l _ _ (bits62 h h2))
theorem mul_r (i j : Int) (h : -4611686018427387904 < j) (h2 : j < 4611686018427387904) : binOp .mul (.d (.int i)) (.d (.int j)) = pure (.int (i * j)) := mul_int _ _ (okMul_r _ _ (bits62 h h2))
theorem ints_nil (ns : List Int) : isNilL (.list (ns.map PyData.int)) = decide (ns = []) := by cases ns <;> simp
theorem cell_ok {n : Nat} (hn : 1 ≤ n) (ns : List Int) (k : Nat) : callF G n n_f_law_cell [scr ns, .int k] = pure (.int (cellV ns k)) := by
  obtain ⟨n, rfl⟩ := Nat.exists_eq_add_of_le' hn
  rw [call_eq f_law_cell rfl]
  simp [f_law_cell]
  by_cases h : k < ns.length
  · simp [h, idx_lst, cellV, List.getElem?_eq_getElem h]
  · by_cases h2 : ns = []
    · subst h2; simp [cellV]
    · have h3 : 0 < ns.length := List.length_pos_iff.mpr h2
      have h4 := Nat.mod_lt k h3
      simp [h, ints_nil, h2, cellV, mod_int _ _ (show (ns.length : Int) ≠ 0 by omega)]
      rw [show Int.fmod (k : Int) (ns.length : Int) = ((k % ns.length : Nat) : Int) by rw [Int.fmod_eq_emod_of_nonneg _ (by omega)]; exact (Int.natCast_emod k ns.length).symm]
      rw [idx_lst, List.getElem?_map, List.getElem?_eq_getElem h4]
      simp
def drawV (ns : List Int) (k : Nat) : Int := ((cellV ns k + 6151 * (k + 1)) * 40692).fmod 2147483399
def pickV (ns : List Int) (k : Nat) (m : Nat) : Nat := (((drawV ns k * drawV ns k + (drawV ns k).fdiv 31).fmod 2147483629).fmod m).toNat
theorem pick_lt (ns : List Int) (k m : Nat) (h : 0 < m) : pickV ns k m < m := by
  unfold pickV
  have h1 := Int.fmod_nonneg_of_pos ((drawV ns k * drawV ns k + (drawV ns k).fdiv 31).fmod 2147483629) (show (0 : Int) < m by omega)
  have h2 := Int.fmod_lt_of_pos ((drawV ns k * drawV ns k + (drawV ns k).fdiv 31).fmod 2147483629) (show (0 : Int) < m by omega)
  omega
theorem draw_bd (ns : List Int) (k : Nat) : 0 ≤ drawV ns k ∧ drawV ns k < 2147483399 := by
  unfold drawV
  exact ⟨Int.fmod_nonneg_of_pos _ (by decide), Int.fmod_lt_of_pos _ (by decide)⟩
theorem bits_small {i : Int} (h : 0 ≤ i) (h2 : i < 2147483399) : decide (Builtin.Int.intBits i ≤ 64) = true := by
  unfold Builtin.Int.intBits
  by_cases z : i = 0
  · simp [z]
  · have z2 : i.natAbs ≠ 0 := by omega
    have := (Nat.log2_lt z2 (k := 31)).mpr (by omega)
    simp [z]; omega
theorem pick_nat {n : Nat} (hn : 2 ≤ n) (ns : List Int) (k m : Nat) (hm : 0 < m) : callF G n n_f_law_pick [scr ns, .int k, .int m] = pure (.int (pickV ns k m)) := by
  obtain ⟨n, rfl⟩ := Nat.exists_eq_add_of_le' (show 1 ≤ n by omega)
  rw [call_eq f_law_pick rfl]
  have hb := draw_bd ns k
  have e := cell_ok (show 1 ≤ n by omega) ns k
  have e2 := mul_int (drawV ns k) (drawV ns k) (okMul_l _ _ (bits_small hb.1 hb.2))
  have h1 := Int.fmod_nonneg_of_pos ((drawV ns k * drawV ns k + (drawV ns k).fdiv 31).fmod 2147483629) (show (0 : Int) < m by omega)
  unfold drawV at e2
  simp [f_law_pick, e, mod_int _ _ (show (2147483399 : Int) ≠ 0 by decide), e2, fdiv_int _ _ (show okDiv 31 = true by decide +kernel), mod_int _ _ (show (2147483629 : Int) ≠ 0 by decide), mod_int _ _ (show (m : Int) ≠ 0 by omega)]
  unfold pickV drawV
  unfold drawV at h1
  rw [Int.toNat_of_nonneg h1]
def pickI (ns : List Int) (k m : Int) : Int := pickV ns k.toNat m.toNat
theorem pick_ok {n : Nat} (ns : List Int) (k m : Int) (hn : 2 ≤ n) (hk : 0 ≤ k) (hm : 0 < m) : callF G n n_f_law_pick [scr ns, .int k, .int m] = pure (.int (pickI ns k m)) := by
  obtain ⟨k, rfl⟩ := Int.eq_ofNat_of_zero_le hk
  obtain ⟨m, rfl⟩ := Int.eq_ofNat_of_zero_le (Int.le_of_lt hm)
  exact pick_nat hn ns k m (by omega)
theorem pick_bd (ns : List Int) (k m : Int) (hm : 0 < m) : 0 ≤ pickI ns k m ∧ pickI ns k m < m := by
  have := pick_lt ns k.toNat m.toNat (by omega)
  unfold pickI
  omega
end GG

end

section
set_option Elab.async false
set_option linter.all false
set_option maxRecDepth 100000
set_option maxHeartbeats 400000
namespace GG
open PySem Wk
inductive Kd where
  | whole (lo hi : Int)
  | pick (cs : List (Str × Int))
  | row (ks : List Kd)
  | many (k : Kd) (lo hi : Int)
def encC (c : Str × Int) : PyData := .tuple [.str c.1, .int c.2]
mutual
def enc : Kd → PyData
  | .whole lo hi => .tuple [.str "whole", .int lo, .int hi]
  | .pick cs => .tuple [.str "pick", .tuple (cs.map encC)]
  | .row ks => .tuple [.str "row", .tuple (encs ks)]
  | .many k lo hi => .tuple [.str "many", enc k, .int lo, .int hi]
def encs : List Kd → List PyData
  | [] => []
  | k :: ks => enc k :: encs ks
end
theorem encs_map : ∀ ks, encs ks = ks.map enc
  | [] => by rw [encs]; rfl
  | k :: ks => by rw [encs, encs_map ks, List.map_cons]
@[simp] theorem enc_whole (lo hi : Int) : enc (.whole lo hi) = .tuple [.str "whole", .int lo, .int hi] := by rw [enc]
@[simp] theorem enc_pick (cs : List (Str × Int)) : enc (.pick cs) = .tuple [.str "pick", .tuple (cs.map encC)] := by rw [enc]
@[simp] theorem enc_row (ks : List Kd) : enc (.row ks) = .tuple [.str "row", .tuple (ks.map enc)] := by rw [enc, encs_map]
@[simp] theorem enc_many (k : Kd) (lo hi : Int) : enc (.many k lo hi) = .tuple [.str "many", enc k, .int lo, .int hi] := by rw [enc]
def okWord (s : Str) : Prop := isWord (.str s) = true
def okCs (cs : List (Str × Int)) : Prop := 1 ≤ cs.length ∧ cs.length ≤ 4 ∧ (∀ c ∈ cs, okWord c.1 ∧ 1 ≤ c.2 ∧ c.2 ≤ 20) ∧ (cs.map (·.1)).Nodup
def ok : Nat → Kd → Prop
  | 0, _ => False
  | _ + 1, .whole lo hi => -20 ≤ lo ∧ lo ≤ hi ∧ hi ≤ 20
  | _ + 1, .pick cs => okCs cs
  | d + 1, .row ks => 1 ≤ ks.length ∧ ks.length ≤ 3 ∧ ∀ k ∈ ks, ok d k
  | d + 1, .many k lo hi => 0 ≤ lo ∧ lo ≤ hi ∧ hi ≤ 3 ∧ ok d k
theorem ok_up : ∀ {d e : Nat} {k : Kd}, ok d k → d ≤ e → ok e k
  | 0, _, _, h, _ => h.elim
  | d + 1, 0, _, _, h => by omega
  | d + 1, e + 1, .whole lo hi, h, _ => h
  | d + 1, e + 1, .pick cs, h, _ => h
  | d + 1, e + 1, .row ks, h, l => ⟨h.1, h.2.1, fun k hk => ok_up (h.2.2 k hk) (by omega)⟩
  | d + 1, e + 1, .many k lo hi, h, l => ⟨h.1, h.2.1, h.2.2.1, ok_up h.2.2.2 (by omega)⟩
theorem word_len {s : Str} (h : okWord s) : 1 ≤ s.length ∧ s.length ≤ 3 := by
  unfold okWord isWord at h
  simp only [Bool.and_eq_true, decide_eq_true_eq] at h
  omega
theorem len_whole : (Str.ofString "whole").length = 5 := by decide +kernel
theorem len_pick : (Str.ofString "pick").length = 4 := by decide +kernel
theorem len_row : (Str.ofString "row").length = 3 := by decide +kernel
theorem len_many : (Str.ofString "many").length = 4 := by decide +kernel
theorem szAll_le {c : Nat} : ∀ {xs : List PyData}, (∀ x ∈ xs, sz x ≤ c) → szAll xs ≤ xs.length * c
  | [], _ => by simp
  | x :: xs, h => by
    have h1 := h x List.mem_cons_self
    have h2 := szAll_le (xs := xs) fun y hy => h y (List.mem_cons_of_mem _ hy)
    rw [szAll_cons, List.length_cons, Nat.add_mul]; omega
theorem sz_enc : ∀ {d : Nat} {k : Kd}, ok d k → sz (enc k) + 3 ≤ 34 * 3 ^ d
  | 0, _, h => h.elim
  | d + 1, .whole lo hi, h => by
    have := Nat.pow_pos (n := d) (show 0 < 3 by decide)
    simp [len_whole, Nat.pow_succ]; omega
  | d + 1, .pick cs, h => by
    have := Nat.pow_pos (n := d) (show 0 < 3 by decide)
    have h2 : szAll (cs.map encC) ≤ cs.length * 6 := by
      rw [← List.length_map (f := encC) (as := cs)]
      refine szAll_le fun x hx => ?_
      obtain ⟨c, hc, rfl⟩ := List.mem_map.mp hx
      have := word_len (h.2.2.1 c hc).1
      simp [encC]; omega
    have := h.2.1
    simp [len_pick, Nat.pow_succ]; omega
  | d + 1, .row ks, h => by
    have p := Nat.pow_pos (n := d) (show 0 < 3 by decide)
    have h2 : szAll (ks.map enc) ≤ (ks.map enc).length * (34 * 3 ^ d - 3) := by
      refine szAll_le fun x hx => ?_
      obtain ⟨c, hc, rfl⟩ := List.mem_map.mp hx
      have := sz_enc (h.2.2 c hc); omega
    rw [List.length_map] at h2
    have h3 : ks.length * (34 * 3 ^ d - 3) ≤ 3 * (34 * 3 ^ d - 3) := Nat.mul_le_mul_right _ h.2.1
    simp [len_row, Nat.pow_succ]; omega
  | d + 1, .many k lo hi, h => by
    have p := Nat.pow_pos (n := d) (show 0 < 3 by decide)
    have := sz_enc h.2.2.2
    simp [len_many, Nat.pow_succ]; omega
theorem encC_choice (c : Str × Int) : isChoice (encC c) = (isWord (.str c.1) && isWhole (.int c.2) 1 20) := rfl
theorem words_enc (cs : List (Str × Int)) : words (cs.map encC) = cs.map (·.1) := by
  unfold words; rw [List.map_map]; rfl
theorem isKind_of : ∀ {d : Nat} {k : Kd}, ok d k → isKind d (enc k) = true
  | 0, _, h => h.elim
  | d + 1, .whole lo hi, h => by
    have h : -20 ≤ lo ∧ lo ≤ hi ∧ hi ≤ 20 := h
    simp [isKind, isWhole, leI]; omega
  | d + 1, .pick cs, h => by
    obtain ⟨h1, h2, h3, h4⟩ : okCs cs := h
    simp [isKind, areChoices, words_enc, h4]
    refine ⟨⟨⟨by omega, by omega⟩, fun a b hc => rfl⟩, fun a b hc => ?_⟩
    have := h3 _ hc
    simp [encC_choice, isWhole]
    exact ⟨this.1, this.2⟩
  | d + 1, .row ks, h => by
    obtain ⟨h1, h2, h3⟩ := h
    simp [isKind]
    exact ⟨⟨by omega, by omega⟩, fun k hk => isKind_of (h3 k hk)⟩
  | d + 1, .many k lo hi, h => by
    obtain ⟨h1, h2, h3, h4⟩ := h
    simp [isKind, isWhole, leI, isKind_of h4]; omega
end GG

end

section
set_option Elab.async false
set_option linter.all false
set_option maxRecDepth 100000
set_option maxHeartbeats 400000
namespace GG
open PySem Wk
theorem walk_r1 (n : Nat) (b : Rv) (h : n ≤ 16000000) : walk .range1 (.d (.int n)) b = pure ((List.range n).map fun (k : Nat) => .int (k : Int)) := walk_rng1 n b (B_line h)
theorem walk_r1i {m : Int} {k : Nat} (b : Rv) (e : m = k) (h : k ≤ 16000000) : walk .range1 (.d (.int m)) b = pure ((List.range k).map fun (k : Nat) => .int (k : Int)) := by
  subst e; exact walk_r1 k b h
@[simp] theorem chk_join (s : Str) : meChk .join (.d (.str s)) = pure () := id rfl
@[simp] theorem chk_split (s : Str) : meChk .split (.d (.str s)) = pure () := id rfl
@[simp] theorem chk_index_l (s : List PyData) : meChk .index (.d (.list s)) = pure () := id rfl
@[simp] theorem chk_index_o (s : List PyData) : meChk .index (.own s) = pure () := id rfl
instance (s : Str) : Decidable (okWord s) := inferInstanceAs (Decidable (isWord (.str s) = true))
theorem loop_nat {f : PyData → En → M (Fl × En)} (P : Nat → En → Prop) : ∀ (m k : Nat) (σ : En), P k σ → (∀ i σ, k ≤ i → i < k + m → P i σ → ∃ σ', f (.int (i : Int)) σ = pure (.nx, σ') ∧ P (i + 1) σ') →
    ∃ σ', loopM f ((List.range' k m).map fun (i : Nat) => .int (i : Int)) σ = pure (.nx, σ') ∧ P (k + m) σ'
  | 0, k, σ, h, _ => ⟨σ, rfl, h⟩
  | m + 1, k, σ, h, hs => by
    obtain ⟨σ1, e1, h1⟩ := hs k σ (Nat.le_refl _) (by omega) h
    obtain ⟨σ2, e2, h2⟩ := loop_nat P m (k + 1) σ1 h1 fun i σ a b => hs i σ (by omega) (by omega)
    refine ⟨σ2, ?_, by rw [show k + (m + 1) = k + 1 + m by omega]; exact h2⟩
    rw [List.range'_succ, List.map_cons, loop_cons', e1, pure_bind']
    exact e2
/-- for k in range(m) -/
theorem range_use {α : Type} {f : PyData → En → M (Fl × En)} {σ : En} {K : Fl × En → M α} {R : M α} {m : Nat} (P : Nat → En → Prop) (h0 : P 0 σ)
    (hs : ∀ i σ, i < m → P i σ → ∃ σ', f (.int (i : Int)) σ = pure (.nx, σ') ∧ P (i + 1) σ') (hk : ∀ σ', P m σ' → K (.nx, σ') = R) : (loopM f ((List.range m).map fun (i : Nat) => .int (i : Int)) σ >>= K) = R := by
  obtain ⟨σ', e, h⟩ := loop_nat P m 0 σ h0 fun i σ _ h => hs i σ (by omega)
  rw [List.range_eq_range', e, pure_bind']
  exact hk σ' (by rw [Nat.zero_add] at h; exact h)
theorem any_eq_mem {p : Str → Bool} {w : List Str} {s : Str} (h : ∀ z, p z = decide (z = s)) : w.any p = decide (s ∈ w) := by
  induction w with
  | nil => simp
  | cons x w ih =>
    rw [List.any_cons, ih, h]
    by_cases e : x = s
    · simp [e]
    · simp [e, Ne.symm e]
@[simp] theorem any_str' (w : List Str) (s : Str) : (w.any ((fun z => PyData.eqv z (.str s)) ∘ PyData.str)) = decide (s ∈ w) := any_eq_mem fun z => eqv_ss z s
def ofL (l : List Nat) : Str := ⟨l.toArray⟩
theorem ofL_len (l : List Nat) : (ofL l).length = l.length := by simp [ofL, Str.length]
theorem join_signs : ∀ (l : List Nat), Str.join (Str.ofString "") (l.map fun c => ⟨#[c]⟩) = ofL l
  | [] => rfl
  | [c] => rfl
  | c :: d :: l => by
    have ih := join_signs (d :: l)
    show (⟨#[c]⟩ : Str) ++ Str.ofString "" ++ Str.join (Str.ofString "") ((d :: l).map fun c => (⟨#[c]⟩ : Str)) = ofL (c :: d :: l)
    rw [ih]
    have e : (Str.ofString "") = (⟨#[]⟩ : Str) := by decide +kernel
    rw [e]
    show (⟨(#[c] ++ #[]) ++ (d :: l).toArray⟩ : Str) = ⟨(c :: d :: l).toArray⟩
    simp
theorem okWord_ofL {l : List Nat} (h1 : 1 ≤ l.length) (h3 : l.length ≤ 3) (h : ∀ c ∈ l, 97 ≤ c ∧ c ≤ 122) : okWord (ofL l) := by
  unfold okWord isWord
  show (decide (1 ≤ ((ofL l).length : Int)) && decide (((ofL l).length : Int) ≤ 3) && (ofL l).cps.toList.all okSign) = true
  rw [ofL_len]
  simp only [Bool.and_eq_true, decide_eq_true_eq]
  refine ⟨⟨by omega, by omega⟩, ?_⟩
  rw [List.all_eq_true]
  intro c hc
  have := h c (by simpa [ofL] using hc)
  simp [okSign, this]
theorem strsOf_map' {α : Type} {xs : List α} (g : α → Str) : strsOf (xs.map fun x => .str (g x)) = some (xs.map g) := strsOf_map g
theorem len_one (c : Nat) : (⟨#[c]⟩ : Str).length = 1 := rfl
theorem sum_ones {α : Type} (l : List α) : (l.map fun _ => 1).sum = l.length := by
  induction l with
  | nil => rfl
  | cons a l ih => simp [ih]; omega
theorem join_ok (l : List Nat) (h : l.length ≤ 1000000) : meOp .join (.d (.str "")) [.own (l.map fun c => .str ⟨#[c]⟩)] = pure (.d (.str (ofL l))) := by
  show (match strsOf (l.map fun c => .str ⟨#[c]⟩) with
    | some ss => if decide ((ss.map Str.length).sum + ss.length * (Str.ofString "").length ≤ 16777216) then (pure (Rv.str (Str.join (Str.ofString "") ss)) : M Rv) else bad
    | none => bad) = _
  rw [strsOf_map]
  dsimp only
  rw [join_signs, if_pos]
  refine decide_eq_true ?_
  rw [List.map_map, show (Str.length ∘ fun (c : Nat) => (⟨#[c]⟩ : Str)) = (fun _ => 1) from funext len_one, sum_ones, show (Str.ofString "").length = 0 by decide +kernel]
  omega
theorem idx_letters {r : Int} (h : 0 ≤ r) (h2 : r < 26) : idxOp (.d (.str "abcdefghijklmnopqrstuvwxyz")) (.int r) = pure (.d (.str ⟨#[97 + r.toNat]⟩)) := by
  obtain ⟨r, rfl⟩ := Int.eq_ofNat_of_zero_le h
  show (match L2.atI (Str.cps (Str.ofString "abcdefghijklmnopqrstuvwxyz")).toList (r : Int) with | some c => if okLen (Str.ofString "abcdefghijklmnopqrstuvwxyz").length then (pure (.str ⟨#[c]⟩) : M Rv) else bad | none => bad) = _
  have e := small_eq
  unfold small at e
  rw [atI_nat, e, List.getElem?_range' (by omega)]
  dsimp only
  rw [if_pos (by decide +kernel)]
  simp
theorem word_of_ok (ns : List Int) (a : Int) (ha : 0 ≤ a) : ∃ w, okWord w ∧ ∀ n, 3 ≤ n → callF G n n_f_law_word_of [scr ns, .int a] = pure (.d (.str w)) := by
  have go : ∀ {w}, okWord w → (∀ n, 2 ≤ n → callF G (n+1) n_f_law_word_of [scr ns, .int a] = pure (.d (.str w))) → ∃ w, okWord w ∧ ∀ n, 3 ≤ n → callF G n n_f_law_word_of [scr ns, .int a] = pure (.d (.str w)) := fun {w} h k => ⟨w, h, fun n hn => by
    obtain ⟨n, rfl⟩ := Nat.exists_eq_add_of_le' (show 1 ≤ n by omega)
    exact k n (by omega)⟩
  by_cases h : 0 < pickI ns a 6
  · have hb := pick_bd ns (a + 1) 4 (by decide)
    have hr : pickI ns (a + 1) 4 = 0 ∨ pickI ns (a + 1) 4 = 1 ∨ pickI ns (a + 1) 4 = 2 ∨ pickI ns (a + 1) 4 = 3 := by omega
    rcases hr with hr | hr | hr | hr
    · refine go (w := "a") (by decide +kernel) fun n hn => ?_
      rw [call_eq f_law_word_of rfl]
      simp (disch := omega) [f_law_word_of, pick_ok, h, hr]
    · refine go (w := "b") (by decide +kernel) fun n hn => ?_
      rw [call_eq f_law_word_of rfl]
      simp (disch := omega) [f_law_word_of, pick_ok, h, hr]
    · refine go (w := "ab") (by decide +kernel) fun n hn => ?_
      rw [call_eq f_law_word_of rfl]
      simp (disch := omega) [f_law_word_of, pick_ok, h, hr]
    · refine go (w := "cab") (by decide +kernel) fun n hn => ?_
      rw [call_eq f_law_word_of rfl]
      simp (disch := omega) [f_law_word_of, pick_ok, h, hr]
  · have hb := pick_bd ns (a + 1) 3 (by decide)
    obtain ⟨m, hm⟩ := Int.eq_ofNat_of_zero_le (show 0 ≤ 1 + pickI ns (a + 1) 3 by omega)
    refine go (w := ofL ((List.range m).map fun (k : Nat) => 97 + (pickI ns (a + 2 + k) 26).toNat)) (okWord_ofL (by simp; omega) (by simp; omega) fun c hc => ?_) fun n hn => ?_
    · obtain ⟨k, hk, rfl⟩ := List.mem_map.mp hc
      have := pick_bd ns (a + 2 + k) 26 (by decide)
      omega
    · rw [call_eq f_law_word_of rfl]
      simp (disch := omega) [f_law_word_of, pick_ok, h, hm]
      rw [walk_r1 _ _ (by omega), pure_bind', comp_mapM (fun (k : Nat) => .str ⟨#[97 + (pickI ns (a + 2 + k) 26).toNat]⟩)]
      · have := join_ok ((List.range m).map fun (k : Nat) => 97 + (pickI ns (a + 2 + k) 26).toNat) (by simp; omega)
        rw [List.map_map] at this
        simp [meChk]
        exact this
      · intro k hk
        have := pick_bd ns (a + 2 + k) 26 (by decide)
        simp (disch := omega) [turnF, pick_ok, idx_letters]
end GG

end

section
set_option Elab.async false
set_option linter.all false
set_option maxRecDepth 100000
set_option maxHeartbeats 400000
namespace GG
open PySem Wk
theorem enum_map {α : Type} (f : α → PyData) : ∀ (xs : List α) (i : Nat), enumL i (xs.map f) = (xs.zipIdx i).map fun p => .tuple [.int (p.2 : Int), f p.1]
  | [], i => rfl
  | x :: xs, i => by
    rw [List.map_cons, List.zipIdx_cons, List.map_cons, ← enum_map f xs (i + 1)]; rfl
@[simp] theorem walk_enum_own (xs : List PyData) (b : Rv) : walk .enum (.own xs) b = pure (enumL 0 xs) := id rfl
@[simp] theorem walk_enum_tup (xs : List PyData) (b : Rv) : walk .enum (.d (.tuple xs)) b = pure (enumL 0 xs) := id rfl
@[simp] theorem walk_enum_lst (xs : List PyData) (b : Rv) : walk .enum (.d (.list xs)) b = pure (enumL 0 xs) := id rfl
@[simp] theorem min2_int (i j : Int) : bi2 .min2 (.d (.int i)) (.d (.int j)) = pure (.int (if j < i then j else i)) := id rfl
@[simp] theorem max2_int (i j : Int) : bi2 .max2 (.d (.int i)) (.d (.int j)) = pure (.int (if j > i then j else i)) := id rfl
noncomputable def wordV (ns : List Int) (a : Int) : Str := if h : 0 ≤ a then Classical.choose (word_of_ok ns a h) else Str.empty
theorem wordV_ok {ns : List Int} {a : Int} (h : 0 ≤ a) : okWord (wordV ns a) := by
  unfold wordV; rw [dif_pos h]; exact (Classical.choose_spec (word_of_ok ns a h)).1
theorem word_of_eq {n : Nat} (ns : List Int) (a : Int) (hn : 3 ≤ n) (h : 0 ≤ a) : callF G n n_f_law_word_of [scr ns, .int a] = pure (.d (.str (wordV ns a))) := by
  unfold wordV; rw [dif_pos h]; exact (Classical.choose_spec (word_of_ok ns a h)).2 n hn
noncomputable def stepW (ns : List Int) (a : Int) (w : List Str) : PyData → List Str
  | .int k => if wordV ns (a + 5 + 5 * k) ∈ w then w else w ++ [wordV ns (a + 5 + 5 * k)]
  | _ => w
noncomputable def wordsV (ns : List Int) (a : Int) (m : Nat) : List Str := ((List.range m).map fun (k : Nat) => PyData.int (k : Int)).foldl (stepW ns a) []
theorem stepW_good {ns : List Int} {a : Int} (ha : 0 ≤ a) : ∀ (xs : List Nat) (w : List Str), w.Nodup → (∀ s ∈ w, okWord s) →
    ((xs.map fun (k : Nat) => PyData.int (k : Int)).foldl (stepW ns a) w).Nodup ∧ (∀ s ∈ (xs.map fun (k : Nat) => PyData.int (k : Int)).foldl (stepW ns a) w, okWord s) ∧
    ((xs.map fun (k : Nat) => PyData.int (k : Int)).foldl (stepW ns a) w).length ≤ w.length + xs.length ∧ w.length ≤ ((xs.map fun (k : Nat) => PyData.int (k : Int)).foldl (stepW ns a) w).length ∧
    (0 < xs.length → 1 ≤ ((xs.map fun (k : Nat) => PyData.int (k : Int)).foldl (stepW ns a) w).length)
  | [], w, h1, h2 => ⟨h1, h2, by simp, by simp, by simp⟩
  | x :: xs, w, h1, h2 => by
    rw [List.map_cons, List.foldl_cons]
    by_cases h : wordV ns (a + 5 + 5 * (x : Int)) ∈ w
    · have e : stepW ns a w (.int (x : Int)) = w := by simp [stepW, h]
      rw [e]
      obtain ⟨a1, a2, a3, a4, a5⟩ := stepW_good ha xs w h1 h2
      have := List.length_pos_of_mem h
      exact ⟨a1, a2, by rw [List.length_cons]; omega, a4, fun _ => by omega⟩
    · have e : stepW ns a w (.int (x : Int)) = w ++ [wordV ns (a + 5 + 5 * (x : Int))] := by simp [stepW, h]
      rw [e]
      obtain ⟨a1, a2, a3, a4, a5⟩ := stepW_good (ns := ns) ha xs (w ++ [wordV ns (a + 5 + 5 * (x : Int))]) (by
        rw [List.nodup_append]
        exact ⟨h1, by simp, fun s hs t ht => by simp at ht; subst ht; exact fun z => h (z ▸ hs)⟩) (fun s hs => by
        rcases List.mem_append.mp hs with hs | hs
        · exact h2 s hs
        · simp at hs; subst hs; exact wordV_ok (by omega))
      rw [List.length_append, List.length_singleton] at a3 a4
      exact ⟨a1, a2, by rw [List.length_cons]; omega, by omega, fun _ => by omega⟩
noncomputable def leafV (ns : List Int) (a : Int) : Kd :=
  if 0 < pickI ns a 3 then
    let low := if pickI ns (a + 3) 8 = 0 then (if pickI ns (a + 4) 3 = 0 then -20 else if pickI ns (a + 4) 3 = 1 then 17 else 20) else pickI ns (a + 1) 7 - 3
    .whole low (if low + pickI ns (a + 2) 4 < 20 then low + pickI ns (a + 2) 4 else 20)
  else .pick ((wordsV ns a (1 + pickI ns (a + 1) 4).toNat).zipIdx.map fun p => (p.1, 1 + pickI ns (a + 30 + p.2) 20))
theorem leaf_good (ns : List Int) (a : Int) (ha : 0 ≤ a) : ok 1 (leafV ns a) := by
  unfold leafV
  split
  · have h1 := pick_bd ns (a + 1) 7 (by decide)
    have h2 := pick_bd ns (a + 2) 4 (by decide)
    show -20 ≤ _ ∧ _ ≤ _ ∧ _ ≤ (20 : Int)
    repeat' split
    all_goals omega
  · have h1 := pick_bd ns (a + 1) 4 (by decide)
    obtain ⟨m, hm⟩ := Int.eq_ofNat_of_zero_le (show 0 ≤ 1 + pickI ns (a + 1) 4 by omega)
    obtain ⟨a1, a2, a3, a4, a5⟩ := stepW_good (ns := ns) ha (List.range m) [] List.nodup_nil (by simp)
    show okCs _
    rw [hm]
    simp only [Int.toNat_natCast]
    unfold wordsV
    rw [List.length_range] at a3 a5
    simp at a3
    refine ⟨?_, ?_, fun c hc => ?_, ?_⟩
    · rw [List.length_map, List.length_zipIdx]; exact a5 (by omega)
    · rw [List.length_map, List.length_zipIdx]; omega
    · obtain ⟨p, hp, rfl⟩ := List.mem_map.mp hc
      have hp2 := List.fst_mem_of_mem_zipIdx hp
      have := pick_bd ns (a + 30 + p.2) 20 (by decide)
      exact ⟨a2 _ hp2, by dsimp only; omega, by dsimp only; omega⟩
    · rw [List.map_map]
      have : ((fun x => x.1) ∘ fun (p : Str × Nat) => (p.1, 1 + pickI ns (a + 30 + ↑p.2) 20)) = Prod.fst := rfl
      rw [this, List.zipIdx_map_fst]
      exact a1
theorem leaf_eq {n : Nat} (ns : List Int) (a : Int) (hn : 4 ≤ n) (ha : 0 ≤ a) : callF G n n_f_law_leaf_kind [scr ns, .int a] = pure (.d (enc (leafV ns a))) := by
  obtain ⟨n, rfl⟩ := Nat.exists_eq_add_of_le' (show 1 ≤ n by omega)
  rw [call_eq f_law_leaf_kind rfl]
  by_cases h : 0 < pickI ns a 3
  · by_cases h2 : pickI ns (a + 3) 8 = 0
    · have hb := pick_bd ns (a + 4) 3 (by decide)
      have hr : pickI ns (a + 4) 3 = 0 ∨ pickI ns (a + 4) 3 = 1 ∨ pickI ns (a + 4) 3 = 2 := by omega
      rcases hr with hr | hr | hr <;> simp (disch := omega) [f_law_leaf_kind, pick_ok, h, h2, hr, leafV]
    · simp (disch := omega) [f_law_leaf_kind, pick_ok, h, h2, leafV]
  · have hb := pick_bd ns (a + 1) 4 (by decide)
    obtain ⟨m, hm⟩ := Int.eq_ofNat_of_zero_le (show 0 ≤ 1 + pickI ns (a + 1) 4 by omega)
    simp (disch := omega) [f_law_leaf_kind, pick_ok, h, hm, leafV]
    rw [walk_r1 _ _ (by omega), pure_bind']
    have len : ∀ k, (wordsV ns a k).length ≤ k := fun k => by
      have := (stepW_good (ns := ns) ha (List.range k) [] List.nodup_nil (by simp)).2.2.1
      rw [List.length_range] at this
      simpa [wordsV] using this
    refine range_use (fun k σ => ∃ u v, σ = [some (scr ns), some (.int a), some (.own ((wordsV ns a k).map PyData.str)), u, none, v] ∧ (k = 0 ∨ ∃ s, v = some (.str s))) ⟨_, _, rfl, .inl rfl⟩ (fun k σ hk hP => ?_) (fun σ' hP => ?_)
    · obtain ⟨u, v, rfl, _⟩ := hP
      have e : wordsV ns a (k + 1) = stepW ns a (wordsV ns a k) (.int (k : Int)) := by
        unfold wordsV; rw [List.range_succ, List.map_append, List.foldl_append]; rfl
      have hl := B_line (Nat.le_trans (len k) (show k ≤ 16000000 by omega))
      have hl' : (wordsV ns a k).length < sizeLine := Nat.lt_of_le_of_lt (len k) (Nat.lt_of_lt_of_le (show k < 16000000 by omega) (by decide))
      rw [e]
      simp (disch := omega) [bodyK_eq, word_of_eq, mul_l, stepW]
      by_cases hw : wordV ns (a + 5 + 5 * (k : Int)) ∈ wordsV ns a k
      · simp [hw]
        exact ⟨_, rfl, _, _, rfl, _, rfl⟩
      · simp [hw, hl']
        exact ⟨_, rfl, _, _, rfl, _, rfl⟩
    · obtain ⟨u, v, rfl, hv⟩ := hP
      simp
      rw [enum_map, comp_mapM (fun p => .tuple [.str p.1, .int (1 + pickI ns (a + 30 + p.2) 20)])]
      · simp
        rfl
      · intro p hp
        simp (disch := omega) [turnF, pick_ok]
end GG

end

section
set_option Elab.async false
set_option linter.all false
set_option maxRecDepth 100000
set_option maxHeartbeats 400000
namespace GG
open PySem Wk
noncomputable def kindV (ns : List Int) : Nat → Int → Kd
  | 0, _ => .whole 0 0
  | d + 1, a => if d = 0 ∨ pickI ns a 5 < 2 then leafV ns (a + 1)
    else if pickI ns a 5 < 4 then .row ((List.range (1 + pickI ns (a + 1) 3).toNat).map fun (k : Nat) => kindV ns d (3 * a + 40 + 50 * k))
    else .many (kindV ns d (3 * a + 40)) (pickI ns (a + 1) 3) (if pickI ns (a + 1) 3 + pickI ns (a + 2) 3 < 3 then pickI ns (a + 1) 3 + pickI ns (a + 2) 3 else 3)
theorem kindV_ok (ns : List Int) : ∀ (d : Nat) (a : Int), 1 ≤ d → 0 ≤ a → ok d (kindV ns d a)
  | 0, _, h, _ => by omega
  | d + 1, a, h, ha => by
    rw [kindV]
    split
    · exact ok_up (leaf_good ns (a + 1) (by omega)) h
    · rename_i h1
      split
      · have := pick_bd ns (a + 1) 3 (by decide)
        refine ⟨by simp; omega, by simp; omega, fun k hk => ?_⟩
        obtain ⟨i, _, rfl⟩ := List.mem_map.mp hk
        exact kindV_ok ns d _ (by omega) (by omega)
      · have := pick_bd ns (a + 1) 3 (by decide)
        have := pick_bd ns (a + 2) 3 (by decide)
        refine ⟨by omega, ?_, ?_, kindV_ok ns d _ (by omega) (by omega)⟩ <;> split <;> omega
theorem kind_eq (ns : List Int) : ∀ (d n : Nat) (a : Int), 1 ≤ d → d + 4 ≤ n → 0 ≤ a → callF G n n_f_law_kind [scr ns, .int a, .int d] = pure (.d (enc (kindV ns d a)))
  | 0, _, _, h, _, _ => by omega
  | d + 1, n, a, h, hn, ha => by
    obtain ⟨n, rfl⟩ := Nat.exists_eq_add_of_le' (show 1 ≤ n by omega)
    rw [call_eq f_law_kind rfl, kindV]
    by_cases h1 : d = 0
    · subst h1
      simp (disch := omega) [f_law_kind, pick_ok, leaf_eq]
    · have hd : ¬ ((d : Int) + 1 = 1) := by omega
      by_cases h2 : pickI ns a 5 < 2
      · simp (disch := omega) [f_law_kind, pick_ok, leaf_eq, h2]
      · by_cases h3 : pickI ns a 5 < 4
        · have hb := pick_bd ns (a + 1) 3 (by decide)
          obtain ⟨m, hm⟩ := Int.eq_ofNat_of_zero_le (show 0 ≤ 1 + pickI ns (a + 1) 3 by omega)
          simp (disch := omega) [f_law_kind, pick_ok, mul_l, h1, hd, h2, h3, hm]
          rw [walk_r1 _ _ (by omega), pure_bind', comp_mapM (fun (k : Nat) => enc (kindV ns d (3 * a + 40 + 50 * k)))]
          · simp
            rfl
          · intro k hk
            have ih := kind_eq ns d n (3 * a + 40 + 50 * k) (by omega) (by omega) (by omega)
            simp (disch := omega) [turnF, mul_l, ih]
        · have ih := kind_eq ns d n (3 * a + 40) (by omega) (by omega) (by omega)
          simp (disch := omega) [f_law_kind, pick_ok, mul_l, h1, hd, h2, h3, ih]
/-! places -/
end GG

end

section
set_option Elab.async false
set_option linter.all false
set_option maxRecDepth 100000
set_option maxHeartbeats 400000
namespace GG
open PySem Wk
def place (l : List Nat) : PyData := .tuple (l.map fun (i : Nat) => .int (i : Int))
def placesV : Nat → PyData → List (List Nat)
  | 0, _ => [[]]
  | D + 1, .tuple xs => [] :: (xs.zipIdx 0).flatMap fun x => (placesV D x.1).map (x.2 :: ·)
  | _ + 1, _ => [[]]
def atV : PyData → List Nat → Option PyData
  | p, [] => some p
  | .tuple xs, i :: r => match xs[i]? with
    | some x => atV x r
    | none => none
  | _, _ :: _ => none
def putV : PyData → List Nat → PyData → PyData
  | _, [], new => new
  | .tuple xs, i :: r, new => match xs[i]? with
    | some x => .tuple (xs.take i ++ [putV x r new] ++ xs.drop (i + 1))
    | none => .none
  | _, _ :: _, _ => .none
theorem depth_mem : ∀ {xs : List PyData} {x : PyData}, x ∈ xs → x.depth ≤ PyData.depthAll xs
  | y :: ys, x, h => by
    rw [PyData.depthAll]
    rcases List.mem_cons.mp h with rfl | h
    · omega
    · have := depth_mem h; omega
theorem depth_tup (xs : List PyData) : (PyData.tuple xs).depth = 1 + PyData.depthAll xs := by simp [PyData.depth, Nat.add_comm]
theorem depth_lst (xs : List PyData) : (PyData.list xs).depth = 1 + PyData.depthAll xs := by simp [PyData.depth, Nat.add_comm]
theorem depthAll_le {c : Nat} : ∀ {xs : List PyData}, (∀ x ∈ xs, x.depth ≤ c) → PyData.depthAll xs ≤ c
  | [], _ => by simp [PyData.depthAll]
  | x :: xs, h => by
    have h1 := h x List.mem_cons_self
    have h2 := depthAll_le (xs := xs) fun y hy => h y (List.mem_cons_of_mem _ hy)
    rw [PyData.depthAll]; omega
theorem len_flat {α β : Type} (f : α → List β) (c : α → Nat) : ∀ xs : List α, (∀ x ∈ xs, (f x).length ≤ c x) → (xs.flatMap f).length ≤ (xs.map c).sum
  | [], _ => by simp
  | x :: xs, h => by
    have h1 := h x List.mem_cons_self
    have h2 := len_flat f c xs fun y hy => h y (List.mem_cons_of_mem _ hy)
    rw [List.flatMap_cons, List.length_append, List.map_cons, List.sum_cons]; omega
theorem szAll_sum : ∀ xs : List PyData, szAll xs = (xs.map sz).sum
  | [] => by simp
  | x :: xs => by rw [szAll_cons, szAll_sum xs, List.map_cons, List.sum_cons]
theorem places_len : ∀ (D : Nat) (p : PyData), 1 ≤ (placesV D p).length ∧ (placesV D p).length ≤ sz p
  | 0, p => ⟨by simp [placesV], by simp [placesV]; exact sz_pos p⟩
  | D + 1, p => by
    cases p with
    | tuple xs =>
      rw [placesV, List.length_cons, sz_tup]
      have h := len_flat (fun x : PyData × Nat => (placesV D x.1).map (x.2 :: ·)) (fun x => sz x.1) (xs.zipIdx 0) fun x _ => by
        rw [List.length_map]; exact (places_len D x.1).2
      have e : (xs.zipIdx 0).map (fun x => sz x.1) = xs.map sz := by
        rw [show (fun x : PyData × Nat => sz x.1) = sz ∘ Prod.fst from rfl, ← List.map_map, List.zipIdx_map_fst]
      rw [e, ← szAll_sum] at h
      omega
    | dict kv => rw [placesV, sz] <;> simp
    | _ => simp [placesV]
theorem places_at : ∀ (D : Nat) (p : PyData) (l : List Nat), l ∈ placesV D p → ∃ q, atV p l = some q
  | 0, p, l, h => by
    rw [placesV, List.mem_singleton] at h; subst h; exact ⟨p, by cases p <;> rfl⟩
  | D + 1, p, l, h => by
    cases p with
    | tuple xs =>
      rw [placesV] at h
      rcases List.mem_cons.mp h with rfl | h
      · exact ⟨_, rfl⟩
      · obtain ⟨x, hx, h⟩ := List.mem_flatMap.mp h
        obtain ⟨r, hr, rfl⟩ := List.mem_map.mp h
        obtain ⟨q, hq⟩ := places_at D x.1 r hr
        refine ⟨q, ?_⟩
        have := List.mem_zipIdx_iff_getElem?.mp hx
        rw [atV, this]; exact hq
    | _ => have h : l ∈ ([[]] : List (List Nat)) := h; rw [List.mem_singleton] at h; subst h; exact ⟨_, rfl⟩
theorem places_deep : ∀ (D : Nat) (p : PyData) (l : List Nat), l ∈ placesV D p → l.length ≤ D
  | 0, p, l, h => by
    rw [placesV, List.mem_singleton] at h; subst h; simp
  | D + 1, p, l, h => by
    cases p with
    | tuple xs =>
      rw [placesV] at h
      rcases List.mem_cons.mp h with rfl | h
      · simp
      · obtain ⟨x, hx, h⟩ := List.mem_flatMap.mp h
        obtain ⟨r, hr, rfl⟩ := List.mem_map.mp h
        have := places_deep D x.1 r hr
        simp; omega
    | _ => have h : l ∈ ([[]] : List (List Nat)) := h; rw [List.mem_singleton] at h; subst h; simp
theorem at_le : ∀ (l : List Nat) (p q : PyData), atV p l = some q → sz q ≤ sz p ∧ q.depth ≤ p.depth
  | [], p, q, h => by cases p <;> (cases h; exact ⟨Nat.le_refl _, Nat.le_refl _⟩)
  | i :: r, p, q, h => by
    cases p with
    | tuple xs =>
      rw [atV] at h
      cases e : xs[i]? with
      | none => rw [e] at h; cases h
      | some x =>
        rw [e] at h
        have hm := List.mem_of_getElem? e
        obtain ⟨h1, h2⟩ := at_le r x q h
        have := sz_mem hm
        have := depth_mem hm
        rw [sz_tup, depth_tup]; omega
    | _ => cases h
theorem put_le : ∀ (l : List Nat) (p q new : PyData), atV p l = some q → sz (putV p l new) ≤ sz p + sz new ∧ (putV p l new).depth ≤ p.depth + new.depth
  | [], p, q, new, h => by cases p <;> simp [putV]
  | i :: r, p, q, new, h => by
    cases p with
    | tuple xs =>
      rw [atV] at h
      cases e : xs[i]? with
      | none => rw [e] at h; cases h
      | some x =>
        rw [e] at h
        have hm := List.mem_of_getElem? e
        obtain ⟨h1, h2⟩ := put_le r x q new h
        have hx := depth_mem hm
        rw [putV, e]
        obtain ⟨hi, hxi⟩ := List.getElem?_eq_some_iff.mp e
        have hs : xs = xs.take i ++ [x] ++ xs.drop (i + 1) := by
          rw [List.append_assoc, List.singleton_append, ← hxi, ← List.drop_eq_getElem_cons hi, List.take_append_drop]
        have hz : szAll xs = szAll (xs.take i) + sz x + szAll (xs.drop (i + 1)) := by
          conv => lhs; rw [hs]
          simp [szAll_append]; omega
        refine ⟨?_, ?_⟩
        · rw [sz_tup, sz_tup, hz]
          simp [szAll_append]; omega
        · rw [depth_tup, depth_tup]
          have : PyData.depthAll (xs.take i ++ [putV x r new] ++ xs.drop (i + 1)) ≤ PyData.depthAll xs + new.depth := by
            refine depthAll_le fun y hy => ?_
            rcases List.mem_append.mp hy with hy | hy
            · rcases List.mem_append.mp hy with hy | hy
              · have := depth_mem (List.mem_of_mem_take hy); omega
              · rw [List.mem_singleton] at hy; subst hy; omega
            · have := depth_mem (List.mem_of_mem_drop hy); omega
          omega
    | _ => cases h
@[simp] theorem own_of (xs : List PyData) : ownOf (.own xs) = pure xs := id rfl
theorem place_nil : place [] = .tuple [] := rfl
theorem places_ok : ∀ (D n : Nat) (p : PyData), p.depth ≤ D → D ≤ 1000 → sz p ≤ 100000 → D + 1 ≤ n → callF G n n_f_law_places [.d p] = pure (.own ((placesV D p).map place))
  | D, n, p, hD, hK, hz, hn => by
    obtain ⟨n, rfl⟩ := Nat.exists_eq_add_of_le' (show 1 ≤ n by omega)
    rw [call_eq f_law_places rfl]
    cases p with
    | tuple xs =>
      rw [depth_tup] at hD
      rw [sz_tup] at hz
      obtain ⟨D, rfl⟩ := Nat.exists_eq_add_of_le' (show 1 ≤ D by omega)
      have hx := len_sz xs
      simp [f_law_places]
      rw [walk_r1 _ _ (by omega), pure_bind']
      refine range_use (fun k σ => ∃ u, σ = [some (.d (.tuple xs)), some (.own ((([] : List Nat) :: ((xs.take k).zipIdx 0).flatMap fun x => (placesV D x.1).map (x.2 :: ·)).map place)), u, none]) ⟨_, rfl⟩ (fun k σ hk hP => ?_) (fun σ' hP => ?_)
      · obtain ⟨u, rfl⟩ := hP
        have hm := List.getElem_mem hk
        have h1 := depth_mem hm
        have h2 := sz_mem hm
        have ih := places_ok D n xs[k] (by omega) (by omega) (by omega) (by omega)
        have hl := (places_len D xs[k]).2
        have hl2 : (((xs.take k).zipIdx 0).flatMap fun x => (placesV D x.1).map (x.2 :: ·)).length ≤ 100000 := by
          have h := len_flat (fun x : PyData × Nat => (placesV D x.1).map (x.2 :: ·)) (fun x => sz x.1) ((xs.take k).zipIdx 0) fun x _ => by
            rw [List.length_map]; exact (places_len D x.1).2
          have e : ((xs.take k).zipIdx 0).map (fun x => sz x.1) = (xs.take k).map sz := by
            rw [show (fun x : PyData × Nat => sz x.1) = sz ∘ Prod.fst from rfl, ← List.map_map, List.zipIdx_map_fst]
          rw [e, ← szAll_sum] at h
          have e2 := szAll_append (xs.take k) (xs.drop k)
          rw [List.take_append_drop] at e2
          omega
        have e4 : xs.take (k + 1) = xs.take k ++ [xs[k]] := by rw [List.take_succ, List.getElem?_eq_getElem hk]; rfl
        have e5 : min k xs.length = k := by omega
        simp [bodyK_eq, idx_tup, List.getElem?_eq_getElem hk, ih]
        rw [comp_mapM (fun l => place (k :: l))]
        · simp at hl2
          have hz1 : (List.map (fun a => (placesV D a.fst).length) (List.take k xs).zipIdx).sum + 1 + (placesV D xs[k]).length ≤ 16000000 := by omega
          have e6 : ((xs.take (k + 1)).zipIdx.flatMap fun x => (placesV D x.1).map (x.2 :: ·)) = ((xs.take k).zipIdx.flatMap fun x => (placesV D x.1).map (x.2 :: ·)) ++ (placesV D xs[k]).map (k :: ·) := by
            rw [e4, List.zipIdx_append, List.flatMap_append]; simp [e5]
          rw [pure_bind', List.length_map, okLen_B hz1]
          refine ⟨_, if_pos rfl, some (.d (.int (k : Int))), ?_⟩
          rw [e6, List.map_append, List.map_map]; rfl
        · intro l hl
          have := places_deep D xs[k] l hl
          simp [turnF, place]
          rw [add_tup _ _ (B_line (by simp; omega))]
          simp
      · obtain ⟨u, rfl⟩ := hP
        simp [placesV]
    | _ =>
      simp [f_law_places]
      cases D <;> rfl
theorem at_loop {F : Nat → List Rv → M Rv} : ∀ (l : List Nat) (p q : PyData) (P : Rv) (u : Option Rv), atV p l = some q →
    ∃ u', loopM (bodyK F (.one 2) (.cons (.asgO 0 (.idx (.bor 0) (.bor 2))) .nil)) (l.map fun (i : Nat) => .int (i : Int)) [some (.d p), some P, u] = pure (.nx, [some (.d q), some P, u'])
  | [], p, q, P, u, h => by
    have : p = q := by cases p <;> (cases h; rfl)
    subst this; exact ⟨u, rfl⟩
  | i :: r, p, q, P, u, h => by
    cases p with
    | tuple xs =>
      rw [atV] at h
      cases e : xs[i]? with
      | none => rw [e] at h; cases h
      | some x =>
        rw [e] at h
        obtain ⟨u', h'⟩ := at_loop r x q P (some (.d (.int (i : Int)))) h
        refine ⟨u', ?_⟩
        rw [List.map_cons, loop_cons', bodyK_eq]
        simp [idx_tup, e]
        exact h'
    | _ => cases h
theorem at_ok {n : Nat} {p q : PyData} {l : List Nat} (hn : 1 ≤ n) (h : atV p l = some q) : callF G n n_f_law_at [.d p, .d (place l)] = pure (.d q) := by
  obtain ⟨n, rfl⟩ := Nat.exists_eq_add_of_le' hn
  rw [call_eq f_law_at rfl]
  obtain ⟨u', e⟩ := at_loop (F := callF G n) l p q (.d (place l)) none h
  simp [f_law_at, place]
  unfold place at e
  rw [e]; simp
theorem put_ok {new : PyData} : ∀ (l : List Nat) (n : Nat) (p q : PyData), atV p l = some q → sz p ≤ 100000 → l.length + 1 ≤ n → callF G n n_f_law_put [.d p, .d (place l), .d new] = pure (.d (putV p l new))
  | [], n, p, q, h, _, hn => by
    obtain ⟨n, rfl⟩ := Nat.exists_eq_add_of_le' (show 1 ≤ n by simpa using hn)
    rw [call_eq f_law_put rfl]
    simp [f_law_put, place]
    cases p <;> rfl
  | i :: r, n, p, q, h, hz, hn => by
    obtain ⟨n, rfl⟩ := Nat.exists_eq_add_of_le' (show 1 ≤ n by omega)
    rw [call_eq f_law_put rfl]
    cases p with
    | tuple xs =>
      rw [atV] at h
      cases e : xs[i]? with
      | none => rw [e] at h; cases h
      | some x =>
        rw [e] at h
        rw [sz_tup] at hz
        have hm := List.mem_of_getElem? e
        have := sz_mem hm
        have hx := len_sz xs
        have ih := put_ok (new := new) r n x q h (by omega) (by simp at hn; omega)
        unfold place at ih
        obtain ⟨hi, _⟩ := List.getElem?_eq_some_iff.mp e
        simp [f_law_put, place, idx_tup, e, ih, cut_take]
        rw [show (i : Int) + 1 = ((i + 1 : Nat) : Int) by omega, cut_drop, add_tup _ _ (B_line (by simp; omega)), pure_bind', add_tup _ _ (B_line (by simp; omega))]
        simp [putV, e]
    | _ => cases h
end GG

end

section
set_option Elab.async false
set_option linter.all false
set_option maxRecDepth 100000
set_option maxHeartbeats 1000000
namespace GG
open PySem Wk
theorem cut_drop1 {α : Type} (xs : List α) (k : Nat) : cutL xs (some ((k : Int) + 1)) none = xs.drop (k + 1) := cut_drop xs (k + 1)
theorem cut_mid1 {α : Type} (xs : List α) (k : Nat) : cutL xs (some (k : Int)) (some ((k : Int) + 1)) = (xs.take (k + 1)).drop k := cut_mid xs k (k + 1)
def someV (here : PyData) : List PyData := [.int 0, .int 1, .int (-21), .int 21, .int 3, .int 4, .bool true, .none, .str "a", .str "abcd", .str "A", .str "", .str "many", .str "row", .tuple [], .tuple [here], .list [here], .tuple [.str "whole", .int 1, .int 0]]
theorem someV_le (here : PyData) : ∀ x ∈ someV here, sz x ≤ sz here + 20 ∧ x.depth ≤ here.depth + 2 := by
  have h : (someV here).all (fun _ => true) = true := by simp
  intro x hx
  simp only [someV, List.mem_cons, List.not_mem_nil, or_false] at hx
  have l1 : (Str.ofString "a").length = 1 := by decide +kernel
  have l2 : (Str.ofString "abcd").length = 4 := by decide +kernel
  have l3 : (Str.ofString "A").length = 1 := by decide +kernel
  have l4 : (Str.ofString "").length = 0 := by decide +kernel
  rcases hx with rfl | rfl | rfl | rfl | rfl | rfl | rfl | rfl | rfl | rfl | rfl | rfl | rfl | rfl | rfl | rfl | rfl | rfl <;> simp [PyData.depth, PyData.depthAll, l1, l2, l3, l4, len_many, len_row, len_whole] <;> omega
theorem mkL_some (here : PyData) : mkL [.int 0, .int 1, .int (-21), .int 21, .int 3, .int 4, .bool true, .none, .str (Str.ofString "a"), .str (Str.ofString "abcd"), .str (Str.ofString "A"), .str (Str.ofString ""), .str (Str.ofString "many"), .str (Str.ofString "row"), .tuple [], .tuple [here], .list [here], .tuple [.str (Str.ofString "whole"), .int 1, .int 0]] = pure (.own (someV here)) := mkL_ok (xs := someV here) (show 18 ≤ sizeLine by decide)
@[simp] theorem someV_len (here : PyData) : (someV here).length = 18 := rfl
/-- what stands at the drawn place -/
noncomputable def spotV (ns : List Int) (a : Int) (p : PyData) : List Nat := (placesV p.depth p).getD (pickI ns a (placesV p.depth p).length).toNat []
noncomputable def hereV (ns : List Int) (a : Int) (p : PyData) : PyData := (atV p (spotV ns a p)).getD .none
noncomputable def newV (ns : List Int) (a : Int) (here : PyData) : PyData :=
  if pickI ns (a + 1) 23 < 18 then (someV here).getD (pickI ns (a + 1) 23).toNat .none else match here with
    | .tuple (x :: xs) => let k := (pickI ns (a + 2) (x :: xs).length).toNat
      if pickI ns (a + 1) 23 % 2 = 0 then .tuple ((x :: xs).take k ++ (x :: xs).drop (k + 1)) else .tuple ((x :: xs).take k ++ ((x :: xs).take (k + 1)).drop k ++ (x :: xs).drop k)
    | .int i => .int (i + 1 - 2 * (pickI ns (a + 1) 23 % 2))
    | .bool b => .int ((if b = true then 1 else 0) + 1 - 2 * (pickI ns (a + 1) 23 % 2))
    | h => .tuple [.str "row", .tuple [h, h]]
noncomputable def spoiltV (ns : List Int) (a : Int) (p : PyData) : PyData := putV p (spotV ns a p) (newV ns a (hereV ns a p))
theorem spot_at (ns : List Int) (a : Int) (p : PyData) : spotV ns a p ∈ placesV p.depth p ∧ (placesV p.depth p)[(pickI ns a (placesV p.depth p).length).toNat]? = some (spotV ns a p) := by
  have h := (places_len p.depth p).1
  have hb := pick_bd ns a (placesV p.depth p).length (by omega)
  have hlt : (pickI ns a (placesV p.depth p).length).toNat < (placesV p.depth p).length := by omega
  unfold spotV
  rw [List.getD_eq_getElem?_getD, List.getElem?_eq_getElem hlt]
  exact ⟨List.getElem_mem hlt, rfl⟩
theorem here_at (ns : List Int) (a : Int) (p : PyData) : atV p (spotV ns a p) = some (hereV ns a p) := by
  obtain ⟨q, hq⟩ := places_at _ _ _ (spot_at ns a p).1
  unfold hereV; rw [hq]; rfl
theorem new_le (ns : List Int) (a : Int) (here : PyData) : sz (newV ns a here) ≤ 2 * sz here + 20 ∧ (newV ns a here).depth ≤ here.depth + 2 := by
  unfold newV
  have hb := pick_bd ns (a + 1) 23 (by decide)
  split
  · have hlt : (pickI ns (a + 1) 23).toNat < (someV here).length := by show _ < 18; omega
    rw [List.getD_eq_getElem?_getD, List.getElem?_eq_getElem hlt]
    have := someV_le here _ (List.getElem_mem hlt)
    simp only [Option.getD_some]
    omega
  · split
    · rename_i x xs
      have key : ∀ ys : List PyData, (∀ y ∈ ys, y ∈ x :: xs) → szAll ys ≤ 2 * szAll (x :: xs) → sz (.tuple ys) ≤ 2 * sz (.tuple (x :: xs)) + 20 ∧ (PyData.tuple ys).depth ≤ (PyData.tuple (x :: xs)).depth + 2 := fun ys h1 h2 => by
        rw [sz_tup, sz_tup, depth_tup, depth_tup]
        have : PyData.depthAll ys ≤ PyData.depthAll (x :: xs) := depthAll_le fun y hy => depth_mem (h1 y hy)
        omega
      have cut : ∀ k, szAll ((x :: xs).take k) + szAll ((x :: xs).drop k) = szAll (x :: xs) := fun k => by
        rw [← szAll_append, List.take_append_drop]
      have mono : ∀ (k : Nat) (l : List PyData), szAll (l.drop k) ≤ szAll l ∧ szAll (l.take k) ≤ szAll l := fun k l => by
        have : szAll (l.take k) + szAll (l.drop k) = szAll l := by rw [← szAll_append, List.take_append_drop]
        omega
      dsimp only
      split
      · refine key _ (fun y hy => ?_) ?_
        · rcases List.mem_append.mp hy with hy | hy
          · exact List.mem_of_mem_take hy
          · exact List.mem_of_mem_drop hy
        · rw [szAll_append]
          have := (mono (pickI ns (a + 2) ↑(x :: xs).length).toNat (x :: xs)).2
          have := (mono ((pickI ns (a + 2) ↑(x :: xs).length).toNat + 1) (x :: xs)).1
          omega
      · refine key _ (fun y hy => ?_) ?_
        · rcases List.mem_append.mp hy with hy | hy
          · rcases List.mem_append.mp hy with hy | hy
            · exact List.mem_of_mem_take hy
            · exact List.mem_of_mem_take (List.mem_of_mem_drop hy)
          · exact List.mem_of_mem_drop hy
        · rw [szAll_append, szAll_append]
          have := cut (pickI ns (a + 2) ↑(x :: xs).length).toNat
          have h1 := (mono (pickI ns (a + 2) ↑(x :: xs).length).toNat ((x :: xs).take ((pickI ns (a + 2) ↑(x :: xs).length).toNat + 1))).1
          have h2 := (mono ((pickI ns (a + 2) ↑(x :: xs).length).toNat + 1) (x :: xs)).2
          omega
    · simp [PyData.depth]
    · simp [PyData.depth]
    · simp [PyData.depth, PyData.depthAll, len_row]; omega
theorem spoilt_ok {n : Nat} (ns : List Int) (a : Int) (p : PyData) (ha : 0 ≤ a) (hz : sz p ≤ 100000) (hD : p.depth ≤ 1000) (hn : p.depth + 3 ≤ n) : callF G n n_f_law_spoilt_thing [scr ns, .int a, .d p] = pure (.d (spoiltV ns a p)) := by
  obtain ⟨n, rfl⟩ := Nat.exists_eq_add_of_le' (show 1 ≤ n by omega)
  rw [call_eq f_law_spoilt_thing rfl]
  have e1 := places_ok p.depth n p (Nat.le_refl _) hD hz (by omega)
  have hl := (places_len p.depth p).1
  have hs := spot_at ns a p
  have hb := pick_bd ns a (placesV p.depth p).length (by omega)
  have hh := here_at ns a p
  have e2 := at_ok (n := n) (by omega) hh
  have hd := places_deep _ _ _ hs.1
  have e3 := fun new => put_ok (new := new) _ n p _ hh hz (by omega)
  have hhl := at_le _ _ _ hh
  have e4 : idxOp (.own ((placesV p.depth p).map place)) (.int (pickI ns a (placesV p.depth p).length)) = pure (.d (place (spotV ns a p))) := by
    rw [show pickI ns a (placesV p.depth p).length = (((pickI ns a (placesV p.depth p).length).toNat : Nat) : Int) by omega, idx_own', List.getElem?_map, hs.2]; rfl
  have hb1 := pick_bd ns (a + 1) 23 (by decide)
  unfold spoiltV
  by_cases h1 : pickI ns (a + 1) 23 < 18
  · have e5 : idxOp (.own (someV (hereV ns a p))) (.int (pickI ns (a + 1) 23)) = pure (.d (newV ns a (hereV ns a p))) := by
      have hlt : (pickI ns (a + 1) 23).toNat < (someV (hereV ns a p)).length := by show _ < 18; omega
      rw [show pickI ns (a + 1) 23 = (((pickI ns (a + 1) 23).toNat : Nat) : Int) by omega, idx_own', List.getElem?_eq_getElem hlt]
      unfold newV
      rw [if_pos h1, List.getD_eq_getElem?_getD, List.getElem?_eq_getElem hlt]; rfl
    simp (disch := omega) [f_law_spoilt_thing, e1, pick_ok, e4, e2, mkL_some, h1, e5, e3]
  · have hnew : newV ns a (hereV ns a p) = match hereV ns a p with
      | .tuple (x :: xs) => let k := (pickI ns (a + 2) (x :: xs).length).toNat
        if pickI ns (a + 1) 23 % 2 = 0 then .tuple ((x :: xs).take k ++ (x :: xs).drop (k + 1)) else .tuple ((x :: xs).take k ++ ((x :: xs).take (k + 1)).drop k ++ (x :: xs).drop k)
      | .int i => .int (i + 1 - 2 * (pickI ns (a + 1) 23 % 2))
      | .bool b => .int ((if b = true then 1 else 0) + 1 - 2 * (pickI ns (a + 1) 23 % 2))
      | h => .tuple [.str "row", .tuple [h, h]] := by unfold newV; rw [if_neg h1]
    rw [hnew]
    generalize hereV ns a p = here at *
    have hm : (pickI ns (a + 1) 23).fmod 2 = pickI ns (a + 1) 23 % 2 := Int.fmod_eq_emod_of_nonneg _ (by decide)
    have e6 := mod_int (pickI ns (a + 1) 23) 2 (by decide)
    cases here with
    | tuple xs =>
      by_cases hx : xs = []
      · subst hx
        simp (disch := omega) [f_law_spoilt_thing, e1, pick_ok, e4, e2, mkL_some, h1, e3]
      · have hx1 : isNilT (.tuple xs) = false := by rw [nilT_eq]; simp [hx]
        have hx2 : 0 < xs.length := List.length_pos_iff.mpr hx
        have hx3 : (match PyData.tuple xs with
          | .tuple (x :: xs) => let k := (pickI ns (a + 2) (x :: xs).length).toNat
            if pickI ns (a + 1) 23 % 2 = 0 then .tuple ((x :: xs).take k ++ (x :: xs).drop (k + 1)) else .tuple ((x :: xs).take k ++ ((x :: xs).take (k + 1)).drop k ++ (x :: xs).drop k)
          | .int i => .int (i + 1 - 2 * (pickI ns (a + 1) 23 % 2))
          | .bool b => .int ((if b = true then 1 else 0) + 1 - 2 * (pickI ns (a + 1) 23 % 2))
          | h => .tuple [.str "row", .tuple [h, h]] : PyData) = if pickI ns (a + 1) 23 % 2 = 0 then .tuple (xs.take (pickI ns (a + 2) xs.length).toNat ++ xs.drop ((pickI ns (a + 2) xs.length).toNat + 1)) else .tuple (xs.take (pickI ns (a + 2) xs.length).toNat ++ (xs.take ((pickI ns (a + 2) xs.length).toNat + 1)).drop (pickI ns (a + 2) xs.length).toNat ++ xs.drop (pickI ns (a + 2) xs.length).toNat) := by
          cases xs with
          | nil => exact absurd rfl hx
          | cons x r => rfl
        rw [hx3]
        have hb2 := pick_bd ns (a + 2) xs.length (by omega)
        have hl2 := len_sz xs
        rw [sz_tup] at hhl
        obtain ⟨k, hk⟩ := Int.eq_ofNat_of_zero_le hb2.1
        have hk3 : k < xs.length := by omega
        have a1 := add_tup (xs.take k) (xs.drop (k + 1)) (B_line (by rw [List.length_take, List.length_drop]; omega))
        have a2 := add_tup (xs.take k) ((xs.take (k + 1)).drop k) (B_line (by rw [List.length_take, List.length_drop, List.length_take]; omega))
        have a3 := add_tup (xs.take k ++ (xs.take (k + 1)).drop k) (xs.drop k) (B_line (by rw [List.length_append, List.length_take, List.length_drop, List.length_take, List.length_drop]; omega))
        have hp : pickI ns (a + 1) 23 % 2 = 0 ∨ pickI ns (a + 1) 23 % 2 = 1 := by omega
        rcases hp with hp | hp <;> simp (disch := omega) [-List.append_assoc, f_law_spoilt_thing, e1, pick_ok, e4, e2, mkL_some, h1, e3, hx1, hk, cut_take, cut_drop, cut_drop1, cut_mid1, a1, a2, a3, e6, hm, hp]
    | int i => 
      simp (disch := omega) [f_law_spoilt_thing, e1, pick_ok, e4, e2, mkL_some, h1, e3, e6, hm, mul_l]
    | bool b => 
      simp (disch := omega) [f_law_spoilt_thing, e1, pick_ok, e4, e2, mkL_some, h1, e3, e6, hm, mul_l]
    | _ => 
      simp (disch := omega) [f_law_spoilt_thing, e1, pick_ok, e4, e2, mkL_some, h1, e3]
theorem depth_enc : ∀ {d : Nat} {k : Kd}, ok d k → (enc k).depth ≤ 2 * d + 2
  | 0, _, h => h.elim
  | d + 1, .whole lo hi, h => by simp [PyData.depth, PyData.depthAll]
  | d + 1, .pick cs, h => by
    have : PyData.depthAll (cs.map encC) ≤ 1 := depthAll_le fun x hx => by
      obtain ⟨c, hc, rfl⟩ := List.mem_map.mp hx
      simp [encC, PyData.depth, PyData.depthAll]
    simp [PyData.depth, PyData.depthAll]; omega
  | d + 1, .row ks, h => by
    have : PyData.depthAll (ks.map enc) ≤ 2 * d + 2 := depthAll_le fun x hx => by
      obtain ⟨c, hc, rfl⟩ := List.mem_map.mp hx
      exact depth_enc (h.2.2 c hc)
    simp [PyData.depth, PyData.depthAll]; omega
  | d + 1, .many k lo hi, h => by
    have := depth_enc h.2.2.2
    simp [PyData.depth, PyData.depthAll]; omega
theorem spoilt_le (ns : List Int) (a : Int) (p : PyData) : sz (spoiltV ns a p) ≤ 3 * sz p + 20 ∧ (spoiltV ns a p).depth ≤ 2 * p.depth + 2 := by
  have hh := here_at ns a p
  have h1 := at_le _ _ _ hh
  have h2 := new_le ns a (hereV ns a p)
  have h3 := put_le _ _ _ (newV ns a (hereV ns a p)) hh
  unfold spoiltV
  omega
end GG

end

section
set_option Elab.async false
set_option linter.all false
set_option maxRecDepth 100000
set_option maxHeartbeats 1000000
/-! All worths of a kind. -/
namespace GG
open PySem Wk
def prods {α : Type} : List (List α) → List (List α)
  | [] => [[]]
  | L :: Ls => L.flatMap fun x => (prods Ls).map (x :: ·)
mutual
def worths : Kd → List PyData
  | .whole lo hi => (List.range (hi + 1 - lo).toNat).map fun (k : Nat) => .int (lo + (k : Int))
  | .pick cs => cs.map fun c => .str c.1
  | .row ks => (prods (worthsL ks)).map .tuple
  | .many k lo hi => (List.range (hi + 1 - lo).toNat).flatMap fun (i : Nat) => (prods (List.replicate (lo.toNat + i) (worths k))).map .tuple
def worthsL : List Kd → List (List PyData)
  | [] => []
  | k :: ks => worths k :: worthsL ks
end
theorem worthsL_map : ∀ ks, worthsL ks = ks.map worths
  | [] => by rw [worthsL]; rfl
  | k :: ks => by rw [worthsL, worthsL_map ks, List.map_cons]
@[simp] theorem w_whole (lo hi : Int) : worths (.whole lo hi) = (List.range (hi + 1 - lo).toNat).map fun (k : Nat) => .int (lo + (k : Int)) := by rw [worths]
@[simp] theorem w_pick (cs : List (Str × Int)) : worths (.pick cs) = cs.map fun c => .str c.1 := by rw [worths]
@[simp] theorem w_row (ks : List Kd) : worths (.row ks) = (prods (ks.map worths)).map .tuple := by rw [worths, worthsL_map]
@[simp] theorem w_many (k : Kd) (lo hi : Int) : worths (.many k lo hi) = (List.range (hi + 1 - lo).toNat).flatMap fun (i : Nat) => (prods (List.replicate (lo.toNat + i) (worths k))).map .tuple := by rw [worths]
theorem sum_const {α : Type} (c : Nat) (l : List α) : (l.map fun _ => c).sum = l.length * c := by
  induction l with
  | nil => simp
  | cons a l ih => rw [List.map_cons, List.sum_cons, ih, List.length_cons, Nat.add_mul]; omega
def prodN : List Nat → Nat
  | [] => 1
  | n :: l => n * prodN l
theorem prods_len {α : Type} : ∀ Ls : List (List α), (prods Ls).length = prodN (Ls.map List.length)
  | [] => rfl
  | L :: Ls => by
    rw [prods, List.length_flatMap, List.map_cons, prodN, ← prods_len Ls]
    simp only [List.length_map]
    exact sum_const _ L
theorem mem_prods {α : Type} : ∀ (Ls : List (List α)) (xs : List α), xs ∈ prods Ls ↔ xs.length = Ls.length ∧ ∀ p ∈ xs.zip Ls, p.1 ∈ p.2
  | [], xs => by
    cases xs <;> simp [prods]
  | L :: Ls, [] => by simp [prods]
  | L :: Ls, x :: xs => by
    have ih := mem_prods Ls xs
    rw [prods, List.mem_flatMap]
    constructor
    · rintro ⟨y, hy, h⟩
      obtain ⟨r, hr, e⟩ := List.mem_map.mp h
      cases e
      obtain ⟨h1, h2⟩ := ih.mp hr
      refine ⟨by simp [h1], fun p hp => ?_⟩
      rw [List.zip_cons_cons] at hp
      rcases List.mem_cons.mp hp with rfl | hp
      · exact hy
      · exact h2 p hp
    · rintro ⟨h1, h2⟩
      rw [List.zip_cons_cons] at h2
      exact ⟨x, h2 (x, L) List.mem_cons_self, List.mem_map.mpr ⟨xs, ih.mpr ⟨by simpa using h1, fun p hp => h2 p (List.mem_cons_of_mem _ hp)⟩, rfl⟩⟩
/-- the law's way of making rows -/
theorem prods_fold {α : Type} : ∀ (Ls : List (List α)) (made : List (List α)), Ls.foldl (fun made L => made.flatMap fun a => L.map fun x => a ++ [x]) made = made.flatMap fun a => (prods Ls).map (a ++ ·)
  | [], made => by simp [prods]
  | L :: Ls, made => by
    rw [List.foldl_cons, prods_fold Ls, List.flatMap_assoc]
    congr 1
    funext a
    rw [prods, List.map_flatMap]
    rw [List.flatMap_map]
    congr 1
    funext x
    rw [List.map_map]
    congr 1
    funext r
    simp
theorem prods_fold' {α : Type} (Ls : List (List α)) : Ls.foldl (fun made L => made.flatMap fun a => L.map fun x => a ++ [x]) [[]] = prods Ls := by
  rw [prods_fold]; simp
/-! how many at most, on the way too -/
mutual
def cap : Kd → Nat
  | .whole lo hi => (hi + 1 - lo).toNat
  | .pick cs => cs.length
  | .row ks => capL ks
  | .many k lo hi => 1 + cap k + cap k * cap k + cap k * cap k * cap k
def capL : List Kd → Nat
  | [] => 1
  | k :: ks => cap k * capL ks
end
theorem capL_prod : ∀ ks, capL ks = prodN (ks.map cap)
  | [] => by rw [capL]; rfl
  | k :: ks => by rw [capL, capL_prod ks, List.map_cons, prodN]
@[simp] theorem c_whole (lo hi : Int) : cap (.whole lo hi) = (hi + 1 - lo).toNat := by rw [cap]
@[simp] theorem c_pick (cs : List (Str × Int)) : cap (.pick cs) = cs.length := by rw [cap]
@[simp] theorem c_row (ks : List Kd) : cap (.row ks) = prodN (ks.map cap) := by rw [cap, capL_prod]
@[simp] theorem c_many (k : Kd) (lo hi : Int) : cap (.many k lo hi) = 1 + cap k + cap k * cap k + cap k * cap k * cap k := by rw [cap]
theorem prodN_pos : ∀ {l : List Nat}, (∀ n ∈ l, 1 ≤ n) → 1 ≤ prodN l
  | [], _ => Nat.le_refl _
  | n :: l, h => Nat.mul_pos (h n List.mem_cons_self) (prodN_pos fun m hm => h m (List.mem_cons_of_mem _ hm))
theorem prodN_mem : ∀ {l : List Nat} {n : Nat}, (∀ n ∈ l, 1 ≤ n) → n ∈ l → n ≤ prodN l
  | m :: l, n, h, hn => by
    have h1 := h m List.mem_cons_self
    have h2 := prodN_pos fun m hm => h m (List.mem_cons_of_mem _ hm)
    rw [prodN]
    rcases List.mem_cons.mp hn with rfl | hn
    · exact Nat.le_mul_of_pos_right _ h2
    · exact Nat.le_trans (prodN_mem (fun m hm => h m (List.mem_cons_of_mem _ hm)) hn) (Nat.le_mul_of_pos_left _ h1)
theorem prodN_le : ∀ {l m : List Nat}, l.length = m.length → (∀ p ∈ l.zip m, p.1 ≤ p.2) → prodN l ≤ prodN m
  | [], [], _, _ => Nat.le_refl _
  | [], _ :: _, h, _ => by simp at h
  | _ :: _, [], h, _ => by simp at h
  | a :: l, b :: m, h, k => Nat.mul_le_mul (k (a, b) (by simp)) (prodN_le (by simpa using h) fun p hp => k p (by rw [List.zip_cons_cons]; exact List.mem_cons_of_mem _ hp))
theorem prodN_take : ∀ {l : List Nat} (i : Nat), (∀ n ∈ l, 1 ≤ n) → prodN (l.take i) ≤ prodN l
  | [], i, _ => by simp
  | a :: l, 0, h => prodN_pos h
  | a :: l, i + 1, h => Nat.mul_le_mul (Nat.le_refl _) (prodN_take i fun m hm => h m (List.mem_cons_of_mem _ hm))
theorem prodN_rep (c : Nat) : ∀ n, prodN (List.replicate n c) = c ^ n
  | 0 => rfl
  | n + 1 => by rw [List.replicate_succ, prodN, prodN_rep c n, Nat.pow_succ, Nat.mul_comm]
theorem worths_cap : ∀ {d : Nat} {k : Kd}, ok d k → 1 ≤ (worths k).length ∧ (worths k).length ≤ cap k
  | 0, _, h => h.elim
  | d + 1, .whole lo hi, h => by
    have h : -20 ≤ lo ∧ lo ≤ hi ∧ hi ≤ 20 := h
    simp; omega
  | d + 1, .pick cs, h => by
    have h : okCs cs := h
    have := h.1
    simp; exact this
  | d + 1, .row ks, h => by
    obtain ⟨h1, h2, h3⟩ := h
    have a1 : ∀ n ∈ (ks.map worths).map List.length, 1 ≤ n := fun n hn => by
      obtain ⟨L, hL, rfl⟩ := List.mem_map.mp hn
      obtain ⟨k, hk, rfl⟩ := List.mem_map.mp hL
      exact (worths_cap (h3 k hk)).1
    rw [w_row, c_row, List.length_map, prods_len]
    refine ⟨prodN_pos a1, prodN_le (by simp) fun p hp => ?_⟩
    rw [List.map_map, List.zip_map'] at hp
    obtain ⟨k, hk, rfl⟩ := List.mem_map.mp hp
    exact (worths_cap (h3 k hk)).2
  | d + 1, .many k lo hi, h => by
    obtain ⟨h1, h2, h3, h4⟩ := h
    obtain ⟨a1, a2⟩ := worths_cap h4
    obtain ⟨l, rfl⟩ := Int.eq_ofNat_of_zero_le h1
    obtain ⟨u, rfl⟩ := Int.eq_ofNat_of_zero_le (Int.le_trans h1 h2)
    rw [w_many, c_many]
    generalize (worths k) = L at *
    generalize cap k = c at *
    have e : ∀ i : Nat, ((prods (List.replicate i L)).map PyData.tuple).length = L.length ^ i := fun i => by
      rw [List.length_map, prods_len, List.map_replicate, prodN_rep]
    rw [List.length_flatMap]
    simp only [e, Int.toNat_natCast]
    have b2 : L.length * L.length ≤ c * c := Nat.mul_le_mul a2 a2
    have b3 : L.length * L.length * L.length ≤ c * c * c := Nat.mul_le_mul b2 a2
    have p0 : L.length ^ 0 = 1 := rfl
    have p1 : L.length ^ 1 = L.length := Nat.pow_one _
    have p2 : L.length ^ 2 = L.length * L.length := Nat.pow_two _
    have p3 : L.length ^ 3 = L.length * L.length * L.length := by rw [Nat.pow_succ, Nat.pow_two]
    have q2 := Nat.mul_pos a1 a1
    have q3 := Nat.mul_pos q2 a1
    have hl : l = 0 ∨ l = 1 ∨ l = 2 ∨ l = 3 := by omega
    have hu : u = 0 ∨ u = 1 ∨ u = 2 ∨ u = 3 := by omega
    rcases hl with rfl | rfl | rfl | rfl <;> rcases hu with rfl | rfl | rfl | rfl <;> first | omega | (simp [List.range_succ, p0, p1, p2, p3]; omega) | (simp [List.range_succ, p2, p3]; omega)
end GG

end

section
set_option Elab.async false
set_option linter.all false
set_option maxRecDepth 100000
set_option maxHeartbeats 1000000
namespace GG
open PySem Wk
def rowsP (m : List (List PyData)) : List PyData := m.map .tuple
def stepR (made : List (List PyData)) : PyData → List (List PyData)
  | .list L => made.flatMap fun a => L.map fun x => a ++ [x]
  | _ => made
theorem take_snoc {α : Type} (xs : List α) (i : Nat) (h : i < xs.length) : xs.take (i + 1) = xs.take i ++ [xs[i]] := by
  rw [List.take_succ, List.getElem?_eq_getElem h]; rfl
theorem flatMap_take {α β : Type} (f : α → List β) (xs : List α) (i : Nat) (h : i < xs.length) : (xs.take (i + 1)).flatMap f = (xs.take i).flatMap f ++ f xs[i] := by
  rw [take_snoc xs i h, List.flatMap_append]
  simp
theorem loop_pre {β : Type} {f : PyData → En → M (Fl × En)} (k : β → PyData) (P : Nat → En → Prop) (xs : List β) : ∀ (i : Nat) (σ : En), P i σ → (∀ i σ, (h : i < xs.length) → P i σ → ∃ σ', f (k xs[i]) σ = pure (.nx, σ') ∧ P (i + 1) σ') → i ≤ xs.length →
    ∃ σ', loopM f ((xs.drop i).map k) σ = pure (.nx, σ') ∧ P xs.length σ' := by
  intro i
  induction hn : xs.length - i generalizing i with
  | zero =>
    intro σ h hs hi
    have e : i = xs.length := by omega
    subst e
    exact ⟨σ, by rw [List.drop_length]; rfl, h⟩
  | succ n ih =>
    intro σ h hs hi
    have hlt : i < xs.length := by omega
    obtain ⟨σ1, e1, h1⟩ := hs i σ hlt h
    obtain ⟨σ2, e2, h2⟩ := ih (i + 1) (by omega) σ1 h1 hs (by omega)
    refine ⟨σ2, ?_, h2⟩
    rw [List.drop_eq_getElem_cons hlt, List.map_cons, loop_cons', e1, pure_bind']
    exact e2
/-- for x in xs, by the place -/
theorem list_use {α β : Type} {f : PyData → En → M (Fl × En)} {σ : En} {K : Fl × En → M α} {R : M α} (k : β → PyData) (xs : List β) (P : Nat → En → Prop) (h0 : P 0 σ)
    (hs : ∀ i σ, (h : i < xs.length) → P i σ → ∃ σ', f (k xs[i]) σ = pure (.nx, σ') ∧ P (i + 1) σ') (hk : ∀ σ', P xs.length σ' → K (.nx, σ') = R) : (loopM f (xs.map k) σ >>= K) = R := by
  obtain ⟨σ', e, h⟩ := loop_pre k P xs 0 σ h0 hs (Nat.zero_le _)
  rw [List.drop_zero] at e
  rw [e, pure_bind']
  exact hk σ' h
theorem list_use' {f : PyData → En → M (Fl × En)} {β : Type} {σ : En} (k : β → PyData) (xs : List β) (P : Nat → En → Prop) (h0 : P 0 σ)
    (hs : ∀ i σ, (h : i < xs.length) → P i σ → ∃ σ', f (k xs[i]) σ = pure (.nx, σ') ∧ P (i + 1) σ') : ∃ σ', loopM f (xs.map k) σ = pure (.nx, σ') ∧ P xs.length σ' := by
  obtain ⟨σ', e, h⟩ := loop_pre k P xs 0 σ h0 hs (Nat.zero_le _)
  rw [List.drop_zero] at e
  exact ⟨σ', e, h⟩
theorem prods_take_succ {α : Type} (Ls : List (List α)) (i : Nat) (h : i < Ls.length) : prods (Ls.take (i + 1)) = (prods (Ls.take i)).flatMap fun a => Ls[i].map fun x => a ++ [x] := by
  rw [← prods_fold', ← prods_fold', take_snoc Ls i h, List.foldl_append]
  rfl
theorem prods_row_len {α : Type} {Ls : List (List α)} {r : List α} (h : r ∈ prods Ls) : r.length = Ls.length := ((mem_prods Ls r).mp h).1
theorem rows_ok {n : Nat} (Ls : List (List PyData)) (hn : 1 ≤ n) (h1 : Ls.length ≤ 1000) (hb : ∀ i, i ≤ Ls.length → (prods (Ls.take i)).length ≤ 16000000) : callF G n n_f_law_rows_of [.d (.list (Ls.map .list))] = pure (.own ((prods Ls).map .tuple)) := by
  obtain ⟨n, rfl⟩ := Nat.exists_eq_add_of_le' hn
  rw [call_eq f_law_rows_of rfl]
  simp [f_law_rows_of]
  have z0 : [PyData.tuple []] = (prods (Ls.take 0)).map PyData.tuple := by simp [prods]
  rw [z0]
  refine list_use PyData.list Ls (fun i σ => ∃ u v w, σ = [some (.d (.list (Ls.map .list))), some (.own ((prods (Ls.take i)).map .tuple)), u, v, w, none]) ⟨_, _, _, rfl⟩ (fun i σ hi hP => ?_) (fun σ' hP => ?_)
  · obtain ⟨u, v, w, rfl⟩ := hP
    rw [bodyK_eq]
    simp
    have hb1 := hb (i + 1) (by omega)
    rw [prods_take_succ Ls i hi] at hb1 ⊢
    have hlen : ∀ r ∈ prods (Ls.take i), r.length ≤ 1000 := fun r hr => by
      have := prods_row_len hr
      rw [List.length_take] at this; omega
    generalize hM : prods (Ls.take i) = Mm at *
    obtain ⟨σ1, e1, w', hσ⟩ := list_use' (f := bodyK (callF G n) (.one 4) (Sms.cons (Sm.ext 3 (Tm.comp (Tm.bin Op2.add (Tm.bor 4) (Tm.tup (Tms.cons (Tm.var 5) Tms.nil))) (Tg.one 5) Ik.seq (Tm.bor 2) Tm.no [5] (Tm.lit (Lit.bl true)))) Sms.nil)) PyData.tuple Mm
      (fun j σ => ∃ w, σ = [some (.d (.list (Ls.map .list))), some (.d (.list (Mm.map .tuple))), some (.d (.list Ls[i])), some (.own (((Mm.take j).flatMap fun a => Ls[i].map fun x => a ++ [x]).map .tuple)), w, none]) (σ := [some (.d (.list (Ls.map .list))), some (.d (.list (Mm.map .tuple))), some (.d (.list Ls[i])), some (.own []), w, none]) ⟨_, rfl⟩ (fun j σ hj hP => by
        obtain ⟨w, rfl⟩ := hP
        rw [bodyK_eq]
        simp
        rw [comp_mapA (fun x => .tuple (Mm[j] ++ [x]))]
        · have hl : (((Mm.take j).flatMap fun a => Ls[i].map fun x => a ++ [x]).map PyData.tuple).length + (Ls[i].map fun x => PyData.tuple (Mm[j] ++ [x])).length ≤ 16000000 := by
            have e := flatMap_take (fun a => Ls[i].map fun x => a ++ [x]) Mm j hj
            have e2 : ((Mm.take (j + 1)).flatMap fun a => Ls[i].map fun x => a ++ [x]).length ≤ (Mm.flatMap fun a => Ls[i].map fun x => a ++ [x]).length := by
              conv => rhs; rw [← List.take_append_drop (j + 1) Mm, List.flatMap_append, List.length_append]
              omega
            rw [e, List.length_append] at e2
            simp only [List.length_map] at *
            omega
          simp only [pure_bind', own_of]
          simp at hl
          rw [List.length_map, if_pos (okLen_B hl)]
          refine ⟨_, rfl, some (.d (.tuple Mm[j])), ?_⟩
          rw [flatMap_take _ Mm j hj, List.map_append, List.map_map]
          rfl
        · intro x hx
          have := hlen Mm[j] (List.getElem_mem hj)
          simp [turnF]
          rw [add_tup _ _ (B_line (by simp; omega))]
          simp)
    rw [e1]
    subst hσ
    rw [List.take_length]
    simp
    exact ⟨_, rfl, _, _, _, rfl⟩
  · obtain ⟨u, v, w, rfl⟩ := hP
    rw [List.take_length]
    simp
theorem cap_take {ks : List Kd} {d : Nat} (h : ∀ k ∈ ks, ok d k) (i : Nat) : (prods ((ks.map worths).take i)).length ≤ cap (.row ks) := by
  have a1 : ∀ n ∈ ks.map cap, 1 ≤ n := fun n hn => by
    obtain ⟨k, hk, rfl⟩ := List.mem_map.mp hn
    have := worths_cap (h k hk); omega
  rw [c_row, prods_len]
  refine Nat.le_trans ?_ (prodN_take (l := ks.map cap) i a1)
  rw [← List.map_take, ← List.map_take, List.map_map]
  refine prodN_le (by simp) fun p hp => ?_
  rw [List.zip_map'] at hp
  obtain ⟨k, hk, rfl⟩ := List.mem_map.mp hp
  exact (worths_cap (h k (List.mem_of_mem_take hk))).2
theorem cap_sub {ks : List Kd} {d : Nat} (h : ∀ k ∈ ks, ok d k) {k : Kd} (hk : k ∈ ks) : cap k ≤ cap (.row ks) := by
  rw [c_row]
  refine prodN_mem (fun n hn => ?_) (List.mem_map.mpr ⟨k, hk, rfl⟩)
  obtain ⟨k', hk', rfl⟩ := List.mem_map.mp hn
  have := worths_cap (h k' hk'); omega
theorem law_all_ok : ∀ (d n : Nat) (k : Kd), ok d k → cap k ≤ 16000000 → d + 2 ≤ n → callF G n n_f_law_all [.d (enc k)] = pure (.own (worths k))
  | 0, _, _, h, _, _ => h.elim
  | d + 1, n, .whole lo hi, h, hc, hn => by
    obtain ⟨n, rfl⟩ := Nat.exists_eq_add_of_le' (show 1 ≤ n by omega)
    have h : -20 ≤ lo ∧ lo ≤ hi ∧ hi ≤ 20 := h
    rw [call_eq f_law_all rfl]
    have e : bi2 .range2 (.d (.int lo)) (.d (.int (hi + 1))) = pure (.own (worths (.whole lo hi))) := by
      show (if okRange lo (hi + 1) then (pure (.own (rangeL lo (hi + 1))) : M Rv) else bad) = _
      have hz : sizeLine = 16777216 := rfl
      rw [if_pos (by simp [okRange, okLen]; omega), w_whole]
      rfl
    simp [f_law_all]
    simpa using e
  | d + 1, n, .pick cs, h, hc, hn => by
    obtain ⟨n, rfl⟩ := Nat.exists_eq_add_of_le' (show 1 ≤ n by omega)
    rw [call_eq f_law_all rfl]
    simp [f_law_all]
    rw [comp_mapM (fun c => .str c.1)]
    · rfl
    · intro c hc
      simp [turnF, encC]
  | d + 1, n, .row ks, h, hc, hn => by
    obtain ⟨n, rfl⟩ := Nat.exists_eq_add_of_le' (show 1 ≤ n by omega)
    obtain ⟨h1, h2, h3⟩ := h
    rw [call_eq f_law_all rfl]
    simp [f_law_all]
    rw [comp_mapM (fun k => .list (worths k))]
    · have e : ks.map (fun k => PyData.list (worths k)) = (ks.map worths).map .list := by rw [List.map_map]; rfl
      simp
      rw [e, rows_ok (ks.map worths) (by omega) (by simp; omega) fun i hi => Nat.le_trans (cap_take h3 i) hc]
    · intro k hk
      have := cap_sub h3 hk
      have ih := law_all_ok d n k (h3 k hk) (by omega) (by omega)
      simp [turnF, ih]
  | d + 1, n, .many k lo hi, h, hc, hn => by
    obtain ⟨n, rfl⟩ := Nat.exists_eq_add_of_le' (show 1 ≤ n by omega)
    have hok := h
    obtain ⟨h1, h2, h3, h4⟩ := h
    have hcap := worths_cap hok
    have hcap2 := worths_cap h4
    rw [c_many] at hc
    have ih := law_all_ok d n k h4 (by omega) (by omega)
    obtain ⟨l, rfl⟩ := Int.eq_ofNat_of_zero_le h1
    obtain ⟨u, rfl⟩ := Int.eq_ofNat_of_zero_le (Int.le_trans h1 h2)
    rw [call_eq f_law_all rfl]
    simp [f_law_all]
    have hw : walk .range2 (.d (.int (l : Int))) (.d (.int ((u : Int) + 1))) = pure ((List.range (u + 1 - l)).map fun (i : Nat) => PyData.int ((l + i : Nat) : Int)) := by
      show (if okRange (l : Int) ((u : Int) + 1) then (pure (rangeL (l : Int) ((u : Int) + 1)) : M (List PyData)) else bad) = _
      have hz : sizeLine = 16777216 := rfl
      rw [if_pos (by simp [okRange, okLen]; omega)]
      have := rangeL_nat l (u + 1)
      rw [show ((u : Int) + 1) = ((u + 1 : Nat) : Int) by omega, this]
    rw [hw, pure_bind']
    refine list_use (fun (i : Nat) => PyData.int ((l + i : Nat) : Int)) (List.range (u + 1 - l)) (fun i σ => ∃ v, σ = [some (.d (enc (.many k l u))), some (.own ((List.range i).flatMap fun j => (prods (List.replicate (l + j) (worths k))).map .tuple)), v, none, none, none]) ⟨none, by simp⟩ (fun i σ hi hP => ?_) (fun σ' hP => ?_)
    · obtain ⟨v, rfl⟩ := hP
      rw [List.length_range] at hi
      rw [List.getElem_range]
      have hmul := mul_own [PyData.list (worths k)] (l + i) (Nat.le_trans (show 1 * (l + i) ≤ 4 by omega) (by decide)) (by omega)
      have hrep : List.flatten (List.replicate (l + i) [PyData.list (worths k)]) = (List.replicate (l + i) (worths k)).map .list := by
        rw [List.map_replicate]
        generalize l + i = m
        induction m with
        | zero => rfl
        | succ m ih => rw [List.replicate_succ, List.flatten_cons, ih, List.replicate_succ]; rfl
      rw [hrep] at hmul
      have pw : ∀ m, m ≤ 3 → (prods (List.replicate m (worths k))).length ≤ cap (.many k l u) := fun m hm => by
        rw [prods_len, List.map_replicate, prodN_rep, c_many]
        have b1 := hcap2.2
        have b2 : (worths k).length * (worths k).length ≤ cap k * cap k := Nat.mul_le_mul b1 b1
        have b3 : (worths k).length * (worths k).length * (worths k).length ≤ cap k * cap k * cap k := Nat.mul_le_mul b2 b1
        have hm : m = 0 ∨ m = 1 ∨ m = 2 ∨ m = 3 := by omega
        rcases hm with rfl | rfl | rfl | rfl
        · simp; omega
        · simp; omega
        · rw [Nat.pow_two]; omega
        · rw [Nat.pow_succ, Nat.pow_two]; omega
      rw [c_many] at pw
      have hrows := rows_ok (n := n) (List.replicate (l + i) (worths k)) (by omega) (by simp; omega) fun j hj => by
        rw [List.take_replicate]
        exact Nat.le_trans (pw _ (by omega)) hc
      have hlen : ((List.range i).flatMap fun j => (prods (List.replicate (l + j) (worths k))).map PyData.tuple).length + ((prods (List.replicate (l + i) (worths k))).map PyData.tuple).length ≤ 16000000 := by
        have e := flatMap_take (fun j => (prods (List.replicate (l + j) (worths k))).map PyData.tuple) (List.range (u + 1 - l)) i (by simpa using hi)
        rw [List.take_range, List.take_range, Nat.min_eq_left (by omega), Nat.min_eq_left (by omega), List.getElem_range] at e
        rw [← List.length_append, ← e]
        have e2 : ((List.range (i + 1)).flatMap fun j => (prods (List.replicate (l + j) (worths k))).map PyData.tuple).length ≤ (worths (.many k l u)).length := by
          rw [w_many]
          have e3 : (List.range ((u : Int) + 1 - (l : Int)).toNat) = List.range (i + 1) ++ (List.range ((u : Int) + 1 - (l : Int)).toNat).drop (i + 1) := by
            conv => lhs; rw [← List.take_append_drop (i + 1) (List.range ((u : Int) + 1 - (l : Int)).toNat), List.take_range, Nat.min_eq_left (by omega)]
          rw [e3, List.flatMap_append, List.length_append]
          simp only [Int.toNat_natCast]
          omega
        have := hcap.2
        rw [c_many] at this
        omega
      rw [bodyK_eq]
      simp [ih]
      simp at hmul hrows hlen
      rw [hmul]
      simp
      rw [hrows, pure_bind', own_of, pure_bind', List.length_map, if_pos (okLen_B hlen)]
      refine ⟨_, rfl, some (.d (.int ((l : Int) + (i : Int)))), ?_⟩
      have e5 : (List.range (i + 1)).flatMap (fun j => (prods (List.replicate (l + j) (worths k))).map PyData.tuple) = ((List.range i).flatMap fun j => (prods (List.replicate (l + j) (worths k))).map PyData.tuple) ++ (prods (List.replicate (l + i) (worths k))).map PyData.tuple := by
        rw [List.range_succ, List.flatMap_append]; simp
      rw [e5]
    · obtain ⟨v, rfl⟩ := hP
      rw [List.length_range]
      simp
end GG

end

section
set_option Elab.async false
set_option linter.all false
set_option maxRecDepth 100000
set_option maxHeartbeats 1000000
/-! What a kind has. -/
namespace GG
open PySem Wk
def zipAll (f : Kd → PyData → Bool) : List Kd → List PyData → Bool
  | k :: ks, x :: xs => f k x && zipAll f ks xs
  | _, _ => true
/-- whether a kind has a thing -/
def hasV : Nat → Kd → PyData → Bool
  | 0, _, _ => false
  | _ + 1, .whole lo hi, w => isWhole w lo hi
  | _ + 1, .pick cs, w => match w with
    | .str s => decide (s ∈ cs.map (·.1))
    | _ => false
  | d + 1, .row ks, w => match w with
    | .tuple xs => decide (xs.length = ks.length) && zipAll (hasV d) ks xs
    | _ => false
  | d + 1, .many k lo hi, w => match w with
    | .tuple xs => decide (lo ≤ (xs.length : Int)) && decide ((xs.length : Int) ≤ hi) && xs.all (hasV d k)
    | _ => false
theorem look_kind_t {n : Nat} (p : PyData) (h : sz p ≤ B) (hn : 7 ≤ n) (hk : isKind 3 p = true) : callF G n n_f_look_kind [.d p] = pure (.d .none) := by
  obtain ⟨n, rfl⟩ := Nat.exists_eq_add_of_le' (show 1 ≤ n by omega)
  rw [call_eq f_look_kind rfl]
  simp [f_look_kind, is_kind_ok n p h (by omega), hk]
theorem look_kind_f {n : Nat} (p : PyData) (h : sz p ≤ B) (hn : 7 ≤ n) (hk : isKind 3 p = false) : callF G n n_f_look_kind [.d p] = raise 1 := by
  obtain ⟨n, rfl⟩ := Nat.exists_eq_add_of_le' (show 1 ≤ n by omega)
  rw [call_eq f_look_kind rfl]
  simp [f_look_kind, is_kind_ok n p h (by omega), hk]
theorem zip_map' {α : Type} (k : α → PyData) : ∀ (ks : List α) (xs : List PyData), zipL (ks.map k) xs = (ks.zip xs).map fun p => .tuple [k p.1, p.2]
  | [], xs => by cases xs <;> rfl
  | a :: ks, [] => rfl
  | a :: ks, x :: xs => by
    rw [List.map_cons, List.zip_cons_cons, List.map_cons, ← zip_map' k ks xs]; rfl
theorem zipAll_eq (f : Kd → PyData → Bool) : ∀ (ks : List Kd) (xs : List PyData), zipAll f ks xs = (ks.zip xs).all fun p => f p.1 p.2
  | [], xs => by cases xs <;> rfl
  | a :: ks, [] => rfl
  | a :: ks, x :: xs => by rw [zipAll, List.zip_cons_cons, List.all_cons, zipAll_eq f ks xs]
@[simp] theorem walk_zip_tt (xs ys : List PyData) : walk .zip (.d (.tuple xs)) (.d (.tuple ys)) = pure (zipL xs ys) := id rfl
@[simp] theorem walk_zip_lt (xs ys : List PyData) : walk .zip (.d (.list xs)) (.d (.tuple ys)) = pure (zipL xs ys) := id rfl
@[simp] theorem walk_zip_ot (xs ys : List PyData) : walk .zip (.own xs) (.d (.tuple ys)) = pure (zipL xs ys) := id rfl
@[simp] theorem walk_zip_ll (xs ys : List PyData) : walk .zip (.d (.list xs)) (.d (.list ys)) = pure (zipL xs ys) := id rfl
@[simp] theorem walk_zip_oo (xs ys : List PyData) : walk .zip (.own xs) (.own ys) = pure (zipL xs ys) := id rfl
@[simp] theorem walk_zip_lo (xs ys : List PyData) : walk .zip (.d (.list xs)) (.own ys) = pure (zipL xs ys) := id rfl
@[simp] theorem walk_zip_ol (xs ys : List PyData) : walk .zip (.own xs) (.d (.list ys)) = pure (zipL xs ys) := id rfl
theorem has_ok : ∀ (d n : Nat) (k : Kd) (w : PyData), ok d k → d + 1 ≤ n → callF G n n_f_has [.d (enc k), .d w] = pure (.bl (hasV d k w))
  | 0, _, _, _, h, _ => h.elim
  | d + 1, n, .whole lo hi, w, h, hn => by
    obtain ⟨n, rfl⟩ := Nat.exists_eq_add_of_le' (show 1 ≤ n by omega)
    rw [call_eq f_has rfl]
    simp [f_has, is_whole_ok (show 1 ≤ n by omega), hasV]
  | d + 1, n, .pick cs, w, h, hn => by
    obtain ⟨n, rfl⟩ := Nat.exists_eq_add_of_le' (show 1 ≤ n by omega)
    rw [call_eq f_has rfl]
    cases w with
    | str s =>
      simp [f_has, hasV]
      rw [comp_mapM (fun c => .str c.1)]
      · have : (cs.map fun c => PyData.str c.1) = (cs.map (·.1)).map .str := by rw [List.map_map]; rfl
        simp only [pure_bind', inR_o, inP_str, this, any_str]
      · intro c hc
        simp [turnF, encC]
    | _ => simp [f_has, hasV]
  | d + 1, n, .row ks, w, h, hn => by
    obtain ⟨n, rfl⟩ := Nat.exists_eq_add_of_le' (show 1 ≤ n by omega)
    obtain ⟨h1, h2, h3⟩ := h
    rw [call_eq f_has rfl]
    cases w with
    | tuple xs =>
      simp [f_has, hasV]
      by_cases hl : xs.length = ks.length
      · simp [hl]
        rw [zip_map', comp_mapM (fun p => .bool (hasV d p.1 p.2))]
        · simp [zipAll_eq]
        · intro p hp
          have := has_ok d n p.1 p.2 (h3 p.1 (List.of_mem_zip hp).1) (by omega)
          simp [turnF, this]
      · have hl' : ¬ ((xs.length : Int) = (ks.length : Int)) := by omega
        simp [hl, hl']
    | _ => simp [f_has, hasV]
  | d + 1, n, .many k lo hi, w, h, hn => by
    obtain ⟨n, rfl⟩ := Nat.exists_eq_add_of_le' (show 1 ≤ n by omega)
    obtain ⟨h1, h2, h3, h4⟩ := h
    rw [call_eq f_has rfl]
    cases w with
    | tuple xs =>
      simp [f_has, hasV]
      by_cases z1 : lo ≤ (xs.length : Int) <;> by_cases z2 : (xs.length : Int) ≤ hi <;> simp [z1, z2]
      rw [comp_mapA (fun x => .bool (hasV d k x))]
      · simp
      · intro x hx
        have := has_ok d n k x h4 (by omega)
        simp [turnF, this]
    | _ => simp [f_has, hasV]
theorem zip_swap {α β : Type} {P : α → β → Prop} : ∀ (xs : List α) (ys : List β), (∀ p ∈ xs.zip ys, P p.1 p.2) ↔ ∀ p ∈ ys.zip xs, P p.2 p.1
  | [], ys => by simp
  | x :: xs, [] => by simp
  | x :: xs, y :: ys => by
    rw [List.zip_cons_cons, List.zip_cons_cons, List.forall_mem_cons, List.forall_mem_cons, zip_swap xs ys]
theorem zip_mapR {α β γ : Type} (f : β → γ) : ∀ (xs : List α) (ys : List β), xs.zip (ys.map f) = (xs.zip ys).map fun p => (p.1, f p.2)
  | [], ys => by simp
  | x :: xs, [] => by simp
  | x :: xs, y :: ys => by simp [zip_mapR f xs ys]
theorem zip_rep {α β : Type} (b : β) : ∀ (xs : List α), xs.zip (List.replicate xs.length b) = xs.map fun x => (x, b)
  | [] => rfl
  | x :: xs => by rw [List.length_cons, List.replicate_succ, List.zip_cons_cons, zip_rep b xs, List.map_cons]
/-- a kind has just its worths -/
theorem has_iff : ∀ {d : Nat} {k : Kd} {w : PyData}, ok d k → (hasV d k w = true ↔ w ∈ worths k)
  | 0, _, _, h => h.elim
  | d + 1, .whole lo hi, w, h => by
    have h : -20 ≤ lo ∧ lo ≤ hi ∧ hi ≤ 20 := h
    rw [w_whole, List.mem_map]
    cases w with
    | int i =>
      simp only [hasV, isWhole, Bool.and_eq_true, decide_eq_true_eq, List.mem_range, PyData.int.injEq]
      constructor
      · rintro ⟨a, b⟩
        exact ⟨(i - lo).toNat, by omega, by omega⟩
      · rintro ⟨a, b, c⟩
        omega
    | _ => simp [hasV, isWhole]
  | d + 1, .pick cs, w, h => by
    rw [w_pick, List.mem_map]
    cases w <;> simp [hasV]
  | d + 1, .row ks, w, h => by
    obtain ⟨h1, h2, h3⟩ := h
    rw [w_row, List.mem_map]
    cases w with
    | tuple xs =>
      simp only [hasV, Bool.and_eq_true, decide_eq_true_eq, zipAll_eq, List.all_eq_true, PyData.tuple.injEq, exists_eq_right, mem_prods, List.length_map]
      refine and_congr Iff.rfl ?_
      rw [zip_mapR, zip_swap (P := fun k x => hasV d k x = true)]
      simp only [List.forall_mem_map]
      refine forall_congr' fun p => forall_congr' fun hp => ?_
      exact has_iff (h3 p.2 (List.of_mem_zip hp).2)
    | _ => simp [hasV]
  | d + 1, .many k lo hi, w, h => by
    obtain ⟨h1, h2, h3, h4⟩ := h
    rw [w_many, List.mem_flatMap]
    cases w with
    | tuple xs =>
      simp only [hasV, Bool.and_eq_true, decide_eq_true_eq, List.all_eq_true, List.mem_range, List.mem_map, PyData.tuple.injEq, exists_eq_right, mem_prods, List.length_replicate]
      have hx : ∀ x, hasV d k x = true ↔ x ∈ worths k := fun x => has_iff h4
      simp only [hx]
      constructor
      · rintro ⟨⟨a, b⟩, c⟩
        refine ⟨xs.length - lo.toNat, by omega, by omega, fun p hp => ?_⟩
        rw [show lo.toNat + (xs.length - lo.toNat) = xs.length by omega, zip_rep] at hp
        obtain ⟨x, hx, rfl⟩ := List.mem_map.mp hp
        exact c x hx
      · rintro ⟨i, hi1, hi2, hp⟩
        refine ⟨⟨by omega, by omega⟩, fun x hx => ?_⟩
        rw [← hi2, zip_rep] at hp
        exact hp (x, worths k) (List.mem_map.mpr ⟨x, hx, rfl⟩)
    | _ => simp [hasV]
end GG

end

section
set_option Elab.async false
set_option linter.all false
set_option maxRecDepth 100000
set_option maxHeartbeats 1000000
/-! How many; small kinds. -/
namespace GG
open PySem Wk
theorem intP {a : Prop} [Decidable a] : bi1 .int (.d (.bool (decide a))) = pure (.int (if a then 1 else 0)) := by
  show (pure (Rv.int (if decide a = true then 1 else 0)) : M Rv) = _
  simp
@[simp] theorem int_b (b : Bool) : bi1 .int (.d (.bool b)) = pure (.int (if b = true then 1 else 0)) := id rfl
@[simp] theorem int_i (b : Int) : bi1 .int (.d (.int b)) = pure (.int b) := id rfl
theorem list_eq {xs : List PyData} : isNilL (.list xs) = decide (xs = []) := by cases xs <;> simp
theorem law_size_ok : ∀ (d n : Nat) (k : Kd), ok d k → cap k ≤ 10000000 → d + 3 ≤ n → callF G n n_f_law_size [.d (enc k)] = pure (.int ((worths k).length : Nat))
  | 0, _, _, h, _, _ => h.elim
  | d + 1, n, .whole lo hi, h, hc, hn => by
    obtain ⟨n, rfl⟩ := Nat.exists_eq_add_of_le' (show 1 ≤ n by omega)
    have e := law_all_ok (d + 1) n (.whole lo hi) h (by omega) (by omega)
    rw [enc_whole] at e
    rw [call_eq f_law_size rfl]
    simp [f_law_size, e]
  | d + 1, n, .pick cs, h, hc, hn => by
    obtain ⟨n, rfl⟩ := Nat.exists_eq_add_of_le' (show 1 ≤ n by omega)
    have e := law_all_ok (d + 1) n (.pick cs) h (by omega) (by omega)
    rw [enc_pick] at e
    rw [call_eq f_law_size rfl]
    simp [f_law_size, e]
  | d + 1, n, .row ks, h, hc, hn => by
    obtain ⟨n, rfl⟩ := Nat.exists_eq_add_of_le' (show 1 ≤ n by omega)
    obtain ⟨h1, h2, h3⟩ := h
    rw [call_eq f_law_size rfl]
    simp [f_law_size]
    rw [comp_mapM (fun k => .int ((worths k).length : Nat))]
    · simp
      refine list_use (fun k => .int ((worths k).length : Nat)) ks (fun i σ => ∃ v, σ = [some (.d (enc (.row ks))), some (.d (.list (ks.map fun k => .int ((worths k).length : Nat)))), some (.int ((prods ((ks.take i).map worths)).length : Nat)), v, none, none]) ⟨none, by simp [prods]⟩ (fun i σ hi hP => ?_) (fun σ' hP => ?_)
      · obtain ⟨v, rfl⟩ := hP
        have hcap := worths_cap (h3 ks[i] (List.getElem_mem hi))
        have hsub := cap_sub h3 (List.getElem_mem hi)
        rw [bodyK_eq]
        simp (disch := omega) [mul_r]
        refine ⟨_, rfl, some (.int ((worths ks[i]).length : Nat)), ?_⟩
        have e : ((prods ((ks.take (i + 1)).map worths)).length : Int) = ((prods ((ks.take i).map worths)).length : Int) * ((worths ks[i]).length : Int) := by
          rw [take_snoc ks i hi, List.map_append, List.map_singleton, prods_len, prods_len, List.map_append]
          have pa : ∀ (l : List Nat) (m : Nat), prodN (l ++ [m]) = prodN l * m := fun l m => by
            induction l with
            | nil => simp [prodN]
            | cons a l ih => rw [List.cons_append, prodN, prodN, ih, Nat.mul_assoc]
          rw [List.map_singleton, pa]
          simp
        rw [List.map_take, List.map_take] at e
        rw [e]
      · obtain ⟨v, rfl⟩ := hP
        rw [List.take_length]
        simp
    · intro k hk
      have hsub := cap_sub h3 hk
      have ih := law_size_ok d n k (h3 k hk) (by omega) (by omega)
      simp [turnF, ih]
  | d + 1, n, .many k lo hi, h, hc, hn => by
    obtain ⟨n, rfl⟩ := Nat.exists_eq_add_of_le' (show 1 ≤ n by omega)
    obtain ⟨h1, h2, h3, h4⟩ := h
    rw [c_many] at hc
    have hcap := worths_cap h4
    have ih := law_size_ok d n k h4 (by omega) (by omega)
    rw [call_eq f_law_size rfl]
    have b2 : (worths k).length * (worths k).length ≤ cap k * cap k := Nat.mul_le_mul hcap.2 hcap.2
    simp [f_law_size, ih]
    generalize hL : worths k = L at *
    have hm : ((L.length : Int) * (L.length : Int)) = ((L.length * L.length : Nat) : Int) := by simp
    simp (disch := omega) [mul_r, mul_l]
    refine congrArg (fun i : Int => (pure (Rv.int i) : M Rv)) ?_
    obtain ⟨l, rfl⟩ := Int.eq_ofNat_of_zero_le h1
    obtain ⟨u, rfl⟩ := Int.eq_ofNat_of_zero_le (Int.le_trans h1 h2)
    have e : ∀ i : Nat, (prods (List.replicate i L)).length = L.length ^ i := fun i => by
      rw [prods_len, List.map_replicate, prodN_rep]
    have p0 : L.length ^ 0 = 1 := rfl
    have p1 : L.length ^ 1 = L.length := Nat.pow_one _
    have p2 : L.length ^ 2 = L.length * L.length := Nat.pow_two _
    have p3 : L.length ^ 3 = L.length * L.length * L.length := by rw [Nat.pow_succ, Nat.pow_two]
    have hl : l = 0 ∨ l = 1 ∨ l = 2 ∨ l = 3 := by omega
    have hu : u = 0 ∨ u = 1 ∨ u = 2 ∨ u = 3 := by omega
    rcases hl with rfl | rfl | rfl | rfl <;> rcases hu with rfl | rfl | rfl | rfl <;> first | omega | (simp [List.range_succ, e, p0, p1, p2, p3]) | skip
    all_goals omega
/-- kinds whose leaves have few worths -/
def tiny : Nat → Kd → Prop
  | 0, _ => False
  | _ + 1, .whole lo hi => hi + 1 - lo ≤ 4
  | _ + 1, .pick _ => True
  | d + 1, .row ks => ∀ k ∈ ks, tiny d k
  | d + 1, .many k _ _ => tiny d k
def top : Nat → Nat
  | 0 => 0
  | 1 => 4
  | d + 2 => 1 + top (d + 1) + top (d + 1) * top (d + 1) + top (d + 1) * top (d + 1) * top (d + 1)
theorem top_ge : ∀ d, 4 ≤ top (d + 1)
  | 0 => Nat.le_refl _
  | d + 1 => by
    have := top_ge d
    rw [top]; omega
theorem prodN_const {c : Nat} (h1 : 1 ≤ c) : ∀ {l : List Nat}, l.length ≤ 3 → (∀ n ∈ l, n ≤ c) → prodN l ≤ c * c * c
  | [], _, _ => Nat.mul_pos (Nat.mul_pos h1 h1) h1
  | [a], _, h => by
    have ha := h a (by simp)
    simp only [prodN, Nat.mul_one]
    exact Nat.le_trans ha (Nat.le_trans (Nat.le_mul_of_pos_right c h1) (Nat.le_mul_of_pos_right _ h1))
  | [a, b], _, h => by
    have ha := h a (by simp)
    have hb := h b (by simp)
    simp only [prodN, Nat.mul_one]
    exact Nat.le_trans (Nat.mul_le_mul ha hb) (Nat.le_mul_of_pos_right _ h1)
  | [a, b, e], _, h => by
    have ha := h a (by simp)
    have hb := h b (by simp)
    have he := h e (by simp)
    simp only [prodN, Nat.mul_one]
    rw [← Nat.mul_assoc]
    exact Nat.mul_le_mul (Nat.mul_le_mul ha hb) he
  | _ :: _ :: _ :: _ :: _, h, _ => by simp at h
theorem cap_top : ∀ {d : Nat} {k : Kd}, ok d k → tiny d k → cap k ≤ top d
  | 0, _, h, _ => h.elim
  | d + 1, .whole lo hi, h, t => by
    have t : hi + 1 - lo ≤ 4 := t
    have := top_ge d
    rw [c_whole]; omega
  | d + 1, .pick cs, h, t => by
    have h : okCs cs := h
    have := top_ge d
    have := h.2.1
    rw [c_pick]; omega
  | d + 1, .row ks, h, t => by
    obtain ⟨h1, h2, h3⟩ := h
    cases d with
    | zero =>
      match ks, h1 with
      | k :: ks, _ => exact (h3 k List.mem_cons_self).elim
    | succ d =>
      have hg := top_ge d
      rw [c_row, top]
      have := prodN_const (c := top (d + 1)) (by omega) (l := ks.map cap) (by simpa using h2) fun n hn => by
        obtain ⟨k, hk, rfl⟩ := List.mem_map.mp hn
        exact cap_top (h3 k hk) (t k hk)
      omega
  | d + 1, .many k lo hi, h, t => by
    obtain ⟨h1, h2, h3, h4⟩ := h
    cases d with
    | zero => exact h4.elim
    | succ d =>
      have ih := cap_top h4 t
      rw [c_many, top]
      have b2 : cap k * cap k ≤ top (d + 1) * top (d + 1) := Nat.mul_le_mul ih ih
      have b3 : cap k * cap k * cap k ≤ top (d + 1) * top (d + 1) * top (d + 1) := Nat.mul_le_mul b2 ih
      omega
theorem leaf_tiny (ns : List Int) (a : Int) (d : Nat) : tiny (d + 1) (leafV ns a) := by
  unfold leafV
  split
  · have h1 := pick_bd ns (a + 1) 7 (by decide)
    have h2 := pick_bd ns (a + 2) 4 (by decide)
    show _ ≤ (4 : Int)
    repeat' split
    all_goals omega
  · trivial
theorem kindV_tiny (ns : List Int) : ∀ (d : Nat) (a : Int), 1 ≤ d → tiny d (kindV ns d a)
  | 0, _, h => by omega
  | d + 1, a, h => by
    rw [kindV]
    split
    · exact leaf_tiny ns _ d
    · rename_i h1
      split
      · intro k hk
        obtain ⟨i, _, rfl⟩ := List.mem_map.mp hk
        exact kindV_tiny ns d _ (by omega)
      · exact kindV_tiny ns d _ (by omega)
/-- a drawn kind -/
structure Dr (k : Kd) : Prop where
  ok : ok 3 k
  cap : cap k ≤ 621436
theorem dr_kind (ns : List Int) (d : Nat) (a : Int) (h : 1 ≤ d) (h3 : d ≤ 3) (ha : 0 ≤ a) : Dr (kindV ns d a) := by
  refine ⟨ok_up (kindV_ok ns d a h ha) h3, Nat.le_trans (cap_top (kindV_ok ns d a h ha) (kindV_tiny ns d a h)) ?_⟩
  have : d = 1 ∨ d = 2 ∨ d = 3 := by omega
  rcases this with rfl | rfl | rfl <;> decide +kernel
noncomputable def smallL (ns : List Int) (a : Int) (most : Nat) : Nat → Kd → Kd
  | 0, k => if (worths k).length ≤ most then k else .whole (-1) 2
  | i + 1, k => if (worths k).length ≤ most then k else smallL ns a most i (kindV ns 2 (a + 500 + 700 * ((2 - i : Nat) : Int)))
noncomputable def smallV (ns : List Int) (a : Int) (most : Nat) : Kd := smallL ns a most 3 (kindV ns 3 a)
theorem smallL_ok (ns : List Int) (a : Int) (most : Nat) (ha : 0 ≤ a) (hm : 4 ≤ most) : ∀ (i : Nat) (k : Kd), Dr k → Dr (smallL ns a most i k) ∧ (worths (smallL ns a most i k)).length ≤ most
  | 0, k, h => by
    rw [smallL]
    split
    · exact ⟨h, by assumption⟩
    · exact ⟨⟨by show -20 ≤ (-1 : Int) ∧ (-1 : Int) ≤ 2 ∧ (2 : Int) ≤ 20; decide, by rw [c_whole]; decide⟩, by rw [w_whole, List.length_map, List.length_range]; exact hm⟩
  | i + 1, k, h => by
    rw [smallL]
    split
    · exact ⟨h, by assumption⟩
    · exact smallL_ok ns a most ha hm i _ (dr_kind ns 2 _ (by decide) (by decide) (by omega))
theorem small_ok (ns : List Int) (a : Int) (most : Nat) (ha : 0 ≤ a) (hm : 4 ≤ most) : Dr (smallV ns a most) ∧ (worths (smallV ns a most)).length ≤ most := smallL_ok ns a most ha hm 3 _ (dr_kind ns 3 a (by decide) (by decide) ha)
theorem small_v {n : Nat} (ns : List Int) (a : Int) (most : Nat) (ha : 0 ≤ a) (hn : 8 ≤ n) : callF G n n_f_law_small [scr ns, .int a, .int most] = pure (.d (enc (smallV ns a most))) := by
  obtain ⟨n, rfl⟩ := Nat.exists_eq_add_of_le' (show 1 ≤ n by omega)
  rw [call_eq f_law_small rfl]
  have k0 : callF G n n_f_law_kind [scr ns, .int a, .int 3] = _ := kind_eq ns 3 n a (by decide) (by omega) ha
  have kk : ∀ b : Int, 0 ≤ b → callF G n n_f_law_kind [scr ns, .int b, .int 2] = pure (.d (enc (kindV ns 2 b))) := fun b hb => kind_eq ns 2 n b (by decide) (by omega) hb
  have sz : ∀ k, Dr k → callF G n n_f_law_size [.d (enc k)] = pure (.int ((worths k).length : Nat)) := fun k h => law_size_ok 3 n k h.ok (Nat.le_trans h.cap (by decide)) (by omega)
  have d0 := dr_kind ns 3 a (by decide) (by decide) ha
  have d1 := dr_kind ns 2 (a + 500 + 700 * ((0 : Nat) : Int)) (by decide) (by decide) (by omega)
  have d2 := dr_kind ns 2 (a + 500 + 700 * ((1 : Nat) : Int)) (by decide) (by decide) (by omega)
  have d3 := dr_kind ns 2 (a + 500 + 700 * ((2 : Nat) : Int)) (by decide) (by decide) (by omega)
  have s0 := sz _ d0
  have s1 := sz _ d1
  have s2 := sz _ d2
  have s3 := sz _ d3
  simp at d1 d2 d3 s1 s2 s3
  have q1 := kk (a + 500) (by omega)
  have q2 := kk (a + 500 + 700) (by omega)
  have q3 := kk (a + 500 + 1400) (by omega)
  simp [f_law_small, k0]
  rw [walk_r1i (m := 3) (k := 3) _ rfl (by decide), pure_bind']
  show (loopM _ [.int ((0 : Nat) : Int), .int ((1 : Nat) : Int), .int ((2 : Nat) : Int)] _ >>= _) = _
  rw [loop_cons', bodyK_eq]
  unfold smallV smallL
  by_cases h0 : (worths (kindV ns 3 a)).length ≤ most
  · simp [s0, h0]
  · simp (disch := omega) [s0, h0, mul_l, q1]
    rw [loop_cons', bodyK_eq]
    unfold smallL
    by_cases h1 : (worths (kindV ns 2 (a + 500))).length ≤ most
    · simp [s1, h1]
    · simp (disch := omega) [s1, h1, mul_l, q2]
      rw [loop_cons', bodyK_eq]
      unfold smallL
      by_cases h2 : (worths (kindV ns 2 (a + 500 + 700))).length ≤ most
      · simp [s2, h2]
      · simp (disch := omega) [s2, h2, mul_l, q3]
        unfold smallL
        by_cases h3 : (worths (kindV ns 2 (a + 500 + 1400))).length ≤ most
        · simp [s3, h3]
        · simp [s3, h3]
end GG

end

section
set_option Elab.async false
set_option linter.all false
set_option maxRecDepth 100000
set_option maxHeartbeats 1000000
/-! Refusals; the same things. -/
namespace GG
open PySem Wk
noncomputable instance : DecidableEq PyData := fun _ _ => Classical.propDecidable _
@[simp] theorem isi_cls (c k : Nat) : isiOp (.exc c) (.cls k) = pure (decide (k = c) || decide (k = 0)) := id rfl
@[simp] theorem isi_val (c : Nat) : isiOp (.exc c) .value = pure true := id rfl
@[simp] theorem chk_count_o (s : List PyData) : meChk .count (.own s) = pure () := id rfl
@[simp] theorem chk_count_l (s : List PyData) : meChk .count (.d (.list s)) = pure () := id rfl
@[simp] theorem frz_exc (c : Nat) : frz (.exc c) = .exc c := rfl
def refusal : Nat → Str
  | 1 => "no kind"
  | 2 => "no worth"
  | 3 => "no rule"
  | 4 => "too many"
  | 5 => "ended"
  | _ => "no text"
def runW (c : Nat) : M Rv := callF G 3 n_f_law_word [.exc c]
theorem word_run {c n : Nat} (h : outD (callF G 3 n_f_law_word [.exc c] []) (.str (refusal c)) = true) (hn : 3 ≤ n) : callF G n n_f_law_word [.exc c] = pure (.d (.str (refusal c))) := run_d h hn
theorem law_word_ok {c n : Nat} (h1 : 1 ≤ c) (h2 : c ≤ 6) (hn : 3 ≤ n) : callF G n n_f_law_word [.exc c] = pure (.d (.str (refusal c))) := by
  have : c = 1 ∨ c = 2 ∨ c = 3 ∨ c = 4 ∨ c = 5 ∨ c = 6 := by omega
  rcases this with rfl | rfl | rfl | rfl | rfl | rfl
  · exact word_run (by decide +kernel) hn
  · exact word_run (by decide +kernel) hn
  · exact word_run (by decide +kernel) hn
  · exact word_run (by decide +kernel) hn
  · exact word_run (by decide +kernel) hn
  · exact word_run (by decide +kernel) hn
@[simp] theorem es_try {F : Nat → List Rv → M Rv} {σ : En} (b : Tb) (x k : Nat) (cs : List Nat) : evS F σ (.tryK b x k cs) = tryM (evTb F σ b >>= fun σ1 => pure (.nx, σ1)) (fun c => if cs.contains c then pure (.nx, (setR σ k (.exc c)).set x none) else bad) := id (by rw [evS])
@[simp] theorem tb_asg {F : Nat → List Rv → M Rv} {σ : En} (i : Nat) (e : Tm) : evTb F σ (.asg i e) = (evE F σ e >>= fun x => pure (setR σ i x)) := id (by rw [evTb])
@[simp] theorem tb_ite {F : Nat → List Rv → M Rv} {σ : En} (c : Tm) (a b : Tb) : evTb F σ (.ite c a b) = (evE F σ c >>= fun x => toB x >>= fun k => if k then evTb F σ a else evTb F σ b) := id (by rw [evTb])
@[simp] theorem try_pure {α : Type} (a : α) (h : Nat → M α) : tryM (pure a) h = pure a := id rfl
@[simp] theorem try_raise {α : Type} (c : Nat) (h : Nat → M α) : tryM (raise c) h = h c := id rfl
/-- what a deed tells, or how it is refused -/
def told (r : Rv) : Option Nat → Rv
  | none => r
  | some c => .d (.str (refusal c))
theorem tried_ok {n : Nat} {k w : PyData} {b : Bool} (hn : 2 ≤ n) (h : callF G n n_f_is_worth [.d k, .d w] = pure (.bl b)) : callF G (n + 1) n_f_law_tried [.d k, .d w] = pure (.bl b) := by
  rw [call_eq f_law_tried rfl]
  simp [f_law_tried, h]
theorem tried_x {n : Nat} {k w : PyData} (hn : 3 ≤ n) (h : callF G n n_f_is_worth [.d k, .d w] = raise 1) : callF G (n + 1) n_f_law_tried [.d k, .d w] = pure (.d (.str "no kind")) := by
  rw [call_eq f_law_tried rfl]
  have e := law_word_ok (c := 1) (n := n) (by decide) (by decide) hn
  simp [f_law_tried, h, e]
  rfl
theorem is_worth_t {n : Nat} {k : Kd} (w : PyData) (h : ok 3 k) (hn : 8 ≤ n) : callF G n n_f_is_worth [.d (enc k), .d w] = pure (.bl (hasV 3 k w)) := by
  obtain ⟨n, rfl⟩ := Nat.exists_eq_add_of_le' (show 1 ≤ n by omega)
  rw [call_eq f_is_worth rfl]
  have := sz_enc h
  simp [f_is_worth, look_kind_t (n := n) (enc k) (by unfold B; omega) (by omega) (isKind_of h), has_ok 3 n k w h (by omega)]
theorem is_worth_f {n : Nat} {k : PyData} (w : PyData) (h : sz k ≤ B) (hk : isKind 3 k = false) (hn : 8 ≤ n) : callF G n n_f_is_worth [.d k, .d w] = raise 1 := by
  obtain ⟨n, rfl⟩ := Nat.exists_eq_add_of_le' (show 1 ≤ n by omega)
  rw [call_eq f_is_worth rfl]
  simp [f_is_worth, look_kind_f (n := n) k h (by omega) hk]
/-! worths as data -/
mutual
def prop : PyData → Bool
  | .int _ => true
  | .str _ => true
  | .tuple xs => propL xs
  | _ => false
def propL : List PyData → Bool
  | [] => true
  | x :: xs => prop x && propL xs
end
theorem propL_all : ∀ xs, propL xs = xs.all prop
  | [] => by rw [propL]; rfl
  | x :: xs => by rw [propL, propL_all xs, List.all_cons]
@[simp] theorem prop_tup (xs : List PyData) : prop (.tuple xs) = xs.all prop := by rw [prop, propL_all]
@[simp] theorem prop_int (i : Int) : prop (.int i) = true := by rw [prop]
@[simp] theorem prop_str (i : Str) : prop (.str i) = true := by rw [prop]
theorem worths_prop : ∀ {d : Nat} {k : Kd}, ok d k → ∀ w ∈ worths k, prop w = true ∧ w.depth ≤ d
  | 0, _, h, _, _ => h.elim
  | d + 1, .whole lo hi, h, w, hw => by
    rw [w_whole, List.mem_map] at hw
    obtain ⟨i, _, rfl⟩ := hw
    simp [PyData.depth]
  | d + 1, .pick cs, h, w, hw => by
    rw [w_pick, List.mem_map] at hw
    obtain ⟨i, _, rfl⟩ := hw
    simp [PyData.depth]
  | d + 1, .row ks, h, w, hw => by
    obtain ⟨h1, h2, h3⟩ := h
    rw [w_row, List.mem_map] at hw
    obtain ⟨xs, hx, rfl⟩ := hw
    rw [mem_prods] at hx
    obtain ⟨hl, hx⟩ := hx
    rw [List.length_map] at hl
    have go : ∀ x ∈ xs, prop x = true ∧ x.depth ≤ d := fun x hm => by
      obtain ⟨i, hi, rfl⟩ := List.getElem_of_mem hm
      have hi2 : i < ks.length := by omega
      refine worths_prop (h3 ks[i] (List.getElem_mem hi2)) _ ?_
      refine hx (xs[i], worths ks[i]) ?_
      rw [List.mem_iff_getElem]
      exact ⟨i, by simp; omega, by simp⟩
    refine ⟨by rw [prop_tup, List.all_eq_true]; exact fun x hm => (go x hm).1, ?_⟩
    rw [depth_tup]
    have := depthAll_le fun x hm => (go x hm).2
    omega
  | d + 1, .many k lo hi, h, w, hw => by
    obtain ⟨h1, h2, h3, h4⟩ := h
    rw [w_many, List.mem_flatMap] at hw
    obtain ⟨i, _, hw⟩ := hw
    obtain ⟨xs, hx, rfl⟩ := List.mem_map.mp hw
    rw [mem_prods] at hx
    obtain ⟨hl, hx⟩ := hx
    rw [List.length_replicate] at hl
    have go : ∀ x ∈ xs, prop x = true ∧ x.depth ≤ d := fun x hm => by
      refine worths_prop h4 _ (hx (x, worths k) ?_)
      rw [← hl, zip_rep]
      exact List.mem_map.mpr ⟨x, hm, rfl⟩
    refine ⟨by rw [prop_tup, List.all_eq_true]; exact fun x hm => (go x hm).1, ?_⟩
    rw [depth_tup]
    have := depthAll_le fun x hm => (go x hm).2
    omega
theorem zip_mapLR (f : PyData → PyData → Bool) : ∀ (xs ys : List PyData), zipL xs ys = (xs.zip ys).map fun p => .tuple [p.1, p.2]
  | [], ys => by cases ys <;> rfl
  | x :: xs, [] => rfl
  | x :: xs, y :: ys => by rw [List.zip_cons_cons, List.map_cons, ← zip_mapLR f xs ys]; rfl
theorem decide_zip : ∀ (xs ys : List PyData), decide (xs = ys) = (decide (xs.length = ys.length) && (xs.zip ys).all fun p => decide (p.1 = p.2))
  | [], [] => rfl
  | [], y :: ys => by simp
  | x :: xs, [] => by simp
  | x :: xs, y :: ys => by
    have := decide_zip xs ys
    by_cases h : x = y
    · subst h; simp [this]
    · simp [h]
/-- of a proper worth: whether a thing is just it -/
theorem same_ok : ∀ (D n : Nat) (w t : PyData), prop w = true → w.depth ≤ D → D ≤ 50 → D + 1 ≤ n → callF G n n_f_law_same [.d w, .d t] = pure (.bl (decide (w = t)))
  | D, n, w, t, hw, hD, hK, hn => by
    obtain ⟨n, rfl⟩ := Nat.exists_eq_add_of_le' (show 1 ≤ n by omega)
    rw [call_eq f_law_same rfl]
    have eq : eqP w t = pure (PyData.eqv w t) := eqP_ok _ _ (by omega)
    cases w with
    | int i => cases t <;> simp [f_law_same, eq, PyData.eqv, beq_dec]
    | str i => cases t <;> simp [f_law_same, eq, PyData.eqv, beq_dec]
    | tuple xs =>
      cases t with
      | tuple ys =>
        rw [depth_tup] at hD
        rw [prop_tup, List.all_eq_true] at hw
        obtain ⟨D, rfl⟩ := Nat.exists_eq_add_of_le' (show 1 ≤ D by omega)
        simp [f_law_same]
        rw [decide_zip]
        by_cases hl : xs.length = ys.length
        · have hl' : (xs.length : Int) = (ys.length : Int) := by omega
          simp [hl']
          rw [zip_mapLR (fun _ _ => true), comp_mapM (fun p => .bool (decide (p.1 = p.2)))]
          · simp [hl]
          · intro p hp
            have hm := (List.of_mem_zip hp).1
            have := same_ok D n p.1 p.2 (hw p.1 hm) (by have := depth_mem hm; omega) (by omega) (by omega)
            simp [turnF, this]
        · have hl' : ¬ (xs.length : Int) = (ys.length : Int) := by omega
          simp [hl, hl']
      | _ => simp [f_law_same, eq, PyData.eqv]
    | _ => cases hw
end GG

end

section
set_option Elab.async false
set_option linter.all false
set_option maxRecDepth 100000
set_option maxHeartbeats 1000000
namespace GG
open PySem Wk
@[simp] theorem ev_told {F : Nat → List Rv → M Rv} {σ : En} (f : Nat) (cs : List Nat) (a : Tm) : evE F σ (.told f cs a) = tryM (evE F σ a) (fun c => if cs.contains c then quiet (F f [.exc c]) else bad) := id rfl
def clsW (c : Nat) : Str := match c with
  | 1 => "no kind" | 2 => "no worth" | 3 => "no rule" | 4 => "too many" | 5 => "ended" | 6 => "no text" | _ => "no back"
theorem class_all : [1, 2, 3, 4, 5, 6, 7].all (fun c => outD (callF G 3 n_f_law_class [.exc c] []) (.str (clsW c))) = true := by decide +kernel
theorem class_ok {n c : Nat} (hn : 3 ≤ n) (h1 : 1 ≤ c) (h2 : c ≤ 7) : callF G n n_f_law_class [.exc c] = pure (.d (.str (clsW c))) := by
  have := List.all_eq_true.mp class_all c (by simp; omega)
  exact run_d this hn
theorem pickI_lt (ns : List Int) (k : Int) (m : Nat) (h : 0 < m) : ∃ j, j < m ∧ pickI ns k m = (j : Int) := by
  have hb := pick_bd ns k m (by omega)
  obtain ⟨j, hj⟩ := Int.eq_ofNat_of_zero_le hb.1
  exact ⟨j, by omega, hj⟩
theorem idx_mod (xs : List PyData) (a : Int) (m : Nat) (hm : xs.length = m) (h : 0 < m) (ha : 0 ≤ a) : ∃ x ∈ xs, idxOp (.own xs) (.int (a.fmod m)) = pure (.d x) := by
  have h1 := Int.fmod_nonneg_of_pos a (show (0 : Int) < m by omega)
  have h2 := Int.fmod_lt_of_pos a (show (0 : Int) < m by omega)
  obtain ⟨j, hj⟩ := Int.eq_ofNat_of_zero_le h1
  rw [hj] at h2 ⊢
  have hl : j < xs.length := by omega
  exact ⟨xs[j], List.getElem_mem hl, by rw [idx_own', List.getElem?_eq_getElem hl]⟩
theorem ltL {n : Nat} (h : n ≤ 15999999) : (n < sizeLine) = True := by
  have := B_line (n := n + 1) (by omega)
  exact eq_true (by omega)
theorem eqP_t {a b : PyData} (h : (okEq a b && PyData.eqv a b) = true) : eqP a b = pure true := by
  simp only [Bool.and_eq_true] at h
  unfold eqP
  rw [if_pos h.1, h.2]
theorem mulN (j : Nat) (x : PyData) (h : j ≤ 1000) : binOp .mul (.own [x]) (.d (.int (j : Int))) = pure (.own (List.replicate j x)) := by
  have e : List.flatten (List.replicate j [x]) = List.replicate j x := by
    induction j with
    | zero => rfl
    | succ j ih => rw [List.replicate_succ, List.flatten_cons, ih (by omega), List.replicate_succ]; rfl
  have hc : (decide (-(2 ^ 63) ≤ (j : Int)) && decide ((j : Int) < 2 ^ 63) && okLen ([x].length * (j : Int).toNat)) = true := by
    rw [okLen_B (by rw [Int.toNat_natCast, List.length_singleton]; omega), Bool.and_true, Bool.and_eq_true]
    exact ⟨decide_eq_true (by omega), decide_eq_true (by omega)⟩
  have : binOp .mul (.own [x]) (.d (.int (j : Int))) = (if (decide (-(2 ^ 63) ≤ (j : Int)) && decide ((j : Int) < 2 ^ 63) && okLen ([x].length * (j : Int).toNat)) = true then pure (.own (List.flatten (List.replicate (j : Int).toNat [x]))) else bad) := id rfl
  rw [this, if_pos hc, Int.toNat_natCast, e]
theorem mkL_le {xs : List PyData} (h : xs.length ≤ 16000000) : mkL xs = pure (.own xs) := by unfold mkL; rw [okLen_B h]; rfl
theorem mkT_le {xs : List PyData} (h : xs.length ≤ 16000000) : mkT xs = pure (.d (.tuple xs)) := by unfold mkT; rw [okLen_B h]; rfl
end GG

end

section
set_option Elab.async false
set_option linter.all false
set_option maxRecDepth 100000
set_option maxHeartbeats 1000000
namespace GG
open PySem Wk
abbrev T44 (xs : List PyData) : PyData := .tuple xs
def odd44 : List PyData := [.none, .tuple [], .tuple [.str "whole", .int 1, .int 0], .tuple [.str "whole", .int (-21), .int 0], .tuple [.str "pick", .tuple []], .tuple [.str "pick", .tuple [.tuple [.str "a", .int 0]]],
  .tuple [.str "row", .tuple []], .tuple [.str "many", .tuple [.str "whole", .int 0, .int 1], .int 2, .int 4]]
def bad44 : List PyData := [.none, .tuple [], .tuple [.str "sum", .int 1], .tuple [.str "sum", .int (-51), .int 0], .tuple [.str "size", .int 0, .bool true], .tuple [.str "word", .str "abcd"], .tuple [.str "no"],
  .tuple [.str "all", .tuple [.str "rising"]], .str "rising", .int 5]
def kind44 : PyData := .tuple [.str "row", .tuple [.tuple [.str "whole", .int 0, .int 2], .tuple [.str "pick", .tuple [.tuple [.str "a", .int 1]]]]]
def great44 : PyData := .tuple [.str "many", .tuple [.str "whole", .int 0, .int 9], .int 3, .int 3]
def rule44 : PyData := .tuple [.str "rising"]
def X44 (f : Nat) (as : List PyData) (c : Nat) : Bool := outX (callF G 20 f (as.map .d) []) c
def oddB (p : PyData) : Bool := X44 n_f_depth [p] 1 && X44 n_f_words_in [p] 1 && X44 n_f_reach [p] 1 && X44 n_f_mirrored [p] 1 && X44 n_f_mirrored_worth [p, .none] 1 && X44 n_f_implies [p, rule44, rule44] 1 && X44 n_f_alike_on [p, rule44, rule44] 1 &&
  X44 n_f_tally [p, .list []] 1 && X44 n_f_parted [p, .list [rule44]] 1 && X44 n_f_tightest [p, .tuple [rule44]] 1
theorem odd_all : odd44.all oddB = true := by decide +kernel
def badB (q : PyData) : Bool := odd44.all (fun p => X44 n_f_implies [p, rule44, q] 3 && X44 n_f_alike_on [p, q, rule44] 3 && X44 n_f_tightest [p, .list [q, rule44]] 3) && X44 n_f_tally [great44, .list [rule44, q]] 3 && X44 n_f_parted [kind44, .tuple [q]] 3
theorem bad_all : bad44.all badB = true := by decide +kernel
def ws44 : List PyData := [.tuple [.int 3, .str "a"], .tuple [.int 0, .str "b"], .tuple [.int 0], .list [.int 0, .str "a"]]
theorem ws_all : ws44.all (fun w => X44 n_f_mirrored_worth [kind44, w] 2) = true := by decide +kernel
theorem end44 : X44 n_f_implies [great44, rule44, rule44] 4 && X44 n_f_tally [great44, .list [rule44]] 4 && X44 n_f_parted [great44, .list []] 4 && X44 n_f_tightest [great44, .list []] 4 &&
  outD (callF G 20 n_f_reach [.d great44] []) (.tuple [.int 0, .int 27]) && outO (callF G 20 n_f_tightest [.d kind44, .d (.list [])] []) [] = true := by decide +kernel

theorem x44 {n f : Nat} {as : List PyData} {c : Nat} (h : X44 f as c = true) (hn : 20 ≤ n) : callF G n f (as.map .d) = raise c := run_x h hn
theorem q10 : eqP (.list (List.replicate 10 (.str "no kind"))) (.list (List.replicate 10 (.str "no kind"))) = pure true := eqP_t (by decide +kernel)
theorem q5 : eqP (.list (List.replicate 5 (.str "no rule"))) (.list (List.replicate 5 (.str "no rule"))) = pure true := eqP_t (by decide +kernel)
theorem q4 : eqP (.list (List.replicate 4 (.str "too many"))) (.list (List.replicate 4 (.str "too many"))) = pure true := eqP_t (by decide +kernel)
theorem q1 : eqP (.str "no worth") (.str "no worth") = pure true := eqP_t (by decide +kernel)
theorem qr : eqP (.tuple [.int 0, .int 27]) (.tuple [.int 0, .int 27]) = pure true := eqP_t (by decide +kernel)
theorem ql : eqP (.list []) (.list []) = pure true := eqP_t (by decide +kernel)
theorem q10' : eqP (.list [.str "no kind", .str "no kind", .str "no kind", .str "no kind", .str "no kind", .str "no kind", .str "no kind", .str "no kind", .str "no kind", .str "no kind"]) (.list [.str "no kind", .str "no kind", .str "no kind", .str "no kind", .str "no kind", .str "no kind", .str "no kind", .str "no kind", .str "no kind", .str "no kind"]) = pure true := q10
theorem q5' : eqP (.list [.str "no rule", .str "no rule", .str "no rule", .str "no rule", .str "no rule"]) (.list [.str "no rule", .str "no rule", .str "no rule", .str "no rule", .str "no rule"]) = pure true := q5
theorem q4' : eqP (.list [.str "too many", .str "too many", .str "too many", .str "too many"]) (.list [.str "too many", .str "too many", .str "too many", .str "too many"]) = pure true := q4
theorem m10 (x : PyData) : binOp .mul (.own [x]) (.d (.int 10)) = pure (.own (List.replicate 10 x)) := mulN 10 x (by decide)
theorem m5 (x : PyData) : binOp .mul (.own [x]) (.d (.int 5)) = pure (.own (List.replicate 5 x)) := mulN 5 x (by decide)
theorem m4 (x : PyData) : binOp .mul (.own [x]) (.d (.int 4)) = pure (.own (List.replicate 4 x)) := mulN 4 x (by decide)
theorem k44 {n : Nat} (ns : List Int) (hn : 39 ≤ n) : callF G (n + 1) n_law_k44 [scr ns] = pure (.bl true) := by
  rw [call_eq law_k44 rfl]
  have c1 := class_ok (n := n) (c := 1) (by omega) (by decide) (by decide)
  have c2 := class_ok (n := n) (c := 2) (by omega) (by decide) (by decide)
  have c3 := class_ok (n := n) (c := 3) (by omega) (by decide) (by decide)
  have c4 := class_ok (n := n) (c := 4) (by omega) (by decide) (by decide)
  have h9 := end44
  simp only [Bool.and_eq_true, decide_eq_true_eq] at h9
  obtain ⟨⟨⟨⟨⟨z1, z2⟩, z3⟩, z4⟩, z5⟩, z6⟩ := h9
  have z1 := x44 z1 (show 20 ≤ n by omega)
  have z2 := x44 z2 (show 20 ≤ n by omega)
  have z3 := x44 z3 (show 20 ≤ n by omega)
  have z4 := x44 z4 (show 20 ≤ n by omega)
  have z5 := run_d z5 (show 20 ≤ n by omega)
  have z6 := run_o z6 (show 20 ≤ n by omega)
  simp only [List.map_cons, List.map_nil] at z1 z2 z3 z4
  simp (disch := first | omega | simp) [law_k44, mkL_le, mkT_le, okLen_B]
  rw [walk_r1i (m := 4) (k := 4) _ rfl (by decide), pure_bind']
  refine range_use (fun k σ => ∃ x3 x4 x8 x9, σ = [some (scr ns), some (.own odd44), some (.own bad44), x3, x4, some (.d kind44), some (.d great44), some (.d rule44), x8, x9]) ⟨_, _, _, _, rfl⟩ (fun k σ hk hP => ?_) (fun σ' hP => ?_)
  · obtain ⟨x3, x4, x8, x9, rfl⟩ := hP
    have b0 := pick_bd ns 0 8 (by decide)
    have b1 := pick_bd ns 1 10 (by decide)
    obtain ⟨p, hp, ep⟩ := idx_mod odd44 (pickI ns 0 8 + 3 * (k : Int)) 8 rfl (by decide) (by omega)
    have ep : idxOp (.own odd44) (.int ((pickI ns 0 8 + 3 * (k : Int)).fmod 8)) = pure (.d p) := ep
    obtain ⟨q, hq, eq⟩ := idx_mod bad44 (pickI ns 1 10 + 3 * (k : Int)) 10 rfl (by decide) (by omega)
    have eq : idxOp (.own bad44) (.int ((pickI ns 1 10 + 3 * (k : Int)).fmod 10)) = pure (.d q) := eq
    have ew : ∃ w ∈ ws44, idxOp (.own ws44) (.int (k : Int)) = pure (.d w) := ⟨ws44[k], List.getElem_mem _, by rw [idx_own', List.getElem?_eq_getElem (show k < ws44.length from hk)]; rfl⟩
    obtain ⟨w, hw, ew⟩ := ew
    have f1 := List.all_eq_true.mp odd_all p hp
    have f2 := List.all_eq_true.mp bad_all q hq
    have f3 := List.all_eq_true.mp ws_all w hw
    unfold oddB at f1
    unfold badB at f2
    simp only [Bool.and_eq_true] at f1 f2
    obtain ⟨⟨⟨⟨⟨⟨⟨⟨⟨a1, a2⟩, a3⟩, a4⟩, a5⟩, a6⟩, a7⟩, a8⟩, a9⟩, a10⟩ := f1
    obtain ⟨⟨g1, g2⟩, g3⟩ := f2
    have g1 := List.all_eq_true.mp g1 p hp
    simp only [Bool.and_eq_true] at g1
    obtain ⟨⟨g4, g5⟩, g6⟩ := g1
    have a1 := x44 a1 (show 20 ≤ n by omega)
    have a2 := x44 a2 (show 20 ≤ n by omega)
    have a3 := x44 a3 (show 20 ≤ n by omega)
    have a4 := x44 a4 (show 20 ≤ n by omega)
    have a5 := x44 a5 (show 20 ≤ n by omega)
    have a6 := x44 a6 (show 20 ≤ n by omega)
    have a7 := x44 a7 (show 20 ≤ n by omega)
    have a8 := x44 a8 (show 20 ≤ n by omega)
    have a9 := x44 a9 (show 20 ≤ n by omega)
    have a10 := x44 a10 (show 20 ≤ n by omega)
    have g2 := x44 g2 (show 20 ≤ n by omega)
    have g3 := x44 g3 (show 20 ≤ n by omega)
    have g4 := x44 g4 (show 20 ≤ n by omega)
    have g5 := x44 g5 (show 20 ≤ n by omega)
    have g6 := x44 g6 (show 20 ≤ n by omega)
    have f3 := x44 f3 (show 20 ≤ n by omega)
    simp only [List.map_cons, List.map_nil] at a1 a2 a3 a4 a5 a6 a7 a8 a9 a10 g2 g3 g4 g5 g6 f3
    simp only [ws44] at ew
    rw [bodyK_eq]
    generalize odd44 = O at *
    generalize bad44 = Bd at *
    simp (config := { maxSteps := 2000000 }) (disch := first | omega | simp) [ltL, m10, m5, q10', q5', q1, pick_ok, mul_l, mod_int, ep, eq, ew, c1, c2, c3, clsW, a1, a2, a3, a4, a5, a6, a7, a8, a9, a10, g2, g3, g4, g5, g6, f3, mkL_le, okLen_B]
    exact ⟨_, rfl, _, _, _, _, rfl⟩
  · obtain ⟨x3, x4, x8, x9, rfl⟩ := hP
    simp (config := { maxSteps := 2000000 }) (disch := first | omega | simp) [ltL, m4, q4', qr, ql, c4, clsW, z1, z2, z3, z4, z5, z6, mkL_le, okLen_B, mul_l]
theorem k44_ev : ∀ ns : List Int, ns.length ≤ 63 → ∃ st, callF G 40 n_law_k44 [.d (.list (ns.map .int))] [] = .ok (.bl true) st := fun ns _ => ⟨[], by rw [k44 (n := 39) ns (by omega)]; rfl⟩
end GG

end

set_option Elab.async false
set_option linter.all false
set_option maxRecDepth 100000
set_option maxHeartbeats 2000000
namespace GG
open PySem PySem.Spec PyProof.Rows L2 Wk
def names : Nat → Str
  | 0 => "is_whole"
  | 1 => "is_word"
  | 2 => "are_choices"
  | 3 => "is_kind_in"
  | 4 => "is_kind"
  | 18 => "look_kind"
  | 19 => "has"
  | 20 => "is_worth"
  | 38 => "look_worth"
  | 43 => "count"
  | 44 => "power"
  | 45 => "how_many"
  | 46 => "of_number"
  | 47 => "parts_of"
  | 48 => "all_worths"
  | 55 => "divisor"
  | 56 => "share"
  | 57 => "times"
  | 58 => "plus"
  | 59 => "share_in"
  | 85 => "is_rule_in"
  | 86 => "is_rule"
  | 87 => "look_rule"
  | 88 => "leaves"
  | 89 => "numbers_in"
  | 90 => "parts_in"
  | 91 => "does_keep"
  | 104 => "look_rules"
  | 105 => "implies"
  | 106 => "alike_on"
  | 108 => "tally"
  | 109 => "tightest"
  | 110 => "parted"
  | 29 => "depth_of"
  | 30 => "depth"
  | 31 => "words_of"
  | 32 => "words_in"
  | 33 => "reach_of"
  | 34 => "reach"
  | 39 => "mirrored_kind"
  | 40 => "mirrored"
  | 41 => "mirrored_in"
  | 42 => "mirrored_worth"
  | 5 => "_law_cell"
  | 6 => "_law_pick"
  | 112 => "_law_class"
  | 113 => "law"
  | _ => ""
def owns : Nat → Str
  | 0 => "is_whole"
  | 1 => "is_word"
  | 2 => "are_choices"
  | 3 => "is_kind_in"
  | 4 => "is_kind"
  | 18 => "look_kind"
  | 19 => "has"
  | 20 => "is_worth"
  | 38 => "look_worth"
  | 43 => "count"
  | 44 => "power"
  | 45 => "how_many"
  | 46 => "of_number"
  | 47 => "parts_of"
  | 48 => "all_worths"
  | 55 => "divisor"
  | 56 => "share"
  | 57 => "times"
  | 58 => "plus"
  | 59 => "share_in"
  | 85 => "is_rule_in"
  | 86 => "is_rule"
  | 87 => "look_rule"
  | 88 => "leaves"
  | 89 => "numbers_in"
  | 90 => "parts_in"
  | 91 => "does_keep"
  | 104 => "look_rules"
  | 105 => "implies"
  | 106 => "alike_on"
  | 108 => "tally"
  | 109 => "tightest"
  | 110 => "parted"
  | 29 => "depth_of"
  | 30 => "depth"
  | 31 => "words_of"
  | 32 => "words_in"
  | 33 => "reach_of"
  | 34 => "reach"
  | 39 => "mirrored_kind"
  | 40 => "mirrored"
  | 41 => "mirrored_in"
  | 42 => "mirrored_worth"
  | 5 => "_law_cell"
  | 6 => "_law_pick"
  | 112 => "_law_class"
  | 113 => "law"
  | _ => ""
def slots : Nat → List Str
  | 0 => ["thing", "low", "high"]
  | 1 => ["thing", "sign"]
  | 2 => ["thing", "one", "word", "weight"]
  | 3 => ["thing", "deep", "word", "one"]
  | 4 => ["thing"]
  | 18 => ["kind"]
  | 19 => ["kind", "worth", "part", "one", "word", "weight"]
  | 20 => ["kind", "thing"]
  | 38 => ["kind", "worth"]
  | 43 => ["kind", "made", "one", "size"]
  | 44 => ["number", "many", "made", "again"]
  | 45 => ["kind"]
  | 46 => ["kind", "number", "size"]
  | 47 => ["kinds", "number", "made", "kind"]
  | 48 => ["kind", "number"]
  | 55 => ["one", "other"]
  | 56 => ["up", "down", "by"]
  | 57 => ["one", "other"]
  | 58 => ["one", "other"]
  | 59 => ["kind", "worth", "here", "kinds", "weights", "one", "part", "word"]
  | 85 => ["thing", "deep", "word", "one"]
  | 86 => ["thing"]
  | 87 => ["rule"]
  | 88 => ["worth", "made", "part"]
  | 89 => ["worth", "one"]
  | 90 => ["worth"]
  | 91 => ["rule", "worth", "word", "numbers", "one", "other"]
  | 104 => ["rules", "rule"]
  | 105 => ["kind", "one", "other", "worth"]
  | 106 => ["kind", "one", "other"]
  | 108 => ["kind", "rules", "made", "worth", "way", "many", "share", "rule"]
  | 109 => ["kind", "rules", "worths", "counts", "rule", "number", "worth"]
  | 110 => ["kind", "rules", "worth", "ways", "made", "way", "rule"]
  | 29 => ["kind", "part"]
  | 30 => ["kind"]
  | 31 => ["kind", "made", "part", "word", "weight"]
  | 32 => ["kind"]
  | 33 => ["kind", "some", "low", "high", "part"]
  | 34 => ["kind"]
  | 39 => ["kind", "part"]
  | 40 => ["kind"]
  | 41 => ["worth", "part"]
  | 42 => ["kind", "worth"]
  | 5 => ["_law_script", "_law_k"]
  | 6 => ["_law_script", "_law_k", "_law_many", "_law_drawn"]
  | 112 => ["_law_kept", "_law_kinds"]
  | 113 => ["_law_script", "_law_odd", "_law_bad", "_law_k", "_law_told_here", "_law_kind", "_law_great", "_law_rule", "_law_thing", "_law_worse"]
  | _ => []
def pars : Nat → List Str
  | 0 => ["thing", "low", "high"]
  | 1 => ["thing"]
  | 2 => ["thing"]
  | 3 => ["thing", "deep"]
  | 4 => ["thing"]
  | 18 => ["kind"]
  | 19 => ["kind", "worth"]
  | 20 => ["kind", "thing"]
  | 38 => ["kind", "worth"]
  | 43 => ["kind"]
  | 44 => ["number", "many"]
  | 45 => ["kind"]
  | 46 => ["kind", "number"]
  | 47 => ["kinds", "number"]
  | 48 => ["kind"]
  | 55 => ["one", "other"]
  | 56 => ["up", "down"]
  | 57 => ["one", "other"]
  | 58 => ["one", "other"]
  | 59 => ["kind", "worth"]
  | 85 => ["thing", "deep"]
  | 86 => ["thing"]
  | 87 => ["rule"]
  | 88 => ["worth"]
  | 89 => ["worth"]
  | 90 => ["worth"]
  | 91 => ["rule", "worth"]
  | 104 => ["rules"]
  | 105 => ["kind", "one", "other"]
  | 106 => ["kind", "one", "other"]
  | 108 => ["kind", "rules"]
  | 109 => ["kind", "rules"]
  | 110 => ["kind", "rules"]
  | 29 => ["kind"]
  | 30 => ["kind"]
  | 31 => ["kind"]
  | 32 => ["kind"]
  | 33 => ["kind"]
  | 34 => ["kind"]
  | 39 => ["kind"]
  | 40 => ["kind"]
  | 41 => ["worth"]
  | 42 => ["kind", "worth"]
  | 5 => ["_law_script", "_law_k"]
  | 6 => ["_law_script", "_law_k", "_law_many"]
  | 112 => ["_law_kept"]
  | 113 => ["_law_script"]
  | _ => []
abbrev s0 : Stmt := PySem.Challenge.pw_worthkinds_k44_shapes_and_rules_refused.main.body.getD 16 (.Pass ⟨0, 0, 0, 0⟩)
abbrev s1 : Stmt := PySem.Challenge.pw_worthkinds_k44_shapes_and_rules_refused.main.body.getD 17 (.Pass ⟨0, 0, 0, 0⟩)
abbrev s2 : Stmt := PySem.Challenge.pw_worthkinds_k44_shapes_and_rules_refused.main.body.getD 18 (.Pass ⟨0, 0, 0, 0⟩)
abbrev s3 : Stmt := PySem.Challenge.pw_worthkinds_k44_shapes_and_rules_refused.main.body.getD 19 (.Pass ⟨0, 0, 0, 0⟩)
abbrev s4 : Stmt := PySem.Challenge.pw_worthkinds_k44_shapes_and_rules_refused.main.body.getD 20 (.Pass ⟨0, 0, 0, 0⟩)
abbrev s18 : Stmt := PySem.Challenge.pw_worthkinds_k44_shapes_and_rules_refused.main.body.getD 21 (.Pass ⟨0, 0, 0, 0⟩)
abbrev s19 : Stmt := PySem.Challenge.pw_worthkinds_k44_shapes_and_rules_refused.main.body.getD 22 (.Pass ⟨0, 0, 0, 0⟩)
abbrev s20 : Stmt := PySem.Challenge.pw_worthkinds_k44_shapes_and_rules_refused.main.body.getD 23 (.Pass ⟨0, 0, 0, 0⟩)
abbrev s38 : Stmt := PySem.Challenge.pw_worthkinds_k44_shapes_and_rules_refused.main.body.getD 24 (.Pass ⟨0, 0, 0, 0⟩)
abbrev s43 : Stmt := PySem.Challenge.pw_worthkinds_k44_shapes_and_rules_refused.main.body.getD 27 (.Pass ⟨0, 0, 0, 0⟩)
abbrev s44 : Stmt := PySem.Challenge.pw_worthkinds_k44_shapes_and_rules_refused.main.body.getD 28 (.Pass ⟨0, 0, 0, 0⟩)
abbrev s45 : Stmt := PySem.Challenge.pw_worthkinds_k44_shapes_and_rules_refused.main.body.getD 29 (.Pass ⟨0, 0, 0, 0⟩)
abbrev s46 : Stmt := PySem.Challenge.pw_worthkinds_k44_shapes_and_rules_refused.main.body.getD 30 (.Pass ⟨0, 0, 0, 0⟩)
abbrev s47 : Stmt := PySem.Challenge.pw_worthkinds_k44_shapes_and_rules_refused.main.body.getD 31 (.Pass ⟨0, 0, 0, 0⟩)
abbrev s48 : Stmt := PySem.Challenge.pw_worthkinds_k44_shapes_and_rules_refused.main.body.getD 32 (.Pass ⟨0, 0, 0, 0⟩)
abbrev s55 : Stmt := PySem.Challenge.pw_worthkinds_k44_shapes_and_rules_refused.main.body.getD 34 (.Pass ⟨0, 0, 0, 0⟩)
abbrev s56 : Stmt := PySem.Challenge.pw_worthkinds_k44_shapes_and_rules_refused.main.body.getD 35 (.Pass ⟨0, 0, 0, 0⟩)
abbrev s57 : Stmt := PySem.Challenge.pw_worthkinds_k44_shapes_and_rules_refused.main.body.getD 36 (.Pass ⟨0, 0, 0, 0⟩)
abbrev s58 : Stmt := PySem.Challenge.pw_worthkinds_k44_shapes_and_rules_refused.main.body.getD 37 (.Pass ⟨0, 0, 0, 0⟩)
abbrev s59 : Stmt := PySem.Challenge.pw_worthkinds_k44_shapes_and_rules_refused.main.body.getD 38 (.Pass ⟨0, 0, 0, 0⟩)
abbrev s85 : Stmt := PySem.Challenge.pw_worthkinds_k44_shapes_and_rules_refused.main.body.getD 42 (.Pass ⟨0, 0, 0, 0⟩)
abbrev s86 : Stmt := PySem.Challenge.pw_worthkinds_k44_shapes_and_rules_refused.main.body.getD 43 (.Pass ⟨0, 0, 0, 0⟩)
abbrev s87 : Stmt := PySem.Challenge.pw_worthkinds_k44_shapes_and_rules_refused.main.body.getD 44 (.Pass ⟨0, 0, 0, 0⟩)
abbrev s88 : Stmt := PySem.Challenge.pw_worthkinds_k44_shapes_and_rules_refused.main.body.getD 45 (.Pass ⟨0, 0, 0, 0⟩)
abbrev s89 : Stmt := PySem.Challenge.pw_worthkinds_k44_shapes_and_rules_refused.main.body.getD 46 (.Pass ⟨0, 0, 0, 0⟩)
abbrev s90 : Stmt := PySem.Challenge.pw_worthkinds_k44_shapes_and_rules_refused.main.body.getD 47 (.Pass ⟨0, 0, 0, 0⟩)
abbrev s91 : Stmt := PySem.Challenge.pw_worthkinds_k44_shapes_and_rules_refused.main.body.getD 48 (.Pass ⟨0, 0, 0, 0⟩)
abbrev s104 : Stmt := PySem.Challenge.pw_worthkinds_k44_shapes_and_rules_refused.main.body.getD 50 (.Pass ⟨0, 0, 0, 0⟩)
abbrev s105 : Stmt := PySem.Challenge.pw_worthkinds_k44_shapes_and_rules_refused.main.body.getD 51 (.Pass ⟨0, 0, 0, 0⟩)
abbrev s106 : Stmt := PySem.Challenge.pw_worthkinds_k44_shapes_and_rules_refused.main.body.getD 52 (.Pass ⟨0, 0, 0, 0⟩)
abbrev s108 : Stmt := PySem.Challenge.pw_worthkinds_k44_shapes_and_rules_refused.main.body.getD 53 (.Pass ⟨0, 0, 0, 0⟩)
abbrev s109 : Stmt := PySem.Challenge.pw_worthkinds_k44_shapes_and_rules_refused.main.body.getD 54 (.Pass ⟨0, 0, 0, 0⟩)
abbrev s110 : Stmt := PySem.Challenge.pw_worthkinds_k44_shapes_and_rules_refused.main.body.getD 55 (.Pass ⟨0, 0, 0, 0⟩)
abbrev s29 : Stmt := PySem.Challenge.pw_worthkinds_k44_shapes_and_rules_refused.main.body.getD 57 (.Pass ⟨0, 0, 0, 0⟩)
abbrev s30 : Stmt := PySem.Challenge.pw_worthkinds_k44_shapes_and_rules_refused.main.body.getD 58 (.Pass ⟨0, 0, 0, 0⟩)
abbrev s31 : Stmt := PySem.Challenge.pw_worthkinds_k44_shapes_and_rules_refused.main.body.getD 59 (.Pass ⟨0, 0, 0, 0⟩)
abbrev s32 : Stmt := PySem.Challenge.pw_worthkinds_k44_shapes_and_rules_refused.main.body.getD 60 (.Pass ⟨0, 0, 0, 0⟩)
abbrev s33 : Stmt := PySem.Challenge.pw_worthkinds_k44_shapes_and_rules_refused.main.body.getD 61 (.Pass ⟨0, 0, 0, 0⟩)
abbrev s34 : Stmt := PySem.Challenge.pw_worthkinds_k44_shapes_and_rules_refused.main.body.getD 62 (.Pass ⟨0, 0, 0, 0⟩)
abbrev s39 : Stmt := PySem.Challenge.pw_worthkinds_k44_shapes_and_rules_refused.main.body.getD 63 (.Pass ⟨0, 0, 0, 0⟩)
abbrev s40 : Stmt := PySem.Challenge.pw_worthkinds_k44_shapes_and_rules_refused.main.body.getD 64 (.Pass ⟨0, 0, 0, 0⟩)
abbrev s41 : Stmt := PySem.Challenge.pw_worthkinds_k44_shapes_and_rules_refused.main.body.getD 65 (.Pass ⟨0, 0, 0, 0⟩)
abbrev s42 : Stmt := PySem.Challenge.pw_worthkinds_k44_shapes_and_rules_refused.main.body.getD 66 (.Pass ⟨0, 0, 0, 0⟩)
abbrev s5 : Stmt := PySem.Challenge.pw_worthkinds_k44_shapes_and_rules_refused.main.body.getD 68 (.Pass ⟨0, 0, 0, 0⟩)
abbrev s6 : Stmt := PySem.Challenge.pw_worthkinds_k44_shapes_and_rules_refused.main.body.getD 69 (.Pass ⟨0, 0, 0, 0⟩)
abbrev s112 : Stmt := PySem.Challenge.pw_worthkinds_k44_shapes_and_rules_refused.main.body.getD 70 (.Pass ⟨0, 0, 0, 0⟩)
abbrev s113 : Stmt := PySem.Challenge.pw_worthkinds_k44_shapes_and_rules_refused.main.body.getD 72 (.Pass ⟨0, 0, 0, 0⟩)
abbrev s90000 : Stmt := PySem.Challenge.pw_worthkinds_k44_shapes_and_rules_refused.main.body.getD 71 (.Pass ⟨0, 0, 0, 0⟩)
def stmts : Nat → Stmt
  | 0 => s0
  | 1 => s1
  | 2 => s2
  | 3 => s3
  | 4 => s4
  | 18 => s18
  | 19 => s19
  | 20 => s20
  | 38 => s38
  | 43 => s43
  | 44 => s44
  | 45 => s45
  | 46 => s46
  | 47 => s47
  | 48 => s48
  | 55 => s55
  | 56 => s56
  | 57 => s57
  | 58 => s58
  | 59 => s59
  | 85 => s85
  | 86 => s86
  | 87 => s87
  | 88 => s88
  | 89 => s89
  | 90 => s90
  | 91 => s91
  | 104 => s104
  | 105 => s105
  | 106 => s106
  | 108 => s108
  | 109 => s109
  | 110 => s110
  | 29 => s29
  | 30 => s30
  | 31 => s31
  | 32 => s32
  | 33 => s33
  | 34 => s34
  | 39 => s39
  | 40 => s40
  | 41 => s41
  | 42 => s42
  | 5 => s5
  | 6 => s6
  | 112 => s112
  | 113 => s113
  | _ => .Pass ⟨0, 0, 0, 0⟩
def cons : List (Nat × Str × Lit) := [(5, "DEEPEST_kinds", .int 3), (5, "DEEPEST_rules", .int 3), (7, "FARTHEST", .int 50), (2, "GREATEST", .int 20), (4, "LONGEST", .int 3), (1, "MOST_CHOICES", .int 4), (3, "MOST_PARTS", .int 3), (6, "MOST_WORTHS", .int 500), (0, "SMALL", .str "abcdefghijklmnopqrstuvwxyz")]
def clss : List (Str × Nat) := [("NoKind", 1), ("NoRule", 3), ("NoWorth", 2), ("TooMany", 4)]
def asks : List (Str × Nat) := [("Ended", 5), ("NoBack", 7), ("NoKind", 1), ("NoRule", 3), ("NoText", 6), ("NoWorth", 2), ("TooMany", 4)]
def tris : List Str := ["WorthError"]
def txt : Txt where
  W := ⟨names, [0, 1, 2, 3, 4, 18, 19, 20, 38, 43, 44, 45, 46, 47, 48, 55, 56, 57, 58, 59, 85, 86, 87, 88, 89, 90, 91, 104, 105, 106, 108, 109, 110, 29, 30, 31, 32, 33, 34, 39, 40, 41, 42, 5, 6, 112], cons, clss, asks, tris, false, 0, []⟩
  T := G
  st := stmts
  N := slots
  ps := pars
  td := [⟨"_law_told", s90000, "_law_deed", "e", "WorthError", 112⟩]
  qn := owns
def clsN : List (Nat × Str) := [(1, "NoKind"), (3, "NoRule"), (2, "NoWorth"), (4, "TooMany")]
theorem all_mk {K : PySem.W.Frag} {h : Heap} {mg : Str → Option Value} {fa : Addr} (X : K.In h) (G0 : h.Ns mainGlobals mg) (hfa : mg "law" = some (.ref fa))
    {f0 : Addr} {od0 an0 : Option Addr} {sl0 : Array (Option Value)} {oc0 kV0 dc0 pm0 cd0 ct0 : Value}
    (a0 : PySem.W.nsIn K mainGlobals "is_whole" = some (some (.ref f0))) (l0 : K.lookup f0 = some ⟨oc0, od0, .func (PySem.W.fnOf "is_whole" "is_whole" (defArgs s0) (defBody s0) (defScope s0) .none kV0 dc0 pm0 an0 cd0 ct0), sl0⟩) (c0 : PySem.W.codeIn K cd0 "is_whole" = true) (k0 : PySem.W.keepIn K (.ref f0) = true)
    {f1 : Addr} {od1 an1 : Option Addr} {sl1 : Array (Option Value)} {oc1 kV1 dc1 pm1 cd1 ct1 : Value}
    (a1 : PySem.W.nsIn K mainGlobals "is_word" = some (some (.ref f1))) (l1 : K.lookup f1 = some ⟨oc1, od1, .func (PySem.W.fnOf "is_word" "is_word" (defArgs s1) (defBody s1) (defScope s1) .none kV1 dc1 pm1 an1 cd1 ct1), sl1⟩) (c1 : PySem.W.codeIn K cd1 "is_word" = true) (k1 : PySem.W.keepIn K (.ref f1) = true)
    {f2 : Addr} {od2 an2 : Option Addr} {sl2 : Array (Option Value)} {oc2 kV2 dc2 pm2 cd2 ct2 : Value}
    (a2 : PySem.W.nsIn K mainGlobals "are_choices" = some (some (.ref f2))) (l2 : K.lookup f2 = some ⟨oc2, od2, .func (PySem.W.fnOf "are_choices" "are_choices" (defArgs s2) (defBody s2) (defScope s2) .none kV2 dc2 pm2 an2 cd2 ct2), sl2⟩) (c2 : PySem.W.codeIn K cd2 "are_choices" = true) (k2 : PySem.W.keepIn K (.ref f2) = true)
    {f3 : Addr} {od3 an3 : Option Addr} {sl3 : Array (Option Value)} {oc3 kV3 dc3 pm3 cd3 ct3 : Value}
    (a3 : PySem.W.nsIn K mainGlobals "is_kind_in" = some (some (.ref f3))) (l3 : K.lookup f3 = some ⟨oc3, od3, .func (PySem.W.fnOf "is_kind_in" "is_kind_in" (defArgs s3) (defBody s3) (defScope s3) .none kV3 dc3 pm3 an3 cd3 ct3), sl3⟩) (c3 : PySem.W.codeIn K cd3 "is_kind_in" = true) (k3 : PySem.W.keepIn K (.ref f3) = true)
    {f4 : Addr} {od4 an4 : Option Addr} {sl4 : Array (Option Value)} {oc4 kV4 dc4 pm4 cd4 ct4 : Value}
    (a4 : PySem.W.nsIn K mainGlobals "is_kind" = some (some (.ref f4))) (l4 : K.lookup f4 = some ⟨oc4, od4, .func (PySem.W.fnOf "is_kind" "is_kind" (defArgs s4) (defBody s4) (defScope s4) .none kV4 dc4 pm4 an4 cd4 ct4), sl4⟩) (c4 : PySem.W.codeIn K cd4 "is_kind" = true) (k4 : PySem.W.keepIn K (.ref f4) = true)
    {f18 : Addr} {od18 an18 : Option Addr} {sl18 : Array (Option Value)} {oc18 kV18 dc18 pm18 cd18 ct18 : Value}
    (a18 : PySem.W.nsIn K mainGlobals "look_kind" = some (some (.ref f18))) (l18 : K.lookup f18 = some ⟨oc18, od18, .func (PySem.W.fnOf "look_kind" "look_kind" (defArgs s18) (defBody s18) (defScope s18) .none kV18 dc18 pm18 an18 cd18 ct18), sl18⟩) (c18 : PySem.W.codeIn K cd18 "look_kind" = true) (k18 : PySem.W.keepIn K (.ref f18) = true)
    {f19 : Addr} {od19 an19 : Option Addr} {sl19 : Array (Option Value)} {oc19 kV19 dc19 pm19 cd19 ct19 : Value}
    (a19 : PySem.W.nsIn K mainGlobals "has" = some (some (.ref f19))) (l19 : K.lookup f19 = some ⟨oc19, od19, .func (PySem.W.fnOf "has" "has" (defArgs s19) (defBody s19) (defScope s19) .none kV19 dc19 pm19 an19 cd19 ct19), sl19⟩) (c19 : PySem.W.codeIn K cd19 "has" = true) (k19 : PySem.W.keepIn K (.ref f19) = true)
    {f20 : Addr} {od20 an20 : Option Addr} {sl20 : Array (Option Value)} {oc20 kV20 dc20 pm20 cd20 ct20 : Value}
    (a20 : PySem.W.nsIn K mainGlobals "is_worth" = some (some (.ref f20))) (l20 : K.lookup f20 = some ⟨oc20, od20, .func (PySem.W.fnOf "is_worth" "is_worth" (defArgs s20) (defBody s20) (defScope s20) .none kV20 dc20 pm20 an20 cd20 ct20), sl20⟩) (c20 : PySem.W.codeIn K cd20 "is_worth" = true) (k20 : PySem.W.keepIn K (.ref f20) = true)
    {f38 : Addr} {od38 an38 : Option Addr} {sl38 : Array (Option Value)} {oc38 kV38 dc38 pm38 cd38 ct38 : Value}
    (a38 : PySem.W.nsIn K mainGlobals "look_worth" = some (some (.ref f38))) (l38 : K.lookup f38 = some ⟨oc38, od38, .func (PySem.W.fnOf "look_worth" "look_worth" (defArgs s38) (defBody s38) (defScope s38) .none kV38 dc38 pm38 an38 cd38 ct38), sl38⟩) (c38 : PySem.W.codeIn K cd38 "look_worth" = true) (k38 : PySem.W.keepIn K (.ref f38) = true)
    {f43 : Addr} {od43 an43 : Option Addr} {sl43 : Array (Option Value)} {oc43 kV43 dc43 pm43 cd43 ct43 : Value}
    (a43 : PySem.W.nsIn K mainGlobals "count" = some (some (.ref f43))) (l43 : K.lookup f43 = some ⟨oc43, od43, .func (PySem.W.fnOf "count" "count" (defArgs s43) (defBody s43) (defScope s43) .none kV43 dc43 pm43 an43 cd43 ct43), sl43⟩) (c43 : PySem.W.codeIn K cd43 "count" = true) (k43 : PySem.W.keepIn K (.ref f43) = true)
    {f44 : Addr} {od44 an44 : Option Addr} {sl44 : Array (Option Value)} {oc44 kV44 dc44 pm44 cd44 ct44 : Value}
    (a44 : PySem.W.nsIn K mainGlobals "power" = some (some (.ref f44))) (l44 : K.lookup f44 = some ⟨oc44, od44, .func (PySem.W.fnOf "power" "power" (defArgs s44) (defBody s44) (defScope s44) .none kV44 dc44 pm44 an44 cd44 ct44), sl44⟩) (c44 : PySem.W.codeIn K cd44 "power" = true) (k44 : PySem.W.keepIn K (.ref f44) = true)
    {f45 : Addr} {od45 an45 : Option Addr} {sl45 : Array (Option Value)} {oc45 kV45 dc45 pm45 cd45 ct45 : Value}
    (a45 : PySem.W.nsIn K mainGlobals "how_many" = some (some (.ref f45))) (l45 : K.lookup f45 = some ⟨oc45, od45, .func (PySem.W.fnOf "how_many" "how_many" (defArgs s45) (defBody s45) (defScope s45) .none kV45 dc45 pm45 an45 cd45 ct45), sl45⟩) (c45 : PySem.W.codeIn K cd45 "how_many" = true) (k45 : PySem.W.keepIn K (.ref f45) = true)
    {f46 : Addr} {od46 an46 : Option Addr} {sl46 : Array (Option Value)} {oc46 kV46 dc46 pm46 cd46 ct46 : Value}
    (a46 : PySem.W.nsIn K mainGlobals "of_number" = some (some (.ref f46))) (l46 : K.lookup f46 = some ⟨oc46, od46, .func (PySem.W.fnOf "of_number" "of_number" (defArgs s46) (defBody s46) (defScope s46) .none kV46 dc46 pm46 an46 cd46 ct46), sl46⟩) (c46 : PySem.W.codeIn K cd46 "of_number" = true) (k46 : PySem.W.keepIn K (.ref f46) = true)
    {f47 : Addr} {od47 an47 : Option Addr} {sl47 : Array (Option Value)} {oc47 kV47 dc47 pm47 cd47 ct47 : Value}
    (a47 : PySem.W.nsIn K mainGlobals "parts_of" = some (some (.ref f47))) (l47 : K.lookup f47 = some ⟨oc47, od47, .func (PySem.W.fnOf "parts_of" "parts_of" (defArgs s47) (defBody s47) (defScope s47) .none kV47 dc47 pm47 an47 cd47 ct47), sl47⟩) (c47 : PySem.W.codeIn K cd47 "parts_of" = true) (k47 : PySem.W.keepIn K (.ref f47) = true)
    {f48 : Addr} {od48 an48 : Option Addr} {sl48 : Array (Option Value)} {oc48 kV48 dc48 pm48 cd48 ct48 : Value}
    (a48 : PySem.W.nsIn K mainGlobals "all_worths" = some (some (.ref f48))) (l48 : K.lookup f48 = some ⟨oc48, od48, .func (PySem.W.fnOf "all_worths" "all_worths" (defArgs s48) (defBody s48) (defScope s48) .none kV48 dc48 pm48 an48 cd48 ct48), sl48⟩) (c48 : PySem.W.codeIn K cd48 "all_worths" = true) (k48 : PySem.W.keepIn K (.ref f48) = true)
    {f55 : Addr} {od55 an55 : Option Addr} {sl55 : Array (Option Value)} {oc55 kV55 dc55 pm55 cd55 ct55 : Value}
    (a55 : PySem.W.nsIn K mainGlobals "divisor" = some (some (.ref f55))) (l55 : K.lookup f55 = some ⟨oc55, od55, .func (PySem.W.fnOf "divisor" "divisor" (defArgs s55) (defBody s55) (defScope s55) .none kV55 dc55 pm55 an55 cd55 ct55), sl55⟩) (c55 : PySem.W.codeIn K cd55 "divisor" = true) (k55 : PySem.W.keepIn K (.ref f55) = true)
    {f56 : Addr} {od56 an56 : Option Addr} {sl56 : Array (Option Value)} {oc56 kV56 dc56 pm56 cd56 ct56 : Value}
    (a56 : PySem.W.nsIn K mainGlobals "share" = some (some (.ref f56))) (l56 : K.lookup f56 = some ⟨oc56, od56, .func (PySem.W.fnOf "share" "share" (defArgs s56) (defBody s56) (defScope s56) .none kV56 dc56 pm56 an56 cd56 ct56), sl56⟩) (c56 : PySem.W.codeIn K cd56 "share" = true) (k56 : PySem.W.keepIn K (.ref f56) = true)
    {f57 : Addr} {od57 an57 : Option Addr} {sl57 : Array (Option Value)} {oc57 kV57 dc57 pm57 cd57 ct57 : Value}
    (a57 : PySem.W.nsIn K mainGlobals "times" = some (some (.ref f57))) (l57 : K.lookup f57 = some ⟨oc57, od57, .func (PySem.W.fnOf "times" "times" (defArgs s57) (defBody s57) (defScope s57) .none kV57 dc57 pm57 an57 cd57 ct57), sl57⟩) (c57 : PySem.W.codeIn K cd57 "times" = true) (k57 : PySem.W.keepIn K (.ref f57) = true)
    {f58 : Addr} {od58 an58 : Option Addr} {sl58 : Array (Option Value)} {oc58 kV58 dc58 pm58 cd58 ct58 : Value}
    (a58 : PySem.W.nsIn K mainGlobals "plus" = some (some (.ref f58))) (l58 : K.lookup f58 = some ⟨oc58, od58, .func (PySem.W.fnOf "plus" "plus" (defArgs s58) (defBody s58) (defScope s58) .none kV58 dc58 pm58 an58 cd58 ct58), sl58⟩) (c58 : PySem.W.codeIn K cd58 "plus" = true) (k58 : PySem.W.keepIn K (.ref f58) = true)
    {f59 : Addr} {od59 an59 : Option Addr} {sl59 : Array (Option Value)} {oc59 kV59 dc59 pm59 cd59 ct59 : Value}
    (a59 : PySem.W.nsIn K mainGlobals "share_in" = some (some (.ref f59))) (l59 : K.lookup f59 = some ⟨oc59, od59, .func (PySem.W.fnOf "share_in" "share_in" (defArgs s59) (defBody s59) (defScope s59) .none kV59 dc59 pm59 an59 cd59 ct59), sl59⟩) (c59 : PySem.W.codeIn K cd59 "share_in" = true) (k59 : PySem.W.keepIn K (.ref f59) = true)
    {f85 : Addr} {od85 an85 : Option Addr} {sl85 : Array (Option Value)} {oc85 kV85 dc85 pm85 cd85 ct85 : Value}
    (a85 : PySem.W.nsIn K mainGlobals "is_rule_in" = some (some (.ref f85))) (l85 : K.lookup f85 = some ⟨oc85, od85, .func (PySem.W.fnOf "is_rule_in" "is_rule_in" (defArgs s85) (defBody s85) (defScope s85) .none kV85 dc85 pm85 an85 cd85 ct85), sl85⟩) (c85 : PySem.W.codeIn K cd85 "is_rule_in" = true) (k85 : PySem.W.keepIn K (.ref f85) = true)
    {f86 : Addr} {od86 an86 : Option Addr} {sl86 : Array (Option Value)} {oc86 kV86 dc86 pm86 cd86 ct86 : Value}
    (a86 : PySem.W.nsIn K mainGlobals "is_rule" = some (some (.ref f86))) (l86 : K.lookup f86 = some ⟨oc86, od86, .func (PySem.W.fnOf "is_rule" "is_rule" (defArgs s86) (defBody s86) (defScope s86) .none kV86 dc86 pm86 an86 cd86 ct86), sl86⟩) (c86 : PySem.W.codeIn K cd86 "is_rule" = true) (k86 : PySem.W.keepIn K (.ref f86) = true)
    {f87 : Addr} {od87 an87 : Option Addr} {sl87 : Array (Option Value)} {oc87 kV87 dc87 pm87 cd87 ct87 : Value}
    (a87 : PySem.W.nsIn K mainGlobals "look_rule" = some (some (.ref f87))) (l87 : K.lookup f87 = some ⟨oc87, od87, .func (PySem.W.fnOf "look_rule" "look_rule" (defArgs s87) (defBody s87) (defScope s87) .none kV87 dc87 pm87 an87 cd87 ct87), sl87⟩) (c87 : PySem.W.codeIn K cd87 "look_rule" = true) (k87 : PySem.W.keepIn K (.ref f87) = true)
    {f88 : Addr} {od88 an88 : Option Addr} {sl88 : Array (Option Value)} {oc88 kV88 dc88 pm88 cd88 ct88 : Value}
    (a88 : PySem.W.nsIn K mainGlobals "leaves" = some (some (.ref f88))) (l88 : K.lookup f88 = some ⟨oc88, od88, .func (PySem.W.fnOf "leaves" "leaves" (defArgs s88) (defBody s88) (defScope s88) .none kV88 dc88 pm88 an88 cd88 ct88), sl88⟩) (c88 : PySem.W.codeIn K cd88 "leaves" = true) (k88 : PySem.W.keepIn K (.ref f88) = true)
    {f89 : Addr} {od89 an89 : Option Addr} {sl89 : Array (Option Value)} {oc89 kV89 dc89 pm89 cd89 ct89 : Value}
    (a89 : PySem.W.nsIn K mainGlobals "numbers_in" = some (some (.ref f89))) (l89 : K.lookup f89 = some ⟨oc89, od89, .func (PySem.W.fnOf "numbers_in" "numbers_in" (defArgs s89) (defBody s89) (defScope s89) .none kV89 dc89 pm89 an89 cd89 ct89), sl89⟩) (c89 : PySem.W.codeIn K cd89 "numbers_in" = true) (k89 : PySem.W.keepIn K (.ref f89) = true)
    {f90 : Addr} {od90 an90 : Option Addr} {sl90 : Array (Option Value)} {oc90 kV90 dc90 pm90 cd90 ct90 : Value}
    (a90 : PySem.W.nsIn K mainGlobals "parts_in" = some (some (.ref f90))) (l90 : K.lookup f90 = some ⟨oc90, od90, .func (PySem.W.fnOf "parts_in" "parts_in" (defArgs s90) (defBody s90) (defScope s90) .none kV90 dc90 pm90 an90 cd90 ct90), sl90⟩) (c90 : PySem.W.codeIn K cd90 "parts_in" = true) (k90 : PySem.W.keepIn K (.ref f90) = true)
    {f91 : Addr} {od91 an91 : Option Addr} {sl91 : Array (Option Value)} {oc91 kV91 dc91 pm91 cd91 ct91 : Value}
    (a91 : PySem.W.nsIn K mainGlobals "does_keep" = some (some (.ref f91))) (l91 : K.lookup f91 = some ⟨oc91, od91, .func (PySem.W.fnOf "does_keep" "does_keep" (defArgs s91) (defBody s91) (defScope s91) .none kV91 dc91 pm91 an91 cd91 ct91), sl91⟩) (c91 : PySem.W.codeIn K cd91 "does_keep" = true) (k91 : PySem.W.keepIn K (.ref f91) = true)
    {f104 : Addr} {od104 an104 : Option Addr} {sl104 : Array (Option Value)} {oc104 kV104 dc104 pm104 cd104 ct104 : Value}
    (a104 : PySem.W.nsIn K mainGlobals "look_rules" = some (some (.ref f104))) (l104 : K.lookup f104 = some ⟨oc104, od104, .func (PySem.W.fnOf "look_rules" "look_rules" (defArgs s104) (defBody s104) (defScope s104) .none kV104 dc104 pm104 an104 cd104 ct104), sl104⟩) (c104 : PySem.W.codeIn K cd104 "look_rules" = true) (k104 : PySem.W.keepIn K (.ref f104) = true)
    {f105 : Addr} {od105 an105 : Option Addr} {sl105 : Array (Option Value)} {oc105 kV105 dc105 pm105 cd105 ct105 : Value}
    (a105 : PySem.W.nsIn K mainGlobals "implies" = some (some (.ref f105))) (l105 : K.lookup f105 = some ⟨oc105, od105, .func (PySem.W.fnOf "implies" "implies" (defArgs s105) (defBody s105) (defScope s105) .none kV105 dc105 pm105 an105 cd105 ct105), sl105⟩) (c105 : PySem.W.codeIn K cd105 "implies" = true) (k105 : PySem.W.keepIn K (.ref f105) = true)
    {f106 : Addr} {od106 an106 : Option Addr} {sl106 : Array (Option Value)} {oc106 kV106 dc106 pm106 cd106 ct106 : Value}
    (a106 : PySem.W.nsIn K mainGlobals "alike_on" = some (some (.ref f106))) (l106 : K.lookup f106 = some ⟨oc106, od106, .func (PySem.W.fnOf "alike_on" "alike_on" (defArgs s106) (defBody s106) (defScope s106) .none kV106 dc106 pm106 an106 cd106 ct106), sl106⟩) (c106 : PySem.W.codeIn K cd106 "alike_on" = true) (k106 : PySem.W.keepIn K (.ref f106) = true)
    {f108 : Addr} {od108 an108 : Option Addr} {sl108 : Array (Option Value)} {oc108 kV108 dc108 pm108 cd108 ct108 : Value}
    (a108 : PySem.W.nsIn K mainGlobals "tally" = some (some (.ref f108))) (l108 : K.lookup f108 = some ⟨oc108, od108, .func (PySem.W.fnOf "tally" "tally" (defArgs s108) (defBody s108) (defScope s108) .none kV108 dc108 pm108 an108 cd108 ct108), sl108⟩) (c108 : PySem.W.codeIn K cd108 "tally" = true) (k108 : PySem.W.keepIn K (.ref f108) = true)
    {f109 : Addr} {od109 an109 : Option Addr} {sl109 : Array (Option Value)} {oc109 kV109 dc109 pm109 cd109 ct109 : Value}
    (a109 : PySem.W.nsIn K mainGlobals "tightest" = some (some (.ref f109))) (l109 : K.lookup f109 = some ⟨oc109, od109, .func (PySem.W.fnOf "tightest" "tightest" (defArgs s109) (defBody s109) (defScope s109) .none kV109 dc109 pm109 an109 cd109 ct109), sl109⟩) (c109 : PySem.W.codeIn K cd109 "tightest" = true) (k109 : PySem.W.keepIn K (.ref f109) = true)
    {f110 : Addr} {od110 an110 : Option Addr} {sl110 : Array (Option Value)} {oc110 kV110 dc110 pm110 cd110 ct110 : Value}
    (a110 : PySem.W.nsIn K mainGlobals "parted" = some (some (.ref f110))) (l110 : K.lookup f110 = some ⟨oc110, od110, .func (PySem.W.fnOf "parted" "parted" (defArgs s110) (defBody s110) (defScope s110) .none kV110 dc110 pm110 an110 cd110 ct110), sl110⟩) (c110 : PySem.W.codeIn K cd110 "parted" = true) (k110 : PySem.W.keepIn K (.ref f110) = true)
    {f29 : Addr} {od29 an29 : Option Addr} {sl29 : Array (Option Value)} {oc29 kV29 dc29 pm29 cd29 ct29 : Value}
    (a29 : PySem.W.nsIn K mainGlobals "depth_of" = some (some (.ref f29))) (l29 : K.lookup f29 = some ⟨oc29, od29, .func (PySem.W.fnOf "depth_of" "depth_of" (defArgs s29) (defBody s29) (defScope s29) .none kV29 dc29 pm29 an29 cd29 ct29), sl29⟩) (c29 : PySem.W.codeIn K cd29 "depth_of" = true) (k29 : PySem.W.keepIn K (.ref f29) = true)
    {f30 : Addr} {od30 an30 : Option Addr} {sl30 : Array (Option Value)} {oc30 kV30 dc30 pm30 cd30 ct30 : Value}
    (a30 : PySem.W.nsIn K mainGlobals "depth" = some (some (.ref f30))) (l30 : K.lookup f30 = some ⟨oc30, od30, .func (PySem.W.fnOf "depth" "depth" (defArgs s30) (defBody s30) (defScope s30) .none kV30 dc30 pm30 an30 cd30 ct30), sl30⟩) (c30 : PySem.W.codeIn K cd30 "depth" = true) (k30 : PySem.W.keepIn K (.ref f30) = true)
    {f31 : Addr} {od31 an31 : Option Addr} {sl31 : Array (Option Value)} {oc31 kV31 dc31 pm31 cd31 ct31 : Value}
    (a31 : PySem.W.nsIn K mainGlobals "words_of" = some (some (.ref f31))) (l31 : K.lookup f31 = some ⟨oc31, od31, .func (PySem.W.fnOf "words_of" "words_of" (defArgs s31) (defBody s31) (defScope s31) .none kV31 dc31 pm31 an31 cd31 ct31), sl31⟩) (c31 : PySem.W.codeIn K cd31 "words_of" = true) (k31 : PySem.W.keepIn K (.ref f31) = true)
    {f32 : Addr} {od32 an32 : Option Addr} {sl32 : Array (Option Value)} {oc32 kV32 dc32 pm32 cd32 ct32 : Value}
    (a32 : PySem.W.nsIn K mainGlobals "words_in" = some (some (.ref f32))) (l32 : K.lookup f32 = some ⟨oc32, od32, .func (PySem.W.fnOf "words_in" "words_in" (defArgs s32) (defBody s32) (defScope s32) .none kV32 dc32 pm32 an32 cd32 ct32), sl32⟩) (c32 : PySem.W.codeIn K cd32 "words_in" = true) (k32 : PySem.W.keepIn K (.ref f32) = true)
    {f33 : Addr} {od33 an33 : Option Addr} {sl33 : Array (Option Value)} {oc33 kV33 dc33 pm33 cd33 ct33 : Value}
    (a33 : PySem.W.nsIn K mainGlobals "reach_of" = some (some (.ref f33))) (l33 : K.lookup f33 = some ⟨oc33, od33, .func (PySem.W.fnOf "reach_of" "reach_of" (defArgs s33) (defBody s33) (defScope s33) .none kV33 dc33 pm33 an33 cd33 ct33), sl33⟩) (c33 : PySem.W.codeIn K cd33 "reach_of" = true) (k33 : PySem.W.keepIn K (.ref f33) = true)
    {f34 : Addr} {od34 an34 : Option Addr} {sl34 : Array (Option Value)} {oc34 kV34 dc34 pm34 cd34 ct34 : Value}
    (a34 : PySem.W.nsIn K mainGlobals "reach" = some (some (.ref f34))) (l34 : K.lookup f34 = some ⟨oc34, od34, .func (PySem.W.fnOf "reach" "reach" (defArgs s34) (defBody s34) (defScope s34) .none kV34 dc34 pm34 an34 cd34 ct34), sl34⟩) (c34 : PySem.W.codeIn K cd34 "reach" = true) (k34 : PySem.W.keepIn K (.ref f34) = true)
    {f39 : Addr} {od39 an39 : Option Addr} {sl39 : Array (Option Value)} {oc39 kV39 dc39 pm39 cd39 ct39 : Value}
    (a39 : PySem.W.nsIn K mainGlobals "mirrored_kind" = some (some (.ref f39))) (l39 : K.lookup f39 = some ⟨oc39, od39, .func (PySem.W.fnOf "mirrored_kind" "mirrored_kind" (defArgs s39) (defBody s39) (defScope s39) .none kV39 dc39 pm39 an39 cd39 ct39), sl39⟩) (c39 : PySem.W.codeIn K cd39 "mirrored_kind" = true) (k39 : PySem.W.keepIn K (.ref f39) = true)
    {f40 : Addr} {od40 an40 : Option Addr} {sl40 : Array (Option Value)} {oc40 kV40 dc40 pm40 cd40 ct40 : Value}
    (a40 : PySem.W.nsIn K mainGlobals "mirrored" = some (some (.ref f40))) (l40 : K.lookup f40 = some ⟨oc40, od40, .func (PySem.W.fnOf "mirrored" "mirrored" (defArgs s40) (defBody s40) (defScope s40) .none kV40 dc40 pm40 an40 cd40 ct40), sl40⟩) (c40 : PySem.W.codeIn K cd40 "mirrored" = true) (k40 : PySem.W.keepIn K (.ref f40) = true)
    {f41 : Addr} {od41 an41 : Option Addr} {sl41 : Array (Option Value)} {oc41 kV41 dc41 pm41 cd41 ct41 : Value}
    (a41 : PySem.W.nsIn K mainGlobals "mirrored_in" = some (some (.ref f41))) (l41 : K.lookup f41 = some ⟨oc41, od41, .func (PySem.W.fnOf "mirrored_in" "mirrored_in" (defArgs s41) (defBody s41) (defScope s41) .none kV41 dc41 pm41 an41 cd41 ct41), sl41⟩) (c41 : PySem.W.codeIn K cd41 "mirrored_in" = true) (k41 : PySem.W.keepIn K (.ref f41) = true)
    {f42 : Addr} {od42 an42 : Option Addr} {sl42 : Array (Option Value)} {oc42 kV42 dc42 pm42 cd42 ct42 : Value}
    (a42 : PySem.W.nsIn K mainGlobals "mirrored_worth" = some (some (.ref f42))) (l42 : K.lookup f42 = some ⟨oc42, od42, .func (PySem.W.fnOf "mirrored_worth" "mirrored_worth" (defArgs s42) (defBody s42) (defScope s42) .none kV42 dc42 pm42 an42 cd42 ct42), sl42⟩) (c42 : PySem.W.codeIn K cd42 "mirrored_worth" = true) (k42 : PySem.W.keepIn K (.ref f42) = true)
    {f5 : Addr} {od5 an5 : Option Addr} {sl5 : Array (Option Value)} {oc5 kV5 dc5 pm5 cd5 ct5 : Value}
    (a5 : PySem.W.nsIn K mainGlobals "_law_cell" = some (some (.ref f5))) (l5 : K.lookup f5 = some ⟨oc5, od5, .func (PySem.W.fnOf "_law_cell" "_law_cell" (defArgs s5) (defBody s5) (defScope s5) .none kV5 dc5 pm5 an5 cd5 ct5), sl5⟩) (c5 : PySem.W.codeIn K cd5 "_law_cell" = true) (k5 : PySem.W.keepIn K (.ref f5) = true)
    {f6 : Addr} {od6 an6 : Option Addr} {sl6 : Array (Option Value)} {oc6 kV6 dc6 pm6 cd6 ct6 : Value}
    (a6 : PySem.W.nsIn K mainGlobals "_law_pick" = some (some (.ref f6))) (l6 : K.lookup f6 = some ⟨oc6, od6, .func (PySem.W.fnOf "_law_pick" "_law_pick" (defArgs s6) (defBody s6) (defScope s6) .none kV6 dc6 pm6 an6 cd6 ct6), sl6⟩) (c6 : PySem.W.codeIn K cd6 "_law_pick" = true) (k6 : PySem.W.keepIn K (.ref f6) = true)
    {f112 : Addr} {od112 an112 : Option Addr} {sl112 : Array (Option Value)} {oc112 kV112 dc112 pm112 cd112 ct112 : Value}
    (a112 : PySem.W.nsIn K mainGlobals "_law_class" = some (some (.ref f112))) (l112 : K.lookup f112 = some ⟨oc112, od112, .func (PySem.W.fnOf "_law_class" "_law_class" (defArgs s112) (defBody s112) (defScope s112) .none kV112 dc112 pm112 an112 cd112 ct112), sl112⟩) (c112 : PySem.W.codeIn K cd112 "_law_class" = true) (k112 : PySem.W.keepIn K (.ref f112) = true)
    {f113 : Addr} {od113 an113 : Option Addr} {sl113 : Array (Option Value)} {oc113 kV113 dc113 pm113 cd113 ct113 : Value}
    (a113 : PySem.W.nsIn K mainGlobals "law" = some (some (.ref f113))) (l113 : K.lookup f113 = some ⟨oc113, od113, .func (PySem.W.fnOf "law" "law" (defArgs s113) (defBody s113) (defScope s113) .none kV113 dc113 pm113 an113 cd113 ct113), sl113⟩) (c113 : PySem.W.codeIn K cd113 "law" = true) (k113 : PySem.W.keepIn K (.ref f113) = true)
    {f90000 : Addr} {od90000 an90000 : Option Addr} {sl90000 : Array (Option Value)} {oc90000 kV90000 dc90000 pm90000 cd90000 ct90000 : Value}
    (a90000 : PySem.W.nsIn K mainGlobals "_law_told" = some (some (.ref f90000))) (l90000 : K.lookup f90000 = some ⟨oc90000, od90000, .func (PySem.W.fnOf "_law_told" "_law_told" (defArgs s90000) (defBody s90000) (defScope s90000) .none kV90000 dc90000 pm90000 an90000 cd90000 ct90000), sl90000⟩) (c90000 : PySem.W.codeIn K cd90000 "_law_told" = true) (k90000 : PySem.W.keepIn K (.ref f90000) = true)
    (tt : tabB K = true)
    (z0 : PySem.W.nsIn K mainGlobals "len" = some none)
    (z1 : PySem.W.nsIn K mainGlobals "all" = some none)
    (z2 : PySem.W.nsIn K mainGlobals "sum" = some none)
    (z3 : PySem.W.nsIn K mainGlobals "tuple" = some none)
    (z4 : PySem.W.nsIn K mainGlobals "list" = some none)
    (z5 : PySem.W.nsIn K mainGlobals "int" = some none)
    (z6 : PySem.W.nsIn K mainGlobals "str" = some none)
    (z7 : PySem.W.nsIn K mainGlobals "abs" = some none)
    (z8 : PySem.W.nsIn K mainGlobals "max" = some none)
    (z9 : PySem.W.nsIn K mainGlobals "min" = some none)
    (z10 : PySem.W.nsIn K mainGlobals "sorted" = some none)
    (z11 : PySem.W.nsIn K mainGlobals "set" = some none)
    (z12 : PySem.W.nsIn K mainGlobals "range" = some none)
    (z13 : PySem.W.nsIn K mainGlobals "zip" = some none)
    (z14 : PySem.W.nsIn K mainGlobals "enumerate" = some none)
    (z15 : PySem.W.nsIn K mainGlobals "isinstance" = some none)
    (z16 : PySem.W.nsIn K mainGlobals "bool" = some none)
    (z17 : PySem.W.nsIn K mainGlobals "ValueError" = some none)
    {t0 : Tok} (v0 : PySem.W.nsIn K mainGlobals "DEEPEST_kinds" = some (some (.int 3 t0)))
    {t1 : Tok} (v1 : PySem.W.nsIn K mainGlobals "DEEPEST_rules" = some (some (.int 3 t1)))
    {t2 : Tok} (v2 : PySem.W.nsIn K mainGlobals "FARTHEST" = some (some (.int 50 t2)))
    {t3 : Tok} (v3 : PySem.W.nsIn K mainGlobals "GREATEST" = some (some (.int 20 t3)))
    {t4 : Tok} (v4 : PySem.W.nsIn K mainGlobals "LONGEST" = some (some (.int 3 t4)))
    {t5 : Tok} (v5 : PySem.W.nsIn K mainGlobals "MOST_CHOICES" = some (some (.int 4 t5)))
    {t6 : Tok} (v6 : PySem.W.nsIn K mainGlobals "MOST_PARTS" = some (some (.int 3 t6)))
    {t7 : Tok} (v7 : PySem.W.nsIn K mainGlobals "MOST_WORTHS" = some (some (.int 500 t7)))
    {t8 : Tok} (v8 : PySem.W.nsIn K mainGlobals "SMALL" = some (some (.str "abcdefghijklmnopqrstuvwxyz" t8)))
    {C0 : Addr} {bm0 : List Value} {B0 nw0 ii0 : String} (xf0 : PySem.ExcBaseFacts B0 nw0 ii0 bm0) (xa0 : PySem.W.nsIn K mainGlobals "NoKind" = some (some (.ref C0))) (xe0 : PySem.W.excIn K C0 bm0 nw0 = true) (xk0 : PySem.W.keepIn K (.ref C0) = true) (xs0 : PySem.W.subIn K (.ref C0) (.type "BaseException") = some true) (xt0 : PySem.W.typeIn K (.ref C0) = some (.type "type"))
    {C1 : Addr} {bm1 : List Value} {B1 nw1 ii1 : String} (xf1 : PySem.ExcBaseFacts B1 nw1 ii1 bm1) (xa1 : PySem.W.nsIn K mainGlobals "NoRule" = some (some (.ref C1))) (xe1 : PySem.W.excIn K C1 bm1 nw1 = true) (xk1 : PySem.W.keepIn K (.ref C1) = true) (xs1 : PySem.W.subIn K (.ref C1) (.type "BaseException") = some true) (xt1 : PySem.W.typeIn K (.ref C1) = some (.type "type"))
    {C2 : Addr} {bm2 : List Value} {B2 nw2 ii2 : String} (xf2 : PySem.ExcBaseFacts B2 nw2 ii2 bm2) (xa2 : PySem.W.nsIn K mainGlobals "NoWorth" = some (some (.ref C2))) (xe2 : PySem.W.excIn K C2 bm2 nw2 = true) (xk2 : PySem.W.keepIn K (.ref C2) = true) (xs2 : PySem.W.subIn K (.ref C2) (.type "BaseException") = some true) (xt2 : PySem.W.typeIn K (.ref C2) = some (.type "type"))
    {C3 : Addr} {bm3 : List Value} {B3 nw3 ii3 : String} (xf3 : PySem.ExcBaseFacts B3 nw3 ii3 bm3) (xa3 : PySem.W.nsIn K mainGlobals "TooMany" = some (some (.ref C3))) (xe3 : PySem.W.excIn K C3 bm3 nw3 = true) (xk3 : PySem.W.keepIn K (.ref C3) = true) (xs3 : PySem.W.subIn K (.ref C3) (.type "BaseException") = some true) (xt3 : PySem.W.typeIn K (.ref C3) = some (.type "type"))
    {A0 : Addr} (ya0 : PySem.W.nsIn K mainGlobals "WorthError" = some (some (.ref A0))) (yt0 : PySem.W.typeIn K (.ref A0) = some (.type "type")) (yd0 : PySem.W.hasDictIn K A0 = true) (yr0 : PySem.W.subIn K (.ref A0) (.ref A0) = some true)
    {A1 : Addr} (ya1 : PySem.W.nsIn K mainGlobals "NoKind" = some (some (.ref A1))) (yt1 : PySem.W.typeIn K (.ref A1) = some (.type "type")) (yd1 : PySem.W.hasDictIn K A1 = true) (yr1 : PySem.W.subIn K (.ref A1) (.ref A1) = some true)
    {A2 : Addr} (ya2 : PySem.W.nsIn K mainGlobals "NoWorth" = some (some (.ref A2))) (yt2 : PySem.W.typeIn K (.ref A2) = some (.type "type")) (yd2 : PySem.W.hasDictIn K A2 = true) (yr2 : PySem.W.subIn K (.ref A2) (.ref A2) = some true)
    {A3 : Addr} (ya3 : PySem.W.nsIn K mainGlobals "NoRule" = some (some (.ref A3))) (yt3 : PySem.W.typeIn K (.ref A3) = some (.type "type")) (yd3 : PySem.W.hasDictIn K A3 = true) (yr3 : PySem.W.subIn K (.ref A3) (.ref A3) = some true)
    {A4 : Addr} (ya4 : PySem.W.nsIn K mainGlobals "TooMany" = some (some (.ref A4))) (yt4 : PySem.W.typeIn K (.ref A4) = some (.type "type")) (yd4 : PySem.W.hasDictIn K A4 = true) (yr4 : PySem.W.subIn K (.ref A4) (.ref A4) = some true)
    {A5 : Addr} (ya5 : PySem.W.nsIn K mainGlobals "Ended" = some (some (.ref A5))) (yt5 : PySem.W.typeIn K (.ref A5) = some (.type "type")) (yd5 : PySem.W.hasDictIn K A5 = true) (yr5 : PySem.W.subIn K (.ref A5) (.ref A5) = some true)
    {A6 : Addr} (ya6 : PySem.W.nsIn K mainGlobals "NoText" = some (some (.ref A6))) (yt6 : PySem.W.typeIn K (.ref A6) = some (.type "type")) (yd6 : PySem.W.hasDictIn K A6 = true) (yr6 : PySem.W.subIn K (.ref A6) (.ref A6) = some true)
    {A7 : Addr} (ya7 : PySem.W.nsIn K mainGlobals "NoBack" = some (some (.ref A7))) (yt7 : PySem.W.typeIn K (.ref A7) = some (.type "type")) (yd7 : PySem.W.hasDictIn K A7 = true) (yr7 : PySem.W.subIn K (.ref A7) (.ref A7) = some true)
    (yb0 : PySem.W.subIn K (.ref A0) (.type "BaseException") = some true)
    (xc0 : ExcC K C0) (xv0 : PySem.W.subIn K (.ref C0) (.type "ValueError") = some true)
    (kk0_0 : PySem.W.subIn K (.ref C0) (.ref A0) = some true)
    (kk0_1 : PySem.W.subIn K (.ref C0) (.ref A1) = some true)
    (kk0_2 : PySem.W.subIn K (.ref C0) (.ref A2) = some false)
    (kk0_3 : PySem.W.subIn K (.ref C0) (.ref A3) = some false)
    (kk0_4 : PySem.W.subIn K (.ref C0) (.ref A4) = some false)
    (kk0_5 : PySem.W.subIn K (.ref C0) (.ref A5) = some false)
    (kk0_6 : PySem.W.subIn K (.ref C0) (.ref A6) = some false)
    (kk0_7 : PySem.W.subIn K (.ref C0) (.ref A7) = some false)
    (xc1 : ExcC K C1) (xv1 : PySem.W.subIn K (.ref C1) (.type "ValueError") = some true)
    (kk1_0 : PySem.W.subIn K (.ref C1) (.ref A0) = some true)
    (kk1_1 : PySem.W.subIn K (.ref C1) (.ref A1) = some false)
    (kk1_2 : PySem.W.subIn K (.ref C1) (.ref A2) = some false)
    (kk1_3 : PySem.W.subIn K (.ref C1) (.ref A3) = some true)
    (kk1_4 : PySem.W.subIn K (.ref C1) (.ref A4) = some false)
    (kk1_5 : PySem.W.subIn K (.ref C1) (.ref A5) = some false)
    (kk1_6 : PySem.W.subIn K (.ref C1) (.ref A6) = some false)
    (kk1_7 : PySem.W.subIn K (.ref C1) (.ref A7) = some false)
    (xc2 : ExcC K C2) (xv2 : PySem.W.subIn K (.ref C2) (.type "ValueError") = some true)
    (kk2_0 : PySem.W.subIn K (.ref C2) (.ref A0) = some true)
    (kk2_1 : PySem.W.subIn K (.ref C2) (.ref A1) = some false)
    (kk2_2 : PySem.W.subIn K (.ref C2) (.ref A2) = some true)
    (kk2_3 : PySem.W.subIn K (.ref C2) (.ref A3) = some false)
    (kk2_4 : PySem.W.subIn K (.ref C2) (.ref A4) = some false)
    (kk2_5 : PySem.W.subIn K (.ref C2) (.ref A5) = some false)
    (kk2_6 : PySem.W.subIn K (.ref C2) (.ref A6) = some false)
    (kk2_7 : PySem.W.subIn K (.ref C2) (.ref A7) = some false)
    (xc3 : ExcC K C3) (xv3 : PySem.W.subIn K (.ref C3) (.type "ValueError") = some true)
    (kk3_0 : PySem.W.subIn K (.ref C3) (.ref A0) = some true)
    (kk3_1 : PySem.W.subIn K (.ref C3) (.ref A1) = some false)
    (kk3_2 : PySem.W.subIn K (.ref C3) (.ref A2) = some false)
    (kk3_3 : PySem.W.subIn K (.ref C3) (.ref A3) = some false)
    (kk3_4 : PySem.W.subIn K (.ref C3) (.ref A4) = some true)
    (kk3_5 : PySem.W.subIn K (.ref C3) (.ref A5) = some false)
    (kk3_6 : PySem.W.subIn K (.ref C3) (.ref A6) = some false)
    (kk3_7 : PySem.W.subIn K (.ref C3) (.ref A7) = some false)
    : (WdOk K mg (clsV clsN K) txt.W ∧ (∀ f ∈ txt.W.fns, ∃ a fd, DefAt K mg (txt.W.nm f) (txt.qn f) (txt.st f) (txt.ps f) a fd) ∧ (∀ q ∈ txt.td, ∃ a fd, DefAt K mg q.x q.x q.st [q.a] a fd) ∧ ∃ fd, DefAt K mg (txt.W.nm 113) (txt.qn 113) (txt.st 113) (txt.ps 113) fa fd ∧ ∀ (s : Shared) (u : Value), BindsTo s fd ⟨[u], []⟩ [("_law_script", u)]) ∧ PySem.W.nsIn K mainGlobals "law" = some (some (.ref fa)) ∧ ∃ c P, tabOk K c P := by
  have d0 : DefAt K mg "is_whole" "is_whole" s0 ["thing", "low", "high"] f0 _ := def_at X G0 a0 l0 c0 k0 fun _ _ _ _ _ _ us hl => match us, hl with | [_, _, _], _ => rfl
  have d1 : DefAt K mg "is_word" "is_word" s1 ["thing"] f1 _ := def_at X G0 a1 l1 c1 k1 fun _ _ _ _ _ _ us hl => match us, hl with | [_], _ => rfl
  have d2 : DefAt K mg "are_choices" "are_choices" s2 ["thing"] f2 _ := def_at X G0 a2 l2 c2 k2 fun _ _ _ _ _ _ us hl => match us, hl with | [_], _ => rfl
  have d3 : DefAt K mg "is_kind_in" "is_kind_in" s3 ["thing", "deep"] f3 _ := def_at X G0 a3 l3 c3 k3 fun _ _ _ _ _ _ us hl => match us, hl with | [_, _], _ => rfl
  have d4 : DefAt K mg "is_kind" "is_kind" s4 ["thing"] f4 _ := def_at X G0 a4 l4 c4 k4 fun _ _ _ _ _ _ us hl => match us, hl with | [_], _ => rfl
  have d18 : DefAt K mg "look_kind" "look_kind" s18 ["kind"] f18 _ := def_at X G0 a18 l18 c18 k18 fun _ _ _ _ _ _ us hl => match us, hl with | [_], _ => rfl
  have d19 : DefAt K mg "has" "has" s19 ["kind", "worth"] f19 _ := def_at X G0 a19 l19 c19 k19 fun _ _ _ _ _ _ us hl => match us, hl with | [_, _], _ => rfl
  have d20 : DefAt K mg "is_worth" "is_worth" s20 ["kind", "thing"] f20 _ := def_at X G0 a20 l20 c20 k20 fun _ _ _ _ _ _ us hl => match us, hl with | [_, _], _ => rfl
  have d38 : DefAt K mg "look_worth" "look_worth" s38 ["kind", "worth"] f38 _ := def_at X G0 a38 l38 c38 k38 fun _ _ _ _ _ _ us hl => match us, hl with | [_, _], _ => rfl
  have d43 : DefAt K mg "count" "count" s43 ["kind"] f43 _ := def_at X G0 a43 l43 c43 k43 fun _ _ _ _ _ _ us hl => match us, hl with | [_], _ => rfl
  have d44 : DefAt K mg "power" "power" s44 ["number", "many"] f44 _ := def_at X G0 a44 l44 c44 k44 fun _ _ _ _ _ _ us hl => match us, hl with | [_, _], _ => rfl
  have d45 : DefAt K mg "how_many" "how_many" s45 ["kind"] f45 _ := def_at X G0 a45 l45 c45 k45 fun _ _ _ _ _ _ us hl => match us, hl with | [_], _ => rfl
  have d46 : DefAt K mg "of_number" "of_number" s46 ["kind", "number"] f46 _ := def_at X G0 a46 l46 c46 k46 fun _ _ _ _ _ _ us hl => match us, hl with | [_, _], _ => rfl
  have d47 : DefAt K mg "parts_of" "parts_of" s47 ["kinds", "number"] f47 _ := def_at X G0 a47 l47 c47 k47 fun _ _ _ _ _ _ us hl => match us, hl with | [_, _], _ => rfl
  have d48 : DefAt K mg "all_worths" "all_worths" s48 ["kind"] f48 _ := def_at X G0 a48 l48 c48 k48 fun _ _ _ _ _ _ us hl => match us, hl with | [_], _ => rfl
  have d55 : DefAt K mg "divisor" "divisor" s55 ["one", "other"] f55 _ := def_at X G0 a55 l55 c55 k55 fun _ _ _ _ _ _ us hl => match us, hl with | [_, _], _ => rfl
  have d56 : DefAt K mg "share" "share" s56 ["up", "down"] f56 _ := def_at X G0 a56 l56 c56 k56 fun _ _ _ _ _ _ us hl => match us, hl with | [_, _], _ => rfl
  have d57 : DefAt K mg "times" "times" s57 ["one", "other"] f57 _ := def_at X G0 a57 l57 c57 k57 fun _ _ _ _ _ _ us hl => match us, hl with | [_, _], _ => rfl
  have d58 : DefAt K mg "plus" "plus" s58 ["one", "other"] f58 _ := def_at X G0 a58 l58 c58 k58 fun _ _ _ _ _ _ us hl => match us, hl with | [_, _], _ => rfl
  have d59 : DefAt K mg "share_in" "share_in" s59 ["kind", "worth"] f59 _ := def_at X G0 a59 l59 c59 k59 fun _ _ _ _ _ _ us hl => match us, hl with | [_, _], _ => rfl
  have d85 : DefAt K mg "is_rule_in" "is_rule_in" s85 ["thing", "deep"] f85 _ := def_at X G0 a85 l85 c85 k85 fun _ _ _ _ _ _ us hl => match us, hl with | [_, _], _ => rfl
  have d86 : DefAt K mg "is_rule" "is_rule" s86 ["thing"] f86 _ := def_at X G0 a86 l86 c86 k86 fun _ _ _ _ _ _ us hl => match us, hl with | [_], _ => rfl
  have d87 : DefAt K mg "look_rule" "look_rule" s87 ["rule"] f87 _ := def_at X G0 a87 l87 c87 k87 fun _ _ _ _ _ _ us hl => match us, hl with | [_], _ => rfl
  have d88 : DefAt K mg "leaves" "leaves" s88 ["worth"] f88 _ := def_at X G0 a88 l88 c88 k88 fun _ _ _ _ _ _ us hl => match us, hl with | [_], _ => rfl
  have d89 : DefAt K mg "numbers_in" "numbers_in" s89 ["worth"] f89 _ := def_at X G0 a89 l89 c89 k89 fun _ _ _ _ _ _ us hl => match us, hl with | [_], _ => rfl
  have d90 : DefAt K mg "parts_in" "parts_in" s90 ["worth"] f90 _ := def_at X G0 a90 l90 c90 k90 fun _ _ _ _ _ _ us hl => match us, hl with | [_], _ => rfl
  have d91 : DefAt K mg "does_keep" "does_keep" s91 ["rule", "worth"] f91 _ := def_at X G0 a91 l91 c91 k91 fun _ _ _ _ _ _ us hl => match us, hl with | [_, _], _ => rfl
  have d104 : DefAt K mg "look_rules" "look_rules" s104 ["rules"] f104 _ := def_at X G0 a104 l104 c104 k104 fun _ _ _ _ _ _ us hl => match us, hl with | [_], _ => rfl
  have d105 : DefAt K mg "implies" "implies" s105 ["kind", "one", "other"] f105 _ := def_at X G0 a105 l105 c105 k105 fun _ _ _ _ _ _ us hl => match us, hl with | [_, _, _], _ => rfl
  have d106 : DefAt K mg "alike_on" "alike_on" s106 ["kind", "one", "other"] f106 _ := def_at X G0 a106 l106 c106 k106 fun _ _ _ _ _ _ us hl => match us, hl with | [_, _, _], _ => rfl
  have d108 : DefAt K mg "tally" "tally" s108 ["kind", "rules"] f108 _ := def_at X G0 a108 l108 c108 k108 fun _ _ _ _ _ _ us hl => match us, hl with | [_, _], _ => rfl
  have d109 : DefAt K mg "tightest" "tightest" s109 ["kind", "rules"] f109 _ := def_at X G0 a109 l109 c109 k109 fun _ _ _ _ _ _ us hl => match us, hl with | [_, _], _ => rfl
  have d110 : DefAt K mg "parted" "parted" s110 ["kind", "rules"] f110 _ := def_at X G0 a110 l110 c110 k110 fun _ _ _ _ _ _ us hl => match us, hl with | [_, _], _ => rfl
  have d29 : DefAt K mg "depth_of" "depth_of" s29 ["kind"] f29 _ := def_at X G0 a29 l29 c29 k29 fun _ _ _ _ _ _ us hl => match us, hl with | [_], _ => rfl
  have d30 : DefAt K mg "depth" "depth" s30 ["kind"] f30 _ := def_at X G0 a30 l30 c30 k30 fun _ _ _ _ _ _ us hl => match us, hl with | [_], _ => rfl
  have d31 : DefAt K mg "words_of" "words_of" s31 ["kind"] f31 _ := def_at X G0 a31 l31 c31 k31 fun _ _ _ _ _ _ us hl => match us, hl with | [_], _ => rfl
  have d32 : DefAt K mg "words_in" "words_in" s32 ["kind"] f32 _ := def_at X G0 a32 l32 c32 k32 fun _ _ _ _ _ _ us hl => match us, hl with | [_], _ => rfl
  have d33 : DefAt K mg "reach_of" "reach_of" s33 ["kind"] f33 _ := def_at X G0 a33 l33 c33 k33 fun _ _ _ _ _ _ us hl => match us, hl with | [_], _ => rfl
  have d34 : DefAt K mg "reach" "reach" s34 ["kind"] f34 _ := def_at X G0 a34 l34 c34 k34 fun _ _ _ _ _ _ us hl => match us, hl with | [_], _ => rfl
  have d39 : DefAt K mg "mirrored_kind" "mirrored_kind" s39 ["kind"] f39 _ := def_at X G0 a39 l39 c39 k39 fun _ _ _ _ _ _ us hl => match us, hl with | [_], _ => rfl
  have d40 : DefAt K mg "mirrored" "mirrored" s40 ["kind"] f40 _ := def_at X G0 a40 l40 c40 k40 fun _ _ _ _ _ _ us hl => match us, hl with | [_], _ => rfl
  have d41 : DefAt K mg "mirrored_in" "mirrored_in" s41 ["worth"] f41 _ := def_at X G0 a41 l41 c41 k41 fun _ _ _ _ _ _ us hl => match us, hl with | [_], _ => rfl
  have d42 : DefAt K mg "mirrored_worth" "mirrored_worth" s42 ["kind", "worth"] f42 _ := def_at X G0 a42 l42 c42 k42 fun _ _ _ _ _ _ us hl => match us, hl with | [_, _], _ => rfl
  have d5 : DefAt K mg "_law_cell" "_law_cell" s5 ["_law_script", "_law_k"] f5 _ := def_at X G0 a5 l5 c5 k5 fun _ _ _ _ _ _ us hl => match us, hl with | [_, _], _ => rfl
  have d6 : DefAt K mg "_law_pick" "_law_pick" s6 ["_law_script", "_law_k", "_law_many"] f6 _ := def_at X G0 a6 l6 c6 k6 fun _ _ _ _ _ _ us hl => match us, hl with | [_, _, _], _ => rfl
  have d112 : DefAt K mg "_law_class" "_law_class" s112 ["_law_kept"] f112 _ := def_at X G0 a112 l112 c112 k112 fun _ _ _ _ _ _ us hl => match us, hl with | [_], _ => rfl
  have d113 : DefAt K mg "law" "law" s113 ["_law_script"] f113 _ := def_at X G0 a113 l113 c113 k113 fun _ _ _ _ _ _ us hl => match us, hl with | [_], _ => rfl
  have d90000 : DefAt K mg "_law_told" "_law_told" s90000 ["_law_deed"] f90000 _ := def_at X G0 a90000 l90000 c90000 k90000 fun _ _ _ _ _ _ us hl => match us, hl with | [_], _ => rfl
  have e := hfa.symm.trans (PySem.W.mg_of X G0 a113)
  cases e
  refine ⟨⟨⟨fun p hp => ?_, fun x hx => ?_, fun hne p hp => ?_, fun q hq => ?_, fun x hx => ?_, fun p hp => ?_⟩, fun f hf => ?_, fun q hq => ?_, _, d113, fun s v => .of_eq rfl⟩, a113, tab_of tt⟩
  · have hp : p ∈ cons := hp
    simp only [cons, List.mem_cons, List.not_mem_nil, or_false] at hp
    rcases hp with rfl | rfl | rfl | rfl | rfl | rfl | rfl | rfl | rfl
    · exact con_at X G0 v0 ⟨_, rfl⟩
    · exact con_at X G0 v1 ⟨_, rfl⟩
    · exact con_at X G0 v2 ⟨_, rfl⟩
    · exact con_at X G0 v3 ⟨_, rfl⟩
    · exact con_at X G0 v4 ⟨_, rfl⟩
    · exact con_at X G0 v5 ⟨_, rfl⟩
    · exact con_at X G0 v6 ⟨_, rfl⟩
    · exact con_at X G0 v7 ⟨_, rfl⟩
    · exact con_at X G0 v8 ⟨_, rfl⟩
  · simp only [biNames, List.mem_cons, List.not_mem_nil, or_false] at hx
    rcases hx with rfl | rfl | rfl | rfl | rfl | rfl | rfl | rfl | rfl | rfl | rfl | rfl | rfl | rfl | rfl | rfl | rfl | rfl
    · exact PySem.W.mg_none_of X G0 z0
    · exact PySem.W.mg_none_of X G0 z1
    · exact PySem.W.mg_none_of X G0 z2
    · exact PySem.W.mg_none_of X G0 z3
    · exact PySem.W.mg_none_of X G0 z4
    · exact PySem.W.mg_none_of X G0 z5
    · exact PySem.W.mg_none_of X G0 z6
    · exact PySem.W.mg_none_of X G0 z7
    · exact PySem.W.mg_none_of X G0 z8
    · exact PySem.W.mg_none_of X G0 z9
    · exact PySem.W.mg_none_of X G0 z10
    · exact PySem.W.mg_none_of X G0 z11
    · exact PySem.W.mg_none_of X G0 z12
    · exact PySem.W.mg_none_of X G0 z13
    · exact PySem.W.mg_none_of X G0 z14
    · exact PySem.W.mg_none_of X G0 z15
    · exact PySem.W.mg_none_of X G0 z16
    · exact PySem.W.mg_none_of X G0 z17
  · have hp : p ∈ clss := hp
    simp only [clss, List.mem_cons, List.not_mem_nil, or_false] at hp
    rcases hp with rfl | rfl | rfl | rfl
    · refine ⟨C0, by simp only [clsV, clsN, List.lookup]; simp [xa0], xc0, fun q hq C hC => ?_, kit_val xv0⟩
      simp only [excTab, List.mem_cons, List.not_mem_nil, or_false] at hq
      rcases hq with rfl | rfl | rfl | rfl | rfl | rfl | rfl | rfl
      · cases ya0.symm.trans hC; exact kit_sub yt0 yd0 kk0_0 yr0
      · cases ya1.symm.trans hC; exact kit_sub yt1 yd1 kk0_1 yr1
      · cases ya2.symm.trans hC; exact kit_sub yt2 yd2 kk0_2 yr2
      · cases ya3.symm.trans hC; exact kit_sub yt3 yd3 kk0_3 yr3
      · cases ya4.symm.trans hC; exact kit_sub yt4 yd4 kk0_4 yr4
      · cases ya5.symm.trans hC; exact kit_sub yt5 yd5 kk0_5 yr5
      · cases ya6.symm.trans hC; exact kit_sub yt6 yd6 kk0_6 yr6
      · cases ya7.symm.trans hC; exact kit_sub yt7 yd7 kk0_7 yr7
    · refine ⟨C1, by simp only [clsV, clsN, List.lookup]; simp [xa1], xc1, fun q hq C hC => ?_, kit_val xv1⟩
      simp only [excTab, List.mem_cons, List.not_mem_nil, or_false] at hq
      rcases hq with rfl | rfl | rfl | rfl | rfl | rfl | rfl | rfl
      · cases ya0.symm.trans hC; exact kit_sub yt0 yd0 kk1_0 yr0
      · cases ya1.symm.trans hC; exact kit_sub yt1 yd1 kk1_1 yr1
      · cases ya2.symm.trans hC; exact kit_sub yt2 yd2 kk1_2 yr2
      · cases ya3.symm.trans hC; exact kit_sub yt3 yd3 kk1_3 yr3
      · cases ya4.symm.trans hC; exact kit_sub yt4 yd4 kk1_4 yr4
      · cases ya5.symm.trans hC; exact kit_sub yt5 yd5 kk1_5 yr5
      · cases ya6.symm.trans hC; exact kit_sub yt6 yd6 kk1_6 yr6
      · cases ya7.symm.trans hC; exact kit_sub yt7 yd7 kk1_7 yr7
    · refine ⟨C2, by simp only [clsV, clsN, List.lookup]; simp [xa2], xc2, fun q hq C hC => ?_, kit_val xv2⟩
      simp only [excTab, List.mem_cons, List.not_mem_nil, or_false] at hq
      rcases hq with rfl | rfl | rfl | rfl | rfl | rfl | rfl | rfl
      · cases ya0.symm.trans hC; exact kit_sub yt0 yd0 kk2_0 yr0
      · cases ya1.symm.trans hC; exact kit_sub yt1 yd1 kk2_1 yr1
      · cases ya2.symm.trans hC; exact kit_sub yt2 yd2 kk2_2 yr2
      · cases ya3.symm.trans hC; exact kit_sub yt3 yd3 kk2_3 yr3
      · cases ya4.symm.trans hC; exact kit_sub yt4 yd4 kk2_4 yr4
      · cases ya5.symm.trans hC; exact kit_sub yt5 yd5 kk2_5 yr5
      · cases ya6.symm.trans hC; exact kit_sub yt6 yd6 kk2_6 yr6
      · cases ya7.symm.trans hC; exact kit_sub yt7 yd7 kk2_7 yr7
    · refine ⟨C3, by simp only [clsV, clsN, List.lookup]; simp [xa3], xc3, fun q hq C hC => ?_, kit_val xv3⟩
      simp only [excTab, List.mem_cons, List.not_mem_nil, or_false] at hq
      rcases hq with rfl | rfl | rfl | rfl | rfl | rfl | rfl | rfl
      · cases ya0.symm.trans hC; exact kit_sub yt0 yd0 kk3_0 yr0
      · cases ya1.symm.trans hC; exact kit_sub yt1 yd1 kk3_1 yr1
      · cases ya2.symm.trans hC; exact kit_sub yt2 yd2 kk3_2 yr2
      · cases ya3.symm.trans hC; exact kit_sub yt3 yd3 kk3_3 yr3
      · cases ya4.symm.trans hC; exact kit_sub yt4 yd4 kk3_4 yr4
      · cases ya5.symm.trans hC; exact kit_sub yt5 yd5 kk3_5 yr5
      · cases ya6.symm.trans hC; exact kit_sub yt6 yd6 kk3_6 yr6
      · cases ya7.symm.trans hC; exact kit_sub yt7 yd7 kk3_7 yr7
  · have hq : q ∈ asks := hq
    simp only [asks, List.mem_cons, List.not_mem_nil, or_false] at hq
    rcases hq with rfl | rfl | rfl | rfl | rfl | rfl | rfl
    · exact ⟨by decide +kernel, A5, PySem.W.mg_of X G0 ya5, ya5⟩
    · exact ⟨by decide +kernel, A7, PySem.W.mg_of X G0 ya7, ya7⟩
    · exact ⟨by decide +kernel, A1, PySem.W.mg_of X G0 ya1, ya1⟩
    · exact ⟨by decide +kernel, A3, PySem.W.mg_of X G0 ya3, ya3⟩
    · exact ⟨by decide +kernel, A6, PySem.W.mg_of X G0 ya6, ya6⟩
    · exact ⟨by decide +kernel, A2, PySem.W.mg_of X G0 ya2, ya2⟩
    · exact ⟨by decide +kernel, A4, PySem.W.mg_of X G0 ya4, ya4⟩
  · have hx : x ∈ tris := hx
    simp only [tris, List.mem_cons, List.not_mem_nil, or_false] at hx
    subst hx
    refine ⟨A0, PySem.W.mg_of X G0 ya0, fun p hp => ?_⟩
    have hp : p ∈ clss := hp
    simp only [clss, List.mem_cons, List.not_mem_nil, or_false] at hp
    rcases hp with rfl | rfl | rfl | rfl
    · have e : clsV clsN K 1 = .ref C0 := by simp only [clsV, clsN, List.lookup]; simp [xa0]
      rw [e]; exact PySem.W.exm_ref yb0 yd0 yt0 kk0_0
    · have e : clsV clsN K 3 = .ref C1 := by simp only [clsV, clsN, List.lookup]; simp [xa1]
      rw [e]; exact PySem.W.exm_ref yb0 yd0 yt0 kk1_0
    · have e : clsV clsN K 2 = .ref C2 := by simp only [clsV, clsN, List.lookup]; simp [xa2]
      rw [e]; exact PySem.W.exm_ref yb0 yd0 yt0 kk2_0
    · have e : clsV clsN K 4 = .ref C3 := by simp only [clsV, clsN, List.lookup]; simp [xa3]
      rw [e]; exact PySem.W.exm_ref yb0 yd0 yt0 kk3_0
  · have hp : p ∈ clss := hp
    simp only [clss, List.mem_cons, List.not_mem_nil, or_false] at hp
    rcases hp with rfl | rfl | rfl | rfl
    · exact ⟨C0, bm0, B0, nw0, ii0, xf0, xe0, PySem.W.mg_of X G0 xa0, xk0, xs0, xt0, by simp only [clsV, clsN, List.lookup]; simp [xa0]⟩
    · exact ⟨C1, bm1, B1, nw1, ii1, xf1, xe1, PySem.W.mg_of X G0 xa1, xk1, xs1, xt1, by simp only [clsV, clsN, List.lookup]; simp [xa1]⟩
    · exact ⟨C2, bm2, B2, nw2, ii2, xf2, xe2, PySem.W.mg_of X G0 xa2, xk2, xs2, xt2, by simp only [clsV, clsN, List.lookup]; simp [xa2]⟩
    · exact ⟨C3, bm3, B3, nw3, ii3, xf3, xe3, PySem.W.mg_of X G0 xa3, xk3, xs3, xt3, by simp only [clsV, clsN, List.lookup]; simp [xa3]⟩
  · have hf : f ∈ [0, 1, 2, 3, 4, 18, 19, 20, 38, 43, 44, 45, 46, 47, 48, 55, 56, 57, 58, 59, 85, 86, 87, 88, 89, 90, 91, 104, 105, 106, 108, 109, 110, 29, 30, 31, 32, 33, 34, 39, 40, 41, 42, 5, 6, 112] := hf
    simp only [List.mem_cons, List.not_mem_nil, or_false] at hf
    rcases hf with rfl | rfl | rfl | rfl | rfl | rfl | rfl | rfl | rfl | rfl | rfl | rfl | rfl | rfl | rfl | rfl | rfl | rfl | rfl | rfl | rfl | rfl | rfl | rfl | rfl | rfl | rfl | rfl | rfl | rfl | rfl | rfl | rfl | rfl | rfl | rfl | rfl | rfl | rfl | rfl | rfl | rfl | rfl | rfl | rfl | rfl
    · exact ⟨_, _, d0⟩
    · exact ⟨_, _, d1⟩
    · exact ⟨_, _, d2⟩
    · exact ⟨_, _, d3⟩
    · exact ⟨_, _, d4⟩
    · exact ⟨_, _, d18⟩
    · exact ⟨_, _, d19⟩
    · exact ⟨_, _, d20⟩
    · exact ⟨_, _, d38⟩
    · exact ⟨_, _, d43⟩
    · exact ⟨_, _, d44⟩
    · exact ⟨_, _, d45⟩
    · exact ⟨_, _, d46⟩
    · exact ⟨_, _, d47⟩
    · exact ⟨_, _, d48⟩
    · exact ⟨_, _, d55⟩
    · exact ⟨_, _, d56⟩
    · exact ⟨_, _, d57⟩
    · exact ⟨_, _, d58⟩
    · exact ⟨_, _, d59⟩
    · exact ⟨_, _, d85⟩
    · exact ⟨_, _, d86⟩
    · exact ⟨_, _, d87⟩
    · exact ⟨_, _, d88⟩
    · exact ⟨_, _, d89⟩
    · exact ⟨_, _, d90⟩
    · exact ⟨_, _, d91⟩
    · exact ⟨_, _, d104⟩
    · exact ⟨_, _, d105⟩
    · exact ⟨_, _, d106⟩
    · exact ⟨_, _, d108⟩
    · exact ⟨_, _, d109⟩
    · exact ⟨_, _, d110⟩
    · exact ⟨_, _, d29⟩
    · exact ⟨_, _, d30⟩
    · exact ⟨_, _, d31⟩
    · exact ⟨_, _, d32⟩
    · exact ⟨_, _, d33⟩
    · exact ⟨_, _, d34⟩
    · exact ⟨_, _, d39⟩
    · exact ⟨_, _, d40⟩
    · exact ⟨_, _, d41⟩
    · exact ⟨_, _, d42⟩
    · exact ⟨_, _, d5⟩
    · exact ⟨_, _, d6⟩
    · exact ⟨_, _, d112⟩
  · have hq : q ∈ txt.td := hq
    simp only [txt, List.mem_cons, List.not_mem_nil, or_false] at hq
    rcases hq with rfl
    · exact ⟨_, _, d90000⟩
theorem lk : txt.W.fns.all txt.look = true := by decide +kernel
theorem ll : txt.lookW txt.wl 113 = true := by decide +kernel
theorem lt : txt.lookT = true := by decide +kernel
theorem ev : ∀ ns : List Int, ns.length ≤ 63 → ∃ st, callF txt.T 40 113 [script ns] [] = .ok (.bl true) st := k44_ev
end GG
open PySem PySem.W PyProof.Rows
set_option maxRecDepth 100000 in
set_option maxHeartbeats 0 in
theorem PySem.Challenge.cw_worthkinds_k44_shapes_and_rules_refused_holds : PySem.Challenge.rw_worthkinds_k44_shapes_and_rules_refused.Holds := by
  w_on; o_law; k_head; (case hw => w_witness2)
  k_fill
  refine Wk.law_walk (l := PySem.Challenge.rw_worthkinds_k44_shapes_and_rules_refused) (t := GG.txt) (x := "_law_script") (f := 113) (k := 39) (cv := Wk.clsV GG.clsN) rfl rfl ⟨rfl, by decide, by decide⟩ (by rfl) rfl rfl rfl rfl (fun w h Y => by first | exact PySem.W.kIn_of Y | exact PySem.W.km_in_of Y) GG.lk GG.ll GG.lt ?F GG.ev
  case F =>
    intro w mg fa h KX G hmg
    refine' GG.all_mk KX G hmg ?a0 ?l0 ?c0 ?k0 ?a1 ?l1 ?c1 ?k1 ?a2 ?l2 ?c2 ?k2 ?a3 ?l3 ?c3 ?k3 ?a4 ?l4 ?c4 ?k4 ?a18 ?l18 ?c18 ?k18 ?a19 ?l19 ?c19 ?k19 ?a20 ?l20 ?c20 ?k20 ?a38 ?l38 ?c38 ?k38 ?a43 ?l43 ?c43 ?k43 ?a44 ?l44 ?c44 ?k44 ?a45 ?l45 ?c45 ?k45 ?a46 ?l46 ?c46 ?k46 ?a47 ?l47 ?c47 ?k47 ?a48 ?l48 ?c48 ?k48 ?a55 ?l55 ?c55 ?k55 ?a56 ?l56 ?c56 ?k56 ?a57 ?l57 ?c57 ?k57 ?a58 ?l58 ?c58 ?k58 ?a59 ?l59 ?c59 ?k59 ?a85 ?l85 ?c85 ?k85 ?a86 ?l86 ?c86 ?k86 ?a87 ?l87 ?c87 ?k87 ?a88 ?l88 ?c88 ?k88 ?a89 ?l89 ?c89 ?k89 ?a90 ?l90 ?c90 ?k90 ?a91 ?l91 ?c91 ?k91 ?a104 ?l104 ?c104 ?k104 ?a105 ?l105 ?c105 ?k105 ?a106 ?l106 ?c106 ?k106 ?a108 ?l108 ?c108 ?k108 ?a109 ?l109 ?c109 ?k109 ?a110 ?l110 ?c110 ?k110 ?a29 ?l29 ?c29 ?k29 ?a30 ?l30 ?c30 ?k30 ?a31 ?l31 ?c31 ?k31 ?a32 ?l32 ?c32 ?k32 ?a33 ?l33 ?c33 ?k33 ?a34 ?l34 ?c34 ?k34 ?a39 ?l39 ?c39 ?k39 ?a40 ?l40 ?c40 ?k40 ?a41 ?l41 ?c41 ?k41 ?a42 ?l42 ?c42 ?k42 ?a5 ?l5 ?c5 ?k5 ?a6 ?l6 ?c6 ?k6 ?a112 ?l112 ?c112 ?k112 ?a113 ?l113 ?c113 ?k113 ?a90000 ?l90000 ?c90000 ?k90000 ?tt ?z0 ?z1 ?z2 ?z3 ?z4 ?z5 ?z6 ?z7 ?z8 ?z9 ?z10 ?z11 ?z12 ?z13 ?z14 ?z15 ?z16 ?z17 ?v0 ?v1 ?v2 ?v3 ?v4 ?v5 ?v6 ?v7 ?v8 ?xf0 ?xa0 ?xe0 ?xk0 ?xs0 ?xt0 ?xf1 ?xa1 ?xe1 ?xk1 ?xs1 ?xt1 ?xf2 ?xa2 ?xe2 ?xk2 ?xs2 ?xt2 ?xf3 ?xa3 ?xe3 ?xk3 ?xs3 ?xt3 ?ya0 ?yt0 ?yd0 ?yr0 ?ya1 ?yt1 ?yd1 ?yr1 ?ya2 ?yt2 ?yd2 ?yr2 ?ya3 ?yt3 ?yd3 ?yr3 ?ya4 ?yt4 ?yd4 ?yr4 ?ya5 ?yt5 ?yd5 ?yr5 ?ya6 ?yt6 ?yd6 ?yr6 ?ya7 ?yt7 ?yd7 ?yr7 ?yb0 ?xc0 ?xv0 ?kk0_0 ?kk0_1 ?kk0_2 ?kk0_3 ?kk0_4 ?kk0_5 ?kk0_6 ?kk0_7 ?xc1 ?xv1 ?kk1_0 ?kk1_1 ?kk1_2 ?kk1_3 ?kk1_4 ?kk1_5 ?kk1_6 ?kk1_7 ?xc2 ?xv2 ?kk2_0 ?kk2_1 ?kk2_2 ?kk2_3 ?kk2_4 ?kk2_5 ?kk2_6 ?kk2_7 ?xc3 ?xv3 ?kk3_0 ?kk3_1 ?kk3_2 ?kk3_3 ?kk3_4 ?kk3_5 ?kk3_6 ?kk3_7
    (case a0 => k_is)
    (case l0 => k_is)
    (case c0 => k_is)
    (case k0 => k_is)
    (case a1 => k_is)
    (case l1 => k_is)
    (case c1 => k_is)
    (case k1 => k_is)
    (case a2 => k_is)
    (case l2 => k_is)
    (case c2 => k_is)
    (case k2 => k_is)
    (case a3 => k_is)
    (case l3 => k_is)
    (case c3 => k_is)
    (case k3 => k_is)
    (case a4 => k_is)
    (case l4 => k_is)
    (case c4 => k_is)
    (case k4 => k_is)
    (case a18 => k_is)
    (case l18 => k_is)
    (case c18 => k_is)
    (case k18 => k_is)
    (case a19 => k_is)
    (case l19 => k_is)
    (case c19 => k_is)
    (case k19 => k_is)
    (case a20 => k_is)
    (case l20 => k_is)
    (case c20 => k_is)
    (case k20 => k_is)
    (case a38 => k_is)
    (case l38 => k_is)
    (case c38 => k_is)
    (case k38 => k_is)
    (case a43 => k_is)
    (case l43 => k_is)
    (case c43 => k_is)
    (case k43 => k_is)
    (case a44 => k_is)
    (case l44 => k_is)
    (case c44 => k_is)
    (case k44 => k_is)
    (case a45 => k_is)
    (case l45 => k_is)
    (case c45 => k_is)
    (case k45 => k_is)
    (case a46 => k_is)
    (case l46 => k_is)
    (case c46 => k_is)
    (case k46 => k_is)
    (case a47 => k_is)
    (case l47 => k_is)
    (case c47 => k_is)
    (case k47 => k_is)
    (case a48 => k_is)
    (case l48 => k_is)
    (case c48 => k_is)
    (case k48 => k_is)
    (case a55 => k_is)
    (case l55 => k_is)
    (case c55 => k_is)
    (case k55 => k_is)
    (case a56 => k_is)
    (case l56 => k_is)
    (case c56 => k_is)
    (case k56 => k_is)
    (case a57 => k_is)
    (case l57 => k_is)
    (case c57 => k_is)
    (case k57 => k_is)
    (case a58 => k_is)
    (case l58 => k_is)
    (case c58 => k_is)
    (case k58 => k_is)
    (case a59 => k_is)
    (case l59 => k_is)
    (case c59 => k_is)
    (case k59 => k_is)
    (case a85 => k_is)
    (case l85 => k_is)
    (case c85 => k_is)
    (case k85 => k_is)
    (case a86 => k_is)
    (case l86 => k_is)
    (case c86 => k_is)
    (case k86 => k_is)
    (case a87 => k_is)
    (case l87 => k_is)
    (case c87 => k_is)
    (case k87 => k_is)
    (case a88 => k_is)
    (case l88 => k_is)
    (case c88 => k_is)
    (case k88 => k_is)
    (case a89 => k_is)
    (case l89 => k_is)
    (case c89 => k_is)
    (case k89 => k_is)
    (case a90 => k_is)
    (case l90 => k_is)
    (case c90 => k_is)
    (case k90 => k_is)
    (case a91 => k_is)
    (case l91 => k_is)
    (case c91 => k_is)
    (case k91 => k_is)
    (case a104 => k_is)
    (case l104 => k_is)
    (case c104 => k_is)
    (case k104 => k_is)
    (case a105 => k_is)
    (case l105 => k_is)
    (case c105 => k_is)
    (case k105 => k_is)
    (case a106 => k_is)
    (case l106 => k_is)
    (case c106 => k_is)
    (case k106 => k_is)
    (case a108 => k_is)
    (case l108 => k_is)
    (case c108 => k_is)
    (case k108 => k_is)
    (case a109 => k_is)
    (case l109 => k_is)
    (case c109 => k_is)
    (case k109 => k_is)
    (case a110 => k_is)
    (case l110 => k_is)
    (case c110 => k_is)
    (case k110 => k_is)
    (case a29 => k_is)
    (case l29 => k_is)
    (case c29 => k_is)
    (case k29 => k_is)
    (case a30 => k_is)
    (case l30 => k_is)
    (case c30 => k_is)
    (case k30 => k_is)
    (case a31 => k_is)
    (case l31 => k_is)
    (case c31 => k_is)
    (case k31 => k_is)
    (case a32 => k_is)
    (case l32 => k_is)
    (case c32 => k_is)
    (case k32 => k_is)
    (case a33 => k_is)
    (case l33 => k_is)
    (case c33 => k_is)
    (case k33 => k_is)
    (case a34 => k_is)
    (case l34 => k_is)
    (case c34 => k_is)
    (case k34 => k_is)
    (case a39 => k_is)
    (case l39 => k_is)
    (case c39 => k_is)
    (case k39 => k_is)
    (case a40 => k_is)
    (case l40 => k_is)
    (case c40 => k_is)
    (case k40 => k_is)
    (case a41 => k_is)
    (case l41 => k_is)
    (case c41 => k_is)
    (case k41 => k_is)
    (case a42 => k_is)
    (case l42 => k_is)
    (case c42 => k_is)
    (case k42 => k_is)
    (case a5 => k_is)
    (case l5 => k_is)
    (case c5 => k_is)
    (case k5 => k_is)
    (case a6 => k_is)
    (case l6 => k_is)
    (case c6 => k_is)
    (case k6 => k_is)
    (case a112 => k_is)
    (case l112 => k_is)
    (case c112 => k_is)
    (case k112 => k_is)
    (case a113 => k_is)
    (case l113 => k_is)
    (case c113 => k_is)
    (case k113 => k_is)
    (case a90000 => k_is)
    (case l90000 => k_is)
    (case c90000 => k_is)
    (case k90000 => k_is)
    (case tt => first | kernel_rfl | rfl | decide +kernel)
    (case z0 => k_is)
    (case z1 => k_is)
    (case z2 => k_is)
    (case z3 => k_is)
    (case z4 => k_is)
    (case z5 => k_is)
    (case z6 => k_is)
    (case z7 => k_is)
    (case z8 => k_is)
    (case z9 => k_is)
    (case z10 => k_is)
    (case z11 => k_is)
    (case z12 => k_is)
    (case z13 => k_is)
    (case z14 => k_is)
    (case z15 => k_is)
    (case z16 => k_is)
    (case z17 => k_is)
    (case v0 => k_is)
    (case v1 => k_is)
    (case v2 => k_is)
    (case v3 => k_is)
    (case v4 => k_is)
    (case v5 => k_is)
    (case v6 => k_is)
    (case v7 => k_is)
    (case v8 => k_is)
    (case xa0 => k_is)
    (case xf0 => exact PySem.F.excBase_ValueError)
    (case xe0 => k_exc)
    (case xk0 => k_is)
    (case xs0 => k_is)
    (case xt0 => k_is)
    (case xa1 => k_is)
    (case xf1 => exact PySem.F.excBase_ValueError)
    (case xe1 => k_exc)
    (case xk1 => k_is)
    (case xs1 => k_is)
    (case xt1 => k_is)
    (case xa2 => k_is)
    (case xf2 => exact PySem.F.excBase_ValueError)
    (case xe2 => k_exc)
    (case xk2 => k_is)
    (case xs2 => k_is)
    (case xt2 => k_is)
    (case xa3 => k_is)
    (case xf3 => exact PySem.F.excBase_ValueError)
    (case xe3 => k_exc)
    (case xk3 => k_is)
    (case xs3 => k_is)
    (case xt3 => k_is)
    (case ya0 => k_is)
    (case yt0 => k_is)
    (case yd0 => k_is)
    (case yr0 => k_is)
    (case ya1 => k_is)
    (case yt1 => k_is)
    (case yd1 => k_is)
    (case yr1 => k_is)
    (case ya2 => k_is)
    (case yt2 => k_is)
    (case yd2 => k_is)
    (case yr2 => k_is)
    (case ya3 => k_is)
    (case yt3 => k_is)
    (case yd3 => k_is)
    (case yr3 => k_is)
    (case ya4 => k_is)
    (case yt4 => k_is)
    (case yd4 => k_is)
    (case yr4 => k_is)
    (case ya5 => k_is)
    (case yt5 => k_is)
    (case yd5 => k_is)
    (case yr5 => k_is)
    (case ya6 => k_is)
    (case yt6 => k_is)
    (case yd6 => k_is)
    (case yr6 => k_is)
    (case ya7 => k_is)
    (case yt7 => k_is)
    (case yd7 => k_is)
    (case yr7 => k_is)
    (case yb0 => k_is)
    (case xc0 => refine ⟨?_, ?_, ?_, ?_, ?_, ?_, ?_, ?_⟩ <;> k_is)
    (case xv0 => k_is)
    (case kk0_0 => k_is)
    (case kk0_1 => k_is)
    (case kk0_2 => k_is)
    (case kk0_3 => k_is)
    (case kk0_4 => k_is)
    (case kk0_5 => k_is)
    (case kk0_6 => k_is)
    (case kk0_7 => k_is)
    (case xc1 => refine ⟨?_, ?_, ?_, ?_, ?_, ?_, ?_, ?_⟩ <;> k_is)
    (case xv1 => k_is)
    (case kk1_0 => k_is)
    (case kk1_1 => k_is)
    (case kk1_2 => k_is)
    (case kk1_3 => k_is)
    (case kk1_4 => k_is)
    (case kk1_5 => k_is)
    (case kk1_6 => k_is)
    (case kk1_7 => k_is)
    (case xc2 => refine ⟨?_, ?_, ?_, ?_, ?_, ?_, ?_, ?_⟩ <;> k_is)
    (case xv2 => k_is)
    (case kk2_0 => k_is)
    (case kk2_1 => k_is)
    (case kk2_2 => k_is)
    (case kk2_3 => k_is)
    (case kk2_4 => k_is)
    (case kk2_5 => k_is)
    (case kk2_6 => k_is)
    (case kk2_7 => k_is)
    (case xc3 => refine ⟨?_, ?_, ?_, ?_, ?_, ?_, ?_, ?_⟩ <;> k_is)
    (case xv3 => k_is)
    (case kk3_0 => k_is)
    (case kk3_1 => k_is)
    (case kk3_2 => k_is)
    (case kk3_3 => k_is)
    (case kk3_4 => k_is)
    (case kk3_5 => k_is)
    (case kk3_6 => k_is)
    (case kk3_7 => k_is)
