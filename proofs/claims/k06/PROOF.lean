import PyProof.Rows.All
import Wide.All
import OpenK.AllK
import Wide.FinOn
import KE.KStateDown
import Lean
import HandS.ForMost
import HandS.ForExc
import HandS.IsInst
import HandS.Steps
import HandS.Defaults
import HandS.Head0
import HandS.Head1
import HandS.Head2
import HandS.HeadEnd
import HandS.HeadHook1
import HandS.HeadHook2
import HandS.StrMore
import HandS.ExcIs
import HandS.Strs
import HandS.TupAny
import HandS.Style
import HandS.ReplaceLit
import HandS.Deep
import KE.SortData
import KE.DataFind
import HandS.TryMany
import HandS.More
import HandS.ListItems
import KE.KDictPairs
import KE.KeyNested
import HandS.DictTup
import KE.KDictWalk
import KE.DataMinMax
import PySem.Challenge.RW_poolrules_k06_names_told_the_same
set_option Elab.async false
set_option linter.all false
set_option maxRecDepth 100000
set_option maxHeartbeats 0
namespace G
open PySem L2 TL
abbrev Fg := PySem.W.Frag
def insB (K : Fg) (x y : Str) (b : Bool) : Bool :=
  decide (PySem.W.findIn K (.ref (He.ga K x)) "__class__" = some (some (.builtin "object.__class__"))) && (decide (PySem.W.specialIn K (.builtin "object.__class__") "__get__" = some (some (.builtin "getset_descriptor.__get__"))) &&
  (decide (PySem.W.takesIn K (.builtin "object.__class__") = some true) && (decide (PySem.W.mroIn K (He.ga K x) (.type "object") = some true) && decide (PySem.W.kitOne K (.ref (He.ga K x)) (.ref (He.ga K y)) = some b))))
def hookX (n : Nat) (fa : List He.Fa) (fn : List He.DefD) (fx : List (Fg → Bool)) : PySem.W.Hook where
  α := He.AlD × Bool
  obs := fun s => (He.obsDG n fa fn s.heap.get?, fx.all fun f => f (He.frG s.heap.get? (He.asD s.heap.get? n)))
  val := fun _ => (He.valD fn, true)
  says := fun _ h => ∃ K : PySem.W.Frag, K.In h ∧ He.SaysD fa fn K ∧ (fx.all fun f => f K) = true
  of := fun _ _ e => ⟨_, He.frG_in, congrArg (fun z : He.AlD × Bool => z.1) e, congrArg (fun z : He.AlD × Bool => z.2) e⟩
  keeps := fun _ _ _ ⟨K, hK, c⟩ k => ⟨K, PySem.W.Frag.In.keeps hK k, c⟩
def obX (n : Nat) (fa : List He.Fa) (fn : List He.DefD) (fx : List (Fg → Bool)) (g : Addr → Option Obj) : He.AlD × Bool := (He.obsDG n fa fn g, fx.all fun f => f (He.frG g (He.asD g n)))
theorem obX_eq {n : Nat} {fa : List He.Fa} {fn : List He.DefD} {fx : List (Fg → Bool)} {g : Addr → Option Obj} {s : Shared} (h : ∀ a, g a = s.heap.get? a) : obX n fa fn fx g = (hookX n fa fn fx).obs s := by
  have e : g = s.heap.get? := funext h
  rw [e] <;> rfl
def excB (K : Fg) (c : Str) : Bool := decide (PySem.W.findIn K (.ref (He.ga K c)) "__getattribute__" = some (some (.builtin "BaseException.__getattribute__"))) && (decide (PySem.W.findIn K (.ref (He.ga K c)) "__getattr__" = some none) && (decide (PySem.W.subIn K (.ref (He.ga K c)) (.type "BaseException") = some true) && (PySem.W.hasDictIn K (He.ga K c) &&
  (decide (PySem.W.findIn K (.ref (He.ga K c)) "__class__" = some (some (.builtin "object.__class__"))) && (decide (PySem.W.specialIn K (.builtin "object.__class__") "__get__" = some (some (.builtin "getset_descriptor.__get__"))) && (decide (PySem.W.takesIn K (.builtin "object.__class__") = some true) && decide (PySem.W.mroIn K (He.ga K c) (.type "object") = some true)))))))
def kitOwnB (K : Fg) (c y : Str) (r : Bool) : Bool := decide (PySem.W.kitOne K (.ref (He.ga K c)) (.ref (He.ga K y)) = some r)
def kitTyB (K : Fg) (c : Str) (y : String) (r : Bool) : Bool := decide (PySem.W.kitOne K (.ref (He.ga K c)) (.type y) = some r)
def tupN (K : Fg) (x : Str) : Bool := match K.lookup (He.ga K x) with
  | some o => decide (o.cls = .type "tuple") && decide (o.dict = none)
  | none => false
def emptT (K : Fg) (a : Addr) : Bool := match K.lookup a with
  | some o => decide (o.cls = .type "tuple") && (match o.data with
    | .seq its _ => its.toList.isEmpty
    | _ => false)
  | none => false
def emp4B (K : Fg) (x : Str) (z : Bool) : Bool := match K.lookup (He.ga K x) with
  | some o => decide (o.cls = .type "tuple") && (match o.data with
    | .seq its _ => (match its.toList with
      | [.ref a, .ref b, .ref c, .bool w] => (w == z) && (emptT K a && (emptT K b && emptT K c))
      | _ => false)
    | _ => false)
  | none => false
def emptN (K : Fg) (a : Addr) : Bool := emptT K a && (match K.lookup a with
  | some o => decide (o.dict = none)
  | none => false)
def emp4N (K : Fg) (x : Str) (z : Bool) : Bool := emp4B K x z && (match K.lookup (He.ga K x) with
  | some o => (match o.data with
    | .seq its _ => (match its.toList with
      | [_, _, .ref c, _] => emptN K c
      | _ => false)
    | _ => false)
  | none => false)
end G
namespace Q
open PySem L2 G
def top (i : Nat) : Stmt := PySem.Challenge.pw_poolrules_k06_names_told_the_same.main.body.getD i (.Pass ⟨0, 0, 0, 0⟩)
abbrev exc_NoName : List Str := ["NoName"]
def isx (c y : Str) : Bool := ([] : List (Str × Str)).contains (c, y)
def fn : List He.DefD := [⟨("is_name", none), "is_name", "is_name", defArgs (top 11), defBody (top 11), defScope (top 11), [], []⟩,
  ⟨("is_word", none), "is_word", "is_word", defArgs (top 12), defBody (top 12), defScope (top 12), [], []⟩,
  ⟨("is_open", none), "is_open", "is_open", defArgs (top 13), defBody (top 13), defScope (top 13), [], []⟩,
  ⟨("fact_text", none), "fact_text", "fact_text", defArgs (top 14), defBody (top 14), defScope (top 14), [], []⟩,
  ⟨("facts_text", none), "facts_text", "facts_text", defArgs (top 15), defBody (top 15), defScope (top 15), [], []⟩,
  ⟨("kind_lasts", none), "kind_lasts", "kind_lasts", defArgs (top 19), defBody (top 19), defScope (top 19), [], []⟩,
  ⟨("look_at_facts", none), "look_at_facts", "look_at_facts", defArgs (top 20), defBody (top 20), defScope (top 20), [], []⟩,
  ⟨("look_at_taken", none), "look_at_taken", "look_at_taken", defArgs (top 21), defBody (top 21), defScope (top 21), [], []⟩,
  ⟨("renamed_fact", none), "renamed_fact", "renamed_fact", defArgs (top 22), defBody (top 22), defScope (top 22), [], []⟩,
  ⟨("learn_names", none), "learn_names", "learn_names", defArgs (top 23), defBody (top 23), defScope (top 23), [], []⟩,
  ⟨("first_of", none), "first_of", "first_of", defArgs (top 24), defBody (top 24), defScope (top 24), [], []⟩,
  ⟨("tell_same", none), "tell_same", "tell_same", defArgs (top 25), defBody (top 25), defScope (top 25), [], []⟩,
  ⟨("without_facts", none), "without_facts", "without_facts", defArgs (top 26), defBody (top 26), defScope (top 26), [], []⟩,
  ⟨("settled_pool", none), "settled_pool", "settled_pool", defArgs (top 27), defBody (top 27), defScope (top 27), [], []⟩,
  ⟨("moved", none), "moved", "moved", defArgs (top 28), defBody (top 28), defScope (top 28), [], []⟩,
  ⟨("start_pool", none), "start_pool", "start_pool", defArgs (top 29), defBody (top 29), defScope (top 29), [], []⟩,
  ⟨("stands_for", none), "stands_for", "stands_for", defArgs (top 30), defBody (top 30), defScope (top 30), [], []⟩,
  ⟨("pool_text", none), "pool_text", "pool_text", defArgs (top 31), defBody (top 31), defScope (top 31), [], []⟩,
  ⟨("_law_cell_at", none), "_law_cell_at", "_law_cell_at", defArgs (top 33), defBody (top 33), defScope (top 33), [], []⟩,
  ⟨("_law_mix", none), "_law_mix", "_law_mix", defArgs (top 34), defBody (top 34), defScope (top 34), [], []⟩,
  ⟨("_law_names", none), "_law_names", "_law_names", defArgs (top 35), defBody (top 35), defScope (top 35), [], []⟩,
  ⟨("_law_titles", none), "_law_titles", "_law_titles", defArgs (top 36), defBody (top 36), defScope (top 36), [], []⟩,
  ⟨("_law_opens", none), "_law_opens", "_law_opens", defArgs (top 37), defBody (top 37), defScope (top 37), [], []⟩,
  ⟨("_law_words", none), "_law_words", "_law_words", defArgs (top 38), defBody (top 38), defScope (top 38), [], []⟩,
  ⟨("_law_kinds", none), "_law_kinds", "_law_kinds", defArgs (top 39), defBody (top 39), defScope (top 39), [], []⟩,
  ⟨("_law_fact", none), "_law_fact", "_law_fact", defArgs (top 40), defBody (top 40), defScope (top 40), [], []⟩,
  ⟨("_law_known", none), "_law_known", "_law_known", defArgs (top 41), defBody (top 41), defScope (top 41), [], []⟩,
  ⟨("_law_lasts", none), "_law_lasts", "_law_lasts", defArgs (top 42), defBody (top 42), defScope (top 42), [], []⟩,
  ⟨("_law_stand", none), "_law_stand", "_law_stand", defArgs (top 43), defBody (top 43), defScope (top 43), [], []⟩,
  ⟨("_law_merged", none), "_law_merged", "_law_merged", defArgs (top 44), defBody (top 44), defScope (top 44), [], []⟩,
  ⟨("_law_torn", none), "_law_torn", "_law_torn", defArgs (top 45), defBody (top 45), defScope (top 45), [], []⟩,
  ⟨("_law_now", none), "_law_now", "_law_now", defArgs (top 46), defBody (top 46), defScope (top 46), [], []⟩,
  ⟨("_law_pool", none), "_law_pool", "_law_pool", defArgs (top 47), defBody (top 47), defScope (top 47), [], []⟩,
  ⟨("_law_is_pool", none), "_law_is_pool", "_law_is_pool", defArgs (top 48), defBody (top 48), defScope (top 48), [], []⟩,
  ⟨("_law_fact_text", none), "_law_fact_text", "_law_fact_text", defArgs (top 49), defBody (top 49), defScope (top 49), [], []⟩,
  ⟨("_law_pairs", none), "_law_pairs", "_law_pairs", defArgs (top 50), defBody (top 50), defScope (top 50), [], []⟩,
  ⟨("_law_asked", none), "_law_asked", "_law_asked", defArgs (top 51), defBody (top 51), defScope (top 51), [], []⟩,
  ⟨("_law_names_told", none), "_law_names_told", "_law_names_told", defArgs (top 52), defBody (top 52), defScope (top 52), [], []⟩,
  ⟨("_law_written", none), "_law_written", "_law_written", defArgs (top 53), defBody (top 53), defScope (top 53), [], []⟩,
  ⟨("_law_due", none), "_law_due", "_law_due", defArgs (top 54), defBody (top 54), defScope (top 54), [], []⟩,
  ⟨("law", none), "law", "law", defArgs (top 55), defBody (top 55), defScope (top 55), [], []⟩]
def fa : List He.Fa := [.glo "is_name",
  .glo "is_word",
  .glo "is_open",
  .glo "fact_text",
  .glo "facts_text",
  .glo "kind_lasts",
  .glo "look_at_facts",
  .glo "look_at_taken",
  .glo "renamed_fact",
  .glo "learn_names",
  .glo "first_of",
  .glo "tell_same",
  .glo "without_facts",
  .glo "settled_pool",
  .glo "moved",
  .glo "start_pool",
  .glo "stands_for",
  .glo "pool_text",
  .glo "_law_cell_at",
  .glo "_law_mix",
  .glo "_law_names",
  .glo "_law_titles",
  .glo "_law_opens",
  .glo "_law_words",
  .glo "_law_kinds",
  .glo "_law_fact",
  .glo "_law_known",
  .glo "_law_lasts",
  .glo "_law_stand",
  .glo "_law_merged",
  .glo "_law_torn",
  .glo "_law_now",
  .glo "_law_pool",
  .glo "_law_is_pool",
  .glo "_law_fact_text",
  .glo "_law_pairs",
  .glo "_law_asked",
  .glo "_law_names_told",
  .glo "_law_written",
  .glo "_law_due",
  .glo "law",
  .exm "NoName" "NoName" true,
  .glo "BROKEN",
  .glo "EMPTY",
  .free "bool",
  .free "dict",
  .free "isinstance",
  .free "len",
  .free "list",
  .free "min",
  .free "range",
  .free "set",
  .free "sorted",
  .free "str",
  .free "tuple",
  .str "FIGURES" "0123456789",
  .str "GREAT" "ABCDEFGHIJKLMNOPQRSTUVWXYZ",
  .str "SMALL" "abcdefghijklmnopqrstuvwxyz",
  .glo "BadArgs",
  .exc "BadArgs",
  .glo "BadTake",
  .exc "BadTake",
  .glo "NoFact",
  .exc "NoFact",
  .glo "NoKind",
  .exc "NoKind",
  .glo "NoName",
  .exc "NoName"]
def fx : List (Fg → Bool) := [fun K => excB K "NoName",
  fun K => emp4N K "BROKEN" true,
  fun K => emp4N K "EMPTY" false]
abbrev R : PySem.W.OpenRow := PySem.W.OpenLaw.row PySem.Challenge.rw_poolrules_k06_names_told_the_same
abbrev hk : PySem.W.Hook := G.hookX 5 fa fn fx
def ob (s : PySem.W.SharedT) : He.AlD × Bool := G.obX 5 fa fn fx (HandSHeadRun.getT s)
theorem ob_eq (s : PySem.W.SharedT) : ob s = hk.obs s.abs := G.obX_eq (HandSHeadRun.getT_eq s)
def loose : List PySem.Str := (["PoolError", "NoKind", "BadArgs", "NoFact", "BadTake", "NoName", "SMALL", "GREAT", "FIGURES", "is_name", "is_word", "is_open", "fact_text", "facts_text", "EMPTY", "BROKEN", "kind_lasts", "look_at_facts", "look_at_taken", "renamed_fact"] : List PySem.Str) ++ ((["learn_names", "first_of", "tell_same", "without_facts", "settled_pool", "moved", "start_pool", "stands_for", "pool_text", "_law_cell_at", "_law_mix", "_law_names", "_law_titles", "_law_opens", "_law_words", "_law_kinds", "_law_fact", "_law_known", "_law_lasts", "_law_stand"] : List PySem.Str) ++ ((["_law_merged", "_law_torn", "_law_now", "_law_pool", "_law_is_pool", "_law_fact_text", "_law_pairs", "_law_asked", "_law_names_told", "_law_written", "_law_due"] : List PySem.Str)))
theorem run (w : World) : HandSHeadRun.RunEq R (PySem.W.view R.prog [55]) hk ob 100000 loose w := by
  intro os
  kernel_rfl
end Q
set_option Elab.async false
set_option linter.all false
set_option maxRecDepth 100000
set_option maxHeartbeats 2000000
namespace G
open PySem L2

/-! ### the monad of the mirrors: a raise by its class, or stuck -/
inductive Er where
  | rs (c : Str)
  | st
abbrev M := Except Er
abbrev Tx := List Nat
def S (l : Tx) : Str := ⟨l.toArray⟩
def Tup (α : Type) := List α
def raise {α : Type} (c : Str) : M α := .error (.rs c)
def stuck {α : Type} : M α := .error .st
def chk (p : Prop) [Decidable p] : M Unit := if p then pure () else .error .st
def ofO {α : Type} : Option α → M α
  | some a => pure a
  | none => .error .st
abbrev SZ : Nat := sizeLine

/-! ### data over the heap -/
class Py (α : Type) where
  rep : Fg → Hp → α → V → Prop
  mono : ∀ {K : Fg} {H H' : Hp} {a : α} {v : V}, Same H H' → rep K H a v → rep K H' a v
structure Pr where
  r : Hp → V → Prop
  m : ∀ {H H' : Hp} {v : V}, Same H H' → r H v → r H' v
def rp (K : Fg) {α : Type} [Py α] (a : α) : Pr := ⟨fun H v => Py.rep K H a v, fun e h => Py.mono e h⟩
structure Ct where
  r : Hp → HO → Prop
  m : ∀ {H H' : Hp} {o : HO}, Same H H' → r H o → r H' o
/-- an owned tree: what stands at these addresses alone, told from the value that leads to it -/
structure Tr where
  r : Hp → Hp → List Addr → V → Prop
  m : ∀ {Hi Hi' H H' : Hp} {A : List Addr} {v : V}, Same Hi Hi' → (∀ a, a ∈ A → H' a = H a) → r Hi H A v → r Hi' H' A v
/-- a tree of one object -/
def one (c : Ct) : Tr := ⟨fun Hi H A v => ∃ a o, v = .ref a ∧ A = [a] ∧ H a = some o ∧ c.r Hi o,
  fun s e ⟨a, o, h1, h2, h3, h4⟩ => ⟨a, o, h1, h2, by rw [e a (by rw [h2]; exact List.mem_singleton.mpr rfl)]; exact h3, c.m s h4⟩⟩
/-- a name: nothing is told; a value; a tree (w: it may hold what the caller owns) -/
inductive En where
  | no
  | im (p : Pr)
  | tr (w : Bool) (t : Tr)
abbrev En.mu (c : Ct) : En := .tr false (one c)

theorem sqt_mono {K : Fg} {H H' : Hp} {a : Addr} {xs : List V} (e : Same H H') (h : SqT K H a xs) : SqT K H' a xs := by
  rcases h with (h | ⟨o, h⟩) | h
  · exact .inl (.inl (e _ _ h))
  · exact .inl (.inr ⟨o, e _ _ h⟩)
  · exact .inr h
def Rl (K : Fg) (H : Hp) {α : Type} [Py α] (xs : List α) (vs : List V) : Prop := Paired (fun a v => Py.rep K H a v) xs vs
theorem Rl.mono {K : Fg} {H H' : Hp} {α : Type} [Py α] {xs : List α} {vs : List V} (e : Same H H') (h : Rl K H xs vs) : Rl K H' xs vs := Paired.mapP h fun _ _ r => Py.mono e r

instance : Py Int := ⟨fun _ _ i v => v = .int i, fun _ h => h⟩
instance : Py Bool := ⟨fun _ _ i v => v = .bl i, fun _ h => h⟩
instance : Py Unit := ⟨fun _ _ _ v => v = .non, fun _ h => h⟩
instance instPyList {α : Type} [Py α] : Py (List α) := ⟨fun K H xs v => ∃ p vs, v = .ref p ∧ SqL K H p vs ∧ Rl K H xs vs, fun e ⟨p, vs, h1, h2, h3⟩ => ⟨p, vs, h1, Same.seq e h2, h3.mono e⟩⟩
instance instPyTx : Py Tx := ⟨fun _ _ l v => v = .str (S l), fun _ h => h⟩
instance instPyTup {α : Type} [Py α] : Py (Tup α) := ⟨fun K H xs v => ∃ p vs, v = .ref p ∧ SqT K H p vs ∧ Rl K H (α := α) xs vs, fun e ⟨p, vs, h1, h2, h3⟩ => ⟨p, vs, h1, sqt_mono e h2, h3.mono e⟩⟩
instance instPyProd {α β : Type} [Py α] [Py β] : Py (α × β) := ⟨fun K H x v => ∃ p v1 v2, v = .ref p ∧ SqT K H p [v1, v2] ∧ Py.rep K H x.1 v1 ∧ Py.rep K H x.2 v2,
  fun e ⟨p, v1, v2, h1, h2, h3, h4⟩ => ⟨p, v1, v2, h1, sqt_mono e h2, Py.mono e h3, Py.mono e h4⟩⟩
instance instPyOption {α : Type} [Py α] : Py (Option α) := ⟨fun K H x v => match x with
    | none => v = .non
    | some a => Py.rep K H a v, fun {K H H' a v} e h => by
  cases a with
  | none => exact h
  | some a => exact Py.mono (α := α) e h⟩
structure T3 (α β γ : Type) where
  a : α
  b : β
  c : γ
  deriving DecidableEq
instance instPyT3 {α β γ : Type} [Py α] [Py β] [Py γ] : Py (T3 α β γ) := ⟨fun K H x v => ∃ p v1 v2 v3, v = .ref p ∧ SqT K H p [v1, v2, v3] ∧ Py.rep K H x.a v1 ∧ Py.rep K H x.b v2 ∧ Py.rep K H x.c v3,
  fun e ⟨p, v1, v2, v3, h1, h2, h3, h4, h5⟩ => ⟨p, v1, v2, v3, h1, sqt_mono e h2, Py.mono e h3, Py.mono e h4, Py.mono e h5⟩⟩
structure T4 (α β γ δ : Type) where
  a : α
  b : β
  c : γ
  d : δ
  deriving DecidableEq
instance instPyT4 {α β γ δ : Type} [Py α] [Py β] [Py γ] [Py δ] : Py (T4 α β γ δ) := ⟨fun K H x v => ∃ p v1 v2 v3 v4, v = .ref p ∧ SqT K H p [v1, v2, v3, v4] ∧ Py.rep K H x.a v1 ∧ Py.rep K H x.b v2 ∧ Py.rep K H x.c v3 ∧ Py.rep K H x.d v4,
  fun e ⟨p, v1, v2, v3, v4, h1, h2, h3, h4, h5, h6⟩ => ⟨p, v1, v2, v3, v4, h1, sqt_mono e h2, Py.mono e h3, Py.mono e h4, Py.mono e h5, Py.mono e h6⟩⟩

/-! ### heaps: what is told for good (Hi) within what stands (H) -/
structure Bs where
  Hi : Hp
  H : Hp
  own : List Addr
structure Ok (b : Bs) (Hi H : Hp) : Prop where
  sub : Same Hi H
  base : Same b.Hi Hi
  fr : ∀ a o, a ∉ b.own → b.H a = some o → H a = some o
  keep : ∀ a, b.H a ≠ none → H a ≠ none
  cap : ∀ a, b.H a ≠ none → b.Hi a = none → Hi a = none
structure Nx (Hi H Hi' H' : Hp) : Prop where
  im : Same Hi Hi'
  al : Same H H'
  sub : Same Hi' H'
  cap : ∀ a, H a ≠ none → Hi a = none → Hi' a = none
theorem Nx.refl {Hi H : Hp} (s : Same Hi H) : Nx Hi H Hi H := ⟨Same.refl _, Same.refl _, s, fun _ _ h => h⟩
theorem some_ne {H H' : Hp} (e : Same H H') {a : Addr} (h : H a ≠ none) : H' a ≠ none := by
  cases q : H a with
  | none => exact absurd q h
  | some o => rw [e a o q]; exact fun z => nomatch z
theorem Nx.trans {Hi H Hi1 H1 Hi2 H2 : Hp} (x : Nx Hi H Hi1 H1) (y : Nx Hi1 H1 Hi2 H2) : Nx Hi H Hi2 H2 :=
  ⟨x.im.trans y.im, x.al.trans y.al, y.sub, fun a h n => y.cap a (some_ne x.al h) (x.cap a h n)⟩
theorem same_new {H : Hp} {p : Addr} {o : HO} (h : H p = none) : Same H (upd H p o) := fun a u e => by
  rw [upd_ne (ne_of_none e h)]
  exact e
theorem hi_none {Hi H : Hp} (s : Same Hi H) {p : Addr} (h : H p = none) : Hi p = none := by
  cases q : Hi p with
  | none => rfl
  | some o => rw [s p o q] at h; cases h
theorem same_upd {Hi H : Hp} (s : Same Hi H) {p : Addr} {o : HO} : Same (upd Hi p o) (upd H p o) := fun a u e => by
  by_cases h : a = p
  · subst h
    rw [upd_same] at e ⊢
    exact e
  · rw [upd_ne h] at e ⊢
    exact s a u e
theorem Nx.new {Hi H : Hp} (s : Same Hi H) {p : Addr} {o : HO} (h : H p = none) : Nx Hi H (upd Hi p o) (upd H p o) :=
  ⟨same_new (hi_none s h), same_new h, same_upd s, fun a ha hn => by
    rw [upd_ne (fun e => ha (by rw [e]; exact h))]
    exact hn⟩
/-- a new object that is not told for good -/
theorem Nx.temp {Hi H : Hp} (s : Same Hi H) {p : Addr} {o : HO} (h : H p = none) : Nx Hi H Hi (upd H p o) :=
  ⟨Same.refl _, same_new h, s.trans (same_new h), fun _ _ hn => hn⟩
theorem Ok.nx {b : Bs} {Hi H Hi' H' : Hp} (o : Ok b Hi H) (x : Nx Hi H Hi' H') : Ok b Hi' H' :=
  ⟨x.sub, o.base.trans x.im, fun a u n h => x.al a u (o.fr a u n h), fun a h => some_ne x.al (o.keep a h), fun a h n => x.cap a (o.keep a h) (o.cap a h n)⟩
/-- an own or a new object is changed -/
theorem Ok.mut {b : Bs} {Hi H : Hp} (o : Ok b Hi H) {a : Addr} {u : HO} (hn : Hi a = none) (hb : a ∈ b.own ∨ b.H a = none) : Ok b Hi (upd H a u) where
  sub := fun c w h => by
    rw [upd_ne (ne_of_none h hn)]
    exact o.sub c w h
  base := o.base
  fr := fun c w n h => by
    have hc : c ≠ a := by
      rintro rfl
      rcases hb with z | z
      · exact n z
      · rw [z] at h; cases h
    rw [upd_ne hc]
    exact o.fr c w n h
  keep := fun c h => by
    by_cases hc : c = a
    · subst hc; rw [upd_same]; exact fun z => nomatch z
    · rw [upd_ne hc]; exact o.keep c h
  cap := o.cap

def Own (b : Bs) (Hi H : Hp) (w : Bool) (A : List Addr) : Prop := ∀ a, a ∈ A → H a ≠ none ∧ Hi a = none ∧ ((w = true ∧ a ∈ b.own) ∨ b.H a = none)
structure EnvOk (b : Bs) (L : List En) (σ : L2.St) (Hi H : Hp) : Prop where
  ok : Ok b Hi H
  len : σ.length = L.length
  im : ∀ (i : Nat) (p : Pr), L[i]? = some (.im p) → ∃ v : V, σ[i]? = some (some v) ∧ p.r Hi v
  fp : ∃ f : Nat → List Addr, (∀ (i : Nat) (w : Bool) (t : Tr), L[i]? = some (.tr w t) → ∃ v : V, σ[i]? = some (some v) ∧ t.r Hi H (f i) v ∧ Own b Hi H w (f i)) ∧
    (∀ (i j : Nat) (w u : Bool) (t t' : Tr) (a : Addr), L[i]? = some (.tr w t) → L[j]? = some (.tr u t') → a ∈ f i → a ∈ f j → i = j)
section
variable {b : Bs} {L L' : List En} {σ σ' : L2.St} {Hi H Hi' H' : Hp}
theorem EnvOk.sub (e : EnvOk b L σ Hi H) : Same Hi H := e.ok.sub
theorem EnvOk.rf (e : EnvOk b L σ Hi H) : Nx Hi H Hi H := Nx.refl e.ok.sub
/-- from here to there: what stands outside A stays -/
structure Out (A : List Addr) (Hi H Hi' H' : Hp) : Prop where
  im : Same Hi Hi'
  al : ∀ a o, a ∉ A → H a = some o → H' a = some o
  cap : ∀ a, a ∉ A → H a ≠ none → Hi a = none → Hi' a = none
theorem Out.of {A : List Addr} {l : List Addr} (o : Ok ⟨Hi, H, A⟩ Hi' H') : Out A Hi H Hi' H' := ⟨o.base, o.fr, fun a _ => o.cap a⟩
theorem Nx.out (x : Nx Hi H Hi' H') : Out [] Hi H Hi' H' := ⟨x.im, fun a o _ => x.al a o, fun a _ => x.cap a⟩
theorem Out.eq {A : List Addr} (o : Out A Hi H Hi' H') {a : Addr} (n : a ∉ A) (h : H a ≠ none) : H' a = H a := by
  cases q : H a with
  | none => exact absurd q h
  | some u => exact o.al a u n q
open Classical in
/-- the law of all changes: the slots of ch get new meanings, the trees among them stand within A or on new ground -/
theorem EnvOk.gen (e : EnvOk b L σ Hi H) {f : Nat → List Addr} (ft : ∀ (i : Nat) (w : Bool) (t : Tr), L[i]? = some (.tr w t) → ∃ v : V, σ[i]? = some (some v) ∧ t.r Hi H (f i) v ∧ Own b Hi H w (f i))
    (fd : ∀ (i j : Nat) (w u : Bool) (t t' : Tr) (a : Addr), L[i]? = some (.tr w t) → L[j]? = some (.tr u t') → a ∈ f i → a ∈ f j → i = j)
    (ok' : Ok b Hi' H') (len' : σ'.length = L'.length) (A : List Addr) (o : Out A Hi H Hi' H') (ch : Nat → Prop)
    (old : ∀ i, ¬ ch i → L'[i]? = L[i]? ∧ σ'[i]? = σ[i]?) (dj : ∀ i w t, ¬ ch i → L[i]? = some (.tr w t) → ∀ a, a ∈ f i → a ∉ A)
    (im' : ∀ i p, ch i → L'[i]? = some (.im p) → ∃ v : V, σ'[i]? = some (some v) ∧ p.r Hi' v)
    (g : Nat → List Addr) (tr' : ∀ i w t, ch i → L'[i]? = some (.tr w t) → ∃ v : V, σ'[i]? = some (some v) ∧ t.r Hi' H' (g i) v ∧ Own b Hi' H' w (g i) ∧ ∀ a, a ∈ g i → a ∈ A ∨ H a = none)
    (dis' : ∀ i j w u t t' a, ch i → ch j → L'[i]? = some (.tr w t) → L'[j]? = some (.tr u t') → a ∈ g i → a ∈ g j → i = j) : EnvOk b L' σ' Hi' H' where
  ok := ok'
  len := len'
  im := fun i p h => by
    by_cases c : ch i
    · exact im' i p c h
    · obtain ⟨h1, h2⟩ := old i c
      rw [h1] at h
      obtain ⟨v, k1, k2⟩ := e.im i p h
      exact ⟨v, h2.trans k1, p.m o.im k2⟩
  fp := by
    refine ⟨fun i => if ch i then g i else f i, fun i w t h => ?_, fun i j w u t t' a h1 h2 h3 h4 => ?_⟩
    · by_cases c : ch i
      · obtain ⟨v, k1, k2, k3, _⟩ := tr' i w t c h
        simp only [if_pos c]
        exact ⟨v, k1, k2, k3⟩
      · obtain ⟨h1, h2⟩ := old i c
        rw [h1] at h
        obtain ⟨v, k1, k2, k3⟩ := ft i w t h
        simp only [if_neg c]
        have ds := dj i w t c h
        refine ⟨v, h2.trans k1, t.m o.im (fun a ha => o.eq (ds a ha) (k3 a ha).1) k2, fun a ha => ?_⟩
        obtain ⟨q1, q2, q3⟩ := k3 a ha
        exact ⟨by rw [o.eq (ds a ha) q1]; exact q1, o.cap a (ds a ha) q1 q2, q3⟩
    · by_cases ci : ch i
      · by_cases cj : ch j
        · simp only [if_pos ci] at h3
          simp only [if_pos cj] at h4
          exact dis' i j w u t t' a ci cj h1 h2 h3 h4
        · simp only [if_pos ci] at h3
          simp only [if_neg cj] at h4
          rw [(old j cj).1] at h2
          obtain ⟨_, _, _, _, k⟩ := tr' i w t ci h1
          rcases k a h3 with z | z
          · exact absurd z (dj j u t' cj h2 a h4)
          · obtain ⟨_, _, _, k3⟩ := ft j u t' h2
            exact absurd z (k3 a h4).1
      · by_cases cj : ch j
        · simp only [if_neg ci] at h3
          simp only [if_pos cj] at h4
          rw [(old i ci).1] at h1
          obtain ⟨_, _, _, _, k⟩ := tr' j u t' cj h2
          rcases k a h4 with z | z
          · exact absurd z (dj i w t ci h1 a h3)
          · obtain ⟨_, _, _, k3⟩ := ft i w t h1
            exact absurd z (k3 a h3).1
        · simp only [if_neg ci] at h3
          simp only [if_neg cj] at h4
          rw [(old i ci).1] at h1
          rw [(old j cj).1] at h2
          exact fd i j w u t t' a h1 h2 h3 h4
theorem EnvOk.nx (e : EnvOk b L σ Hi H) (x : Nx Hi H Hi' H') : EnvOk b L σ Hi' H' := by
  obtain ⟨f, ft, fd⟩ := e.fp
  exact e.gen ft fd (e.ok.nx x) e.len [] x.out (fun _ => False) (fun _ _ => ⟨rfl, rfl⟩) (fun _ _ _ _ _ _ _ h => nomatch h) (fun _ _ h => h.elim) f (fun _ _ _ h => h.elim) (fun _ _ _ _ _ _ _ h => h.elim)

inductive Wk : List En → List En → Prop where
  | nil : Wk [] []
  | s {e : En} {L L' : List En} (h : Wk L L') : Wk (e :: L) (e :: L')
  | n {e : En} {L L' : List En} (h : Wk L L') : Wk (e :: L) (.no :: L')
theorem Wk.refl : ∀ L : List En, Wk L L
  | [] => .nil
  | _ :: r => .s (Wk.refl r)
theorem Wk.length {L L' : List En} (w : Wk L L') : L'.length = L.length := by
  induction w with
  | nil => rfl
  | s _ ih => simp [ih]
  | n _ ih => simp [ih]
theorem Wk.get {L L' : List En} (w : Wk L L') : ∀ {i : Nat} {e : En}, L'[i]? = some e → e = .no ∨ L[i]? = some e := by
  induction w with
  | nil => intro i e h; simp at h
  | s _ ih =>
    intro i e h
    cases i with
    | zero => exact .inr h
    | succ i => exact ih (i := i) (by simpa using h)
  | n _ ih =>
    intro i e h
    cases i with
    | zero =>
      have : En.no = e := by simpa using h
      exact .inl this.symm
    | succ i => exact ih (i := i) (by simpa using h)
theorem EnvOk.wk (e : EnvOk b L σ Hi H) (w : Wk L L') : EnvOk b L' σ Hi H where
  ok := e.ok
  len := e.len.trans w.length.symm
  im := fun i p h => (w.get h).elim (fun z => nomatch z) (e.im i p)
  fp := by
    obtain ⟨f, ft, fd⟩ := e.fp
    exact ⟨f, fun i u t h => (w.get h).elim (fun z => nomatch z) (ft i u t), fun i j u u' t t' a h1 h2 h3 h4 => (w.get h1).elim (fun z => nomatch z) fun g1 => (w.get h2).elim (fun z => nomatch z) fun g2 => fd i j u u' t t' a g1 g2 h3 h4⟩
theorem get_set_of {i j : Nat} {c en : En} (hj : i = j) (h : (L.set i c)[j]? = some en) : en = c ∧ i < L.length := by
  subst hj
  have hl : i < (L.set i c).length := (List.getElem?_eq_some_iff.mp h).1
  rw [List.length_set] at hl
  rw [List.getElem?_set_self hl] at h
  cases h
  exact ⟨rfl, hl⟩
/-- one slot gets a new meaning: a value, a tree on new ground, nothing -/
theorem EnvOk.slot {i : Nat} {c : En} {ov : Option V} (e : EnvOk b L σ Hi H) (x : Nx Hi H Hi' H') (him : ∀ p, c = .im p → ∃ v, ov = some v ∧ p.r Hi' v) (A : List Addr)
    (htr : ∀ w t, c = .tr w t → ∃ v, ov = some v ∧ t.r Hi' H' A v ∧ ∀ a, a ∈ A → H a = none ∧ H' a ≠ none ∧ Hi' a = none) : EnvOk b (L.set i c) (σ.set i ov) Hi' H' := by
  obtain ⟨f, ft, fd⟩ := e.fp
  have sg : ∀ {j : Nat} {en : En}, i = j → (L.set i c)[j]? = some en → en = c ∧ (σ.set i ov)[j]? = some ov := fun {j en} hj h => by
    obtain ⟨h1, h2⟩ := get_set_of hj h
    subst hj
    exact ⟨h1, List.getElem?_set_self (by rw [e.len]; exact h2)⟩
  have bn : ∀ {a : Addr}, H a = none → b.H a = none := fun {a} h => by
    cases q : b.H a with
    | none => rfl
    | some u => exact absurd h (e.ok.keep a (by rw [q]; exact fun z => nomatch z))
  refine e.gen ft fd (e.ok.nx x) (by rw [List.length_set, List.length_set]; exact e.len) [] x.out (fun j => i = j) (fun j h => ⟨List.getElem?_set_ne h, List.getElem?_set_ne h⟩) (fun _ _ _ _ _ _ _ h => nomatch h)
    (fun j p hj h => ?_) (fun _ => A) (fun j w t hj h => ?_) (fun j k _ _ _ _ _ hj hk _ _ _ _ => hj.symm.trans hk)
  · obtain ⟨h1, h2⟩ := sg hj h
    obtain ⟨v, h3, h4⟩ := him p h1.symm
    exact ⟨v, by rw [h2, h3], h4⟩
  · obtain ⟨h1, h2⟩ := sg hj h
    obtain ⟨v, h3, h4, h5⟩ := htr w t h1.symm
    exact ⟨v, by rw [h2, h3], h4, fun a ha => ⟨(h5 a ha).2.1, (h5 a ha).2.2, .inr (bn (h5 a ha).1)⟩, fun a ha => .inr (h5 a ha).1⟩
theorem EnvOk.set {i : Nat} {p : Pr} {v : V} (e : EnvOk b L σ Hi H) (r : p.r Hi v) : EnvOk b (L.set i (.im p)) (σ.set i (some v)) Hi H :=
  e.slot e.rf (fun q h => by cases h; exact ⟨v, rfl, r⟩) [] (fun _ _ h => nomatch h)
theorem EnvOk.unset {i : Nat} (e : EnvOk b L σ Hi H) : EnvOk b (L.set i .no) (σ.set i none) Hi H :=
  e.slot e.rf (fun _ h => nomatch h) [] (fun _ _ h => nomatch h)
/-- a name comes to hold a fresh tree alone -/
theorem EnvOk.setT {i : Nat} {w : Bool} {t : Tr} {A : List Addr} {v : V} (e : EnvOk b L σ Hi H) (x : Nx Hi H Hi' H') (r : t.r Hi' H' A v) (hA : ∀ a, a ∈ A → H a = none ∧ H' a ≠ none ∧ Hi' a = none) : EnvOk b (L.set i (.tr w t)) (σ.set i (some v)) Hi' H' :=
  e.slot x (fun _ h => nomatch h) A (fun w' t' h => by cases h; exact ⟨v, rfl, r, hA⟩)
/-- a name comes to hold a fresh object alone -/
theorem EnvOk.setFresh {i : Nat} {c : Ct} {p : Addr} {o : HO} (e : EnvOk b L σ Hi H) (x : Nx Hi H Hi' H') (hp : H' p = some o) (hn : H p = none) (hpi : Hi' p = none) (r : c.r Hi' o) : EnvOk b (L.set i (.mu c)) (σ.set i (some (.ref p))) Hi' H' :=
  e.setT (A := [p]) x ⟨p, o, rfl, rfl, hp, r⟩ fun a ha => by
    cases List.mem_singleton.mp ha
    exact ⟨hn, (by rw [hp]; exact fun z => nomatch z), hpi⟩
/-- a new object, held by the name alone -/
theorem EnvOk.setNew {i : Nat} {c : Ct} {p : Addr} {o : HO} (e : EnvOk b L σ Hi H) (hp : H p = none) (r : c.r Hi o) : EnvOk b (L.set i (.mu c)) (σ.set i (some (.ref p))) Hi (upd H p o) :=
  e.setFresh (Nx.temp e.sub hp) upd_same hp (hi_none e.sub hp) r
theorem Ok.within {A : List Addr} (e : Ok b Hi H) (o : Ok ⟨Hi, H, A⟩ Hi' H') (hA : ∀ a, a ∈ A → a ∈ b.own ∨ b.H a = none) : Ok b Hi' H' :=
  ⟨o.sub, e.base.trans o.base, fun a u n h => o.fr a u (fun z => (hA a z).elim n fun q => by rw [q] at h; cases h) (e.fr a u n h), fun a h => o.keep a (e.keep a h), fun a h n => o.cap a (e.keep a h) (e.cap a h n)⟩
/-- the tree that a name holds alone is changed in its place -/
theorem EnvOk.updT {i : Nat} {w : Bool} {t : Tr} (e : EnvOk b L σ Hi H) (hL : L[i]? = some (.tr w t)) : ∃ v A, σ[i]? = some (some v) ∧ t.r Hi H A v ∧ Own b Hi H w A ∧
    ∀ t' A' Hi' H', Ok ⟨Hi, H, A⟩ Hi' H' → t'.r Hi' H' A' v → (∀ a, a ∈ A' → H' a ≠ none ∧ Hi' a = none ∧ (a ∈ A ∨ H a = none)) → EnvOk b (L.set i (.tr w t')) σ Hi' H' := by
  obtain ⟨f, ft, fd⟩ := e.fp
  obtain ⟨v, h1, h2, h3⟩ := ft i w t hL
  have bn : ∀ {a : Addr}, H a = none → b.H a = none := fun {a} h => by
    cases q : b.H a with
    | none => rfl
    | some u => exact absurd h (e.ok.keep a (by rw [q]; exact fun z => nomatch z))
  refine ⟨v, f i, h1, h2, h3, fun t' A' Hi' H' o r hA => ?_⟩
  refine e.gen ft fd (e.ok.within o fun a ha => (h3 a ha).2.2.elim (fun z => .inl z.2) .inr) (by rw [List.length_set]; exact e.len) (f i) (.of (l := []) o) (fun j => i = j) (fun j h => ⟨List.getElem?_set_ne h, rfl⟩)
    (fun j u t2 hj h a ha z => hj (fd i j w u t t2 a hL h z ha)) (fun j p hj h => nomatch (get_set_of hj h).1) (fun _ => A') (fun j u t2 hj h => ?_) (fun j k _ _ _ _ _ hj hk _ _ _ _ => hj.symm.trans hk)
  have q := (get_set_of hj h).1
  cases q
  subst hj
  refine ⟨v, h1, r, fun a ha => ?_, fun a ha => (hA a ha).2.2⟩
  obtain ⟨q1, q2, q3⟩ := hA a ha
  exact ⟨q1, q2, q3.elim (fun z => (h3 a z).2.2) fun z => .inr (bn z)⟩
theorem EnvOk.mu (e : EnvOk b L σ Hi H) (i : Nat) (c : Ct) (h : L[i]? = some (.mu c)) : ∃ (a : Addr) (o : HO), σ[i]? = some (some (V.ref a)) ∧ H a = some o ∧ Hi a = none ∧ (a ∈ b.own ∨ b.H a = none) ∧ c.r Hi o := by
  obtain ⟨f, ft, fd⟩ := e.fp
  obtain ⟨v, h1, ⟨a, o, rfl, h4, h5, h6⟩, h3⟩ := ft i false _ h
  obtain ⟨k1, k2, k3⟩ := h3 a (by rw [h4]; exact List.mem_singleton.mpr rfl)
  exact ⟨a, o, h1, h5, k2, k3.elim (fun z => .inl z.2) .inr, h6⟩
theorem EnvOk.dis (e : EnvOk b L σ Hi H) (i j : Nat) (c d : Ct) (a : Addr) (h1 : L[i]? = some (.mu c)) (h2 : L[j]? = some (.mu d)) (h3 : σ[i]? = some (some (.ref a))) (h4 : σ[j]? = some (some (.ref a))) : i = j := by
  obtain ⟨f, ft, fd⟩ := e.fp
  obtain ⟨v, k1, ⟨p, o, rfl, k4, _⟩, _⟩ := ft i false _ h1
  obtain ⟨u, q1, ⟨p', o', rfl, q4, _⟩, _⟩ := ft j false _ h2
  rw [h3] at k1
  cases k1
  rw [h4] at q1
  cases q1
  exact fd i j false false _ _ a h1 h2 (by rw [k4]; exact List.mem_singleton.mpr rfl) (by rw [q4]; exact List.mem_singleton.mpr rfl)
theorem Ok.mut1 {a : Addr} {u o : HO} (s : Same Hi H) (hn : Hi a = none) (ho : H a = some o) : Ok ⟨Hi, H, [a]⟩ Hi (upd H a u) :=
  (show Ok ⟨Hi, H, [a]⟩ Hi H from ⟨s, Same.refl _, fun _ _ _ h => h, fun _ h => h, fun _ _ h => h⟩).mut hn (.inl (List.mem_singleton.mpr rfl))
/-- the object that a name holds alone is changed -/
theorem EnvOk.mut {i : Nat} {c c' : Ct} {a : Addr} {o' : HO} (e : EnvOk b L σ Hi H) (hL : L[i]? = some (.mu c)) (hs : σ[i]? = some (some (.ref a))) (r : c'.r Hi o') : EnvOk b (L.set i (.mu c')) σ Hi (upd H a o') := by
  obtain ⟨v, A, h1, ⟨p, o, rfl, h4, h5, h6⟩, h3, go⟩ := e.updT hL
  rw [hs] at h1
  cases h1
  subst h4
  have hn := (h3 a (List.mem_singleton.mpr rfl)).2.1
  exact go _ [a] Hi _ (Ok.mut1 e.sub hn h5) ⟨a, o', rfl, rfl, upd_same, r⟩ fun c hc => by
    cases List.mem_singleton.mp hc
    exact ⟨(by rw [upd_same]; exact fun z => nomatch z), hn, .inl (List.mem_singleton.mpr rfl)⟩
/-- the ground of a tree, told for good -/
def plus (Hi H : Hp) (A : List Addr) : Hp := fun a => if a ∈ A then H a else Hi a
theorem plus_in {A : List Addr} {a : Addr} (h : a ∈ A) : plus Hi H A a = H a := if_pos h
theorem plus_out {A : List Addr} {a : Addr} (h : a ∉ A) : plus Hi H A a = Hi a := if_neg h
theorem same_plus {A : List Addr} (hA : ∀ a, a ∈ A → Hi a = none) : Same Hi (plus Hi H A) := fun a u h => by
  rw [plus_out fun z => by rw [hA a z] at h; cases h]; exact h
theorem plus_same {A : List Addr} (s : Same Hi H) : Same (plus Hi H A) H := fun a u h => by
  by_cases z : a ∈ A
  · rw [plus_in z] at h; exact h
  · rw [plus_out z] at h; exact s a u h
/-- a tree may be told as a value, once its ground is told for good -/
def Tells (t : Tr) (p : Pr) : Prop := ∀ Hi H A v, (∀ a, a ∈ A → Hi a = none) → Same Hi H → t.r Hi H A v → p.r (plus Hi H A) v
/-- a tree on the name's own ground is told for good -/
theorem EnvOk.frzT {i : Nat} {t : Tr} {p : Pr} (e : EnvOk b L σ Hi H) (hL : L[i]? = some (.tr false t)) (r : Tells t p) : ∃ Hi', Same Hi Hi' ∧ EnvOk b (L.set i (.im p)) σ Hi' H := by
  obtain ⟨f, ft, fd⟩ := e.fp
  obtain ⟨v, h1, h2, h3⟩ := ft i false t hL
  have hn : ∀ a, a ∈ f i → Hi a = none := fun a ha => (h3 a ha).2.1
  have sm : Same Hi (plus Hi H (f i)) := same_plus hn
  refine ⟨_, sm, e.gen ft fd ⟨plus_same e.sub, e.ok.base.trans sm, e.ok.fr, e.ok.keep, fun a h n => ?_⟩ (by rw [List.length_set]; exact e.len) (f i) ⟨sm, fun _ _ _ h => h, fun a ha _ hc => by rw [plus_out ha]; exact hc⟩ (fun j => i = j) (fun j h => ⟨List.getElem?_set_ne h, rfl⟩)
    (fun j u t2 hj h a ha z => hj (fd i j false u t t2 a hL h z ha)) (fun j q hj h => ?_) (fun _ => []) (fun j u t2 hj h => nomatch (get_set_of hj h).1) (fun j k _ _ _ _ _ hj hk _ _ _ _ => hj.symm.trans hk)⟩
  · rw [plus_out fun z => (h3 a z).2.2.elim (fun q => nomatch q.1) h]
    exact e.ok.cap a h n
  · cases (get_set_of hj h).1
    subst hj
    exact ⟨v, h1, r Hi H (f i) v hn e.sub h2⟩
/-- a tree is told for a while -/
theorem EnvOk.thawA {i : Nat} {w : Bool} {t : Tr} {p : Pr} (e : EnvOk b L σ Hi H) (hL : L[i]? = some (.tr w t)) (r : Tells t p) : ∃ A v b', t.r Hi H A v ∧ (∀ a, a ∈ A → Hi a = none) ∧ Same Hi (plus Hi H A) ∧ EnvOk b' (L.set i (.im p)) σ (plus Hi H A) H := by
  obtain ⟨f, ft, fd⟩ := e.fp
  obtain ⟨v, h1, h2, h3⟩ := ft i w t hL
  have hn : ∀ a, a ∈ f i → Hi a = none := fun a ha => (h3 a ha).2.1
  have sm : Same Hi (plus Hi H (f i)) := same_plus hn
  let all : List Addr := (List.range L.length).flatMap f
  have hall : ∀ (j : Nat) (u : Bool) (t2 : Tr), L[j]? = some (.tr u t2) → ∀ a, a ∈ f j → a ∈ all := fun j u t2 h a ha => List.mem_flatMap.mpr ⟨j, List.mem_range.mpr (List.getElem?_eq_some_iff.mp h).1, ha⟩
  refine ⟨f i, v, ⟨plus Hi H (f i), fun a => if a ∈ all then none else H a, all⟩, h2, hn, sm, ?_, by rw [List.length_set]; exact e.len, fun j q h => ?_, f, fun j u t2 h => ?_, fun j k u u' t2 t3 a g1 g2 g3 g4 => ?_⟩
  · refine ⟨plus_same e.sub, Same.refl _, fun a o _ h => ?_, fun a h => ?_, fun a _ h => h⟩
    · have h : (if a ∈ all then none else H a) = some o := h
      by_cases z : a ∈ all
      · rw [if_pos z] at h; cases h
      · rw [if_neg z] at h; exact h
    · have h : (if a ∈ all then none else H a) ≠ none := h
      by_cases z : a ∈ all
      · exact absurd (if_pos z) h
      · rw [if_neg z] at h; exact h
  · by_cases hj : i = j
    · cases (get_set_of hj h).1
      subst hj
      exact ⟨v, h1, r Hi H (f i) v hn e.sub h2⟩
    · rw [List.getElem?_set_ne hj] at h
      obtain ⟨v', k1, k2⟩ := e.im j q h
      exact ⟨v', k1, q.m sm k2⟩
  · by_cases hj : i = j
    · exact nomatch (get_set_of hj h).1
    · rw [List.getElem?_set_ne hj] at h
      obtain ⟨v', k1, k2, k3⟩ := ft j u t2 h
      refine ⟨v', k1, t2.m sm (fun _ _ => rfl) k2, fun a ha => ⟨(k3 a ha).1, ?_, .inr (if_pos (hall j u t2 h a ha))⟩⟩
      rw [plus_out fun z => hj (fd i j w u t t2 a hL h z ha)]
      exact (k3 a ha).2.1
  · have bk : ∀ {j : Nat} {u : Bool} {t2 : Tr}, (L.set i (En.im p))[j]? = some (.tr u t2) → L[j]? = some (.tr u t2) := fun {j u t2} h => by
      by_cases hj : i = j
      · exact nomatch (get_set_of hj h).1
      · rw [List.getElem?_set_ne hj] at h; exact h
    exact fd j k u u' t2 t3 a (bk g1) (bk g2) g3 g4
theorem EnvOk.thawT {i : Nat} {w : Bool} {t : Tr} {p : Pr} (e : EnvOk b L σ Hi H) (hL : L[i]? = some (.tr w t)) (r : Tells t p) : ∃ Hi' b', Same Hi Hi' ∧ EnvOk b' (L.set i (.im p)) σ Hi' H :=
  let ⟨_, _, b', _, _, h3, h4⟩ := e.thawA hL r
  ⟨_, b', h3, h4⟩
theorem tells_one {c : Ct} {p : Pr} (r : ∀ (Hi : Hp) (a : Addr) (Hi' : Hp) (o : HO), Same Hi Hi' → c.r Hi o → Hi' a = some o → p.r Hi' (.ref a)) : Tells (one c) p := fun Hi H A v hn s ⟨a, o, h1, h2, h3, h4⟩ => by
  subst h1
  exact r Hi a _ o (same_plus hn) h4 (by rw [plus_in (by rw [h2]; exact List.mem_singleton.mpr rfl)]; exact h3)
/-- what a name holds alone is told for good -/
theorem EnvOk.frz {i : Nat} {c : Ct} {p : Pr} (e : EnvOk b L σ Hi H) (hL : L[i]? = some (.mu c)) (r : ∀ (Hi : Hp) (a : Addr) (Hi' : Hp) (o : HO), Same Hi Hi' → c.r Hi o → Hi' a = some o → p.r Hi' (.ref a)) : ∃ Hi', EnvOk b (L.set i (.im p)) σ Hi' H :=
  let ⟨Hi', _, h⟩ := e.frzT hL (tells_one r)
  ⟨Hi', h⟩
end

/-! ### what is wanted behind a computation -/
def PX (K : Fg) (E : XK) {α : Type} (m : M α) (Hi H : Hp) (k : α → Hp → Hp → Prop) : Prop := match m with
  | .ok a => ∀ Hi' H', Nx Hi H Hi' H' → k a Hi' H'
  | .error (.rs c) => ∀ Hi' H', Nx Hi H Hi' H' → E (.ref (He.ga K c)) none H'
  | .error .st => False
section
variable {K : Fg} {E : XK} {α β : Type} {m : M α} {f : α → M β} {Hi H Hi' H' : Hp}
theorem PX.nx {k : α → Hp → Hp → Prop} (x : Nx Hi H Hi' H') (h : PX K E m Hi H k) : PX K E m Hi' H' k := by
  cases m with
  | ok a => exact fun _ _ y => h _ _ (x.trans y)
  | error e =>
    cases e with
    | rs c => exact fun _ _ y => h _ _ (x.trans y)
    | st => exact h
theorem PX.bind {k : β → Hp → Hp → Prop} (h : PX K E (m >>= f) Hi H k) : PX K E m Hi H fun a Hi' H' => PX K E (f a) Hi' H' k := by
  cases m with
  | ok a => exact fun _ _ y => PX.nx (m := f a) y h
  | error e =>
    cases e with
    | rs c => exact h
    | st => exact h
theorem PX.imp {k k' : α → Hp → Hp → Prop} (h : PX K E m Hi H k) (i : ∀ a Hi' H', Nx Hi H Hi' H' → k a Hi' H' → k' a Hi' H') : PX K E m Hi H k' := by
  cases m with
  | ok a => exact fun _ _ y => i a _ _ y (h _ _ y)
  | error e =>
    cases e with
    | rs c => exact h
    | st => exact h
theorem PX.chk {p : Prop} [Decidable p] {g : Unit → M β} {k : β → Hp → Hp → Prop} (h : PX K E (chk p >>= g) Hi H k) : p ∧ PX K E (g ()) Hi H k := by
  unfold G.chk at h
  by_cases hp : p
  · rw [if_pos hp] at h; exact ⟨hp, h⟩
  · rw [if_neg hp] at h; exact h.elim
theorem PX.ofO {o : Option α} {g : α → M β} {k : β → Hp → Hp → Prop} (h : PX K E (ofO o >>= g) Hi H k) : ∃ a, o = some a ∧ PX K E (g a) Hi H k := by
  cases o with
  | none => exact h.elim
  | some a => exact ⟨a, rfl, h⟩
theorem PX.ofO1 {o : Option α} {k : α → Hp → Hp → Prop} (h : PX K E (G.ofO o) Hi H k) : ∃ a, o = some a ∧ PX K E (pure a) Hi H k := by
  cases o with
  | none => exact h.elim
  | some a => exact ⟨a, rfl, h⟩
end
/-- behind an expression -/
abbrev PV (K : Fg) (E : XK) {α : Type} [Py α] (m : M α) (Hi H : Hp) (Q : VK) : Prop := PX K E m Hi H fun a Hi' H' => ∀ v, Py.rep K Hi' a v → Q v H'

/-- the weakest readings -/
def wpE (X : Cx) (e : Expr) : TE := fun σ H Q => ∀ (pins : List (Addr × Obj)) (s : Shared), Inv X pins σ H s → wpAny (model X.prog X.w) X.A (eval e X.env) (EP X pins σ Q) X.xe s
def wpT (X : Cx) (e : Expr) : TT := fun σ H Q => ∀ (pins : List (Addr × Obj)) (s : Shared), Inv X pins σ H s → wpAny (model X.prog X.w) X.A (isTrue e X.env (eval e X.env)) (TP X pins σ Q) X.xe s
def wpW (X : Cx) (e : Expr) : TT := fun σ H Q => ∀ (whole : Sem Value) (pins : List (Addr × Obj)) (s : Shared), Inv X pins σ H s → wpAny (model X.prog X.w) X.A (isTrue e X.env whole) (TP X pins σ Q) X.xe s
def wpA (X : Cx) (es : List Expr) : TA := fun σ H Q => ∀ (pos : Pos) (pins : List (Addr × Obj)) (s : Shared), Inv X pins σ H s → wpAny (model X.prog X.w) X.A (spliced (backTo pos (starEach es X.env))) (AP X pins σ Q) X.xe s
def wpI (X : Cx) (tg iter : Expr) : TI := fun σ H R => ∀ (pins : List (Addr × Obj)) (s : Shared), Inv X pins σ H s → wpAny (model X.prog X.w) X.A (eval iter X.env) (fun v s1 => wpAny (model X.prog X.w) X.A (pyIter v) (PIE X pins σ tg R) X.xe s1) X.xe s
def wpS (X : Cx) (st : Stmt) : TS := fun D σ H => ∀ (pins : List (Addr × Obj)) (s : Shared), Inv X pins σ H s → wpAny (model X.prog X.w) X.A (exec st X.env) (SP X pins D) X.xe s
def wpB (X : Cx) (st : List Stmt) : TS := fun D σ H => ∀ (pins : List (Addr × Obj)) (s : Shared), Inv X pins σ H s → wpAny (model X.prog X.w) X.A (execs st X.env) (SP X pins D) X.xe s
def wpO (X : Cx) (e : Option Expr) : TO := fun σ H Q => ∀ (pins : List (Addr × Obj)) (s : Shared), Inv X pins σ H s → wpAny (model X.prog X.w) X.A (evalPart e X.env) (fun u s' => ∃ o H', Inv X pins σ H' s' ∧ IsPart u o ∧ Q o H') X.xe s
section
variable {X : Cx}
theorem pe_wp {e : Expr} : PE X e (wpE X e) := ⟨fun pins s _ _ _ I h => h pins s I⟩
theorem pt_wp {e : Expr} : PT X e (wpT X e) := ⟨fun pins s _ _ _ I h => h pins s I⟩
theorem pw_wp {e : Expr} : PW X e (wpW X e) := ⟨fun whole pins s _ _ _ I h => h whole pins s I⟩
theorem pa_wp {es : List Expr} : PA X es (wpA X es) := ⟨fun pos pins s _ _ _ I h => h pos pins s I⟩
theorem pi_wp {tg iter : Expr} : PI X tg iter (wpI X tg iter) := ⟨fun pins s _ _ _ I h => h pins s I⟩
theorem ps_wp {st : Stmt} : PS X st (wpS X st) := ⟨fun pins s _ _ _ I h => h pins s I⟩
theorem pss_wp {st : List Stmt} : PSs X st (wpB X st) := ⟨fun pins s _ _ _ I h => h pins s I⟩
theorem po_wp {e : Option Expr} : PO X e (wpO X e) := ⟨fun pins s _ _ _ I h => h pins s I⟩
theorem PE.wp {e : Expr} {t : TE} {σ : L2.St} {H : Hp} {Q : VK} (d : PE X e t) (h : t σ H Q) : wpE X e σ H Q := fun pins s I => d.run pins s σ H Q I h
theorem PT.wp {e : Expr} {t : TT} {σ : L2.St} {H : Hp} {Q : Bool → Hp → Prop} (d : PT X e t) (h : t σ H Q) : wpT X e σ H Q := fun pins s I => d.run pins s σ H Q I h
theorem PW.wp {e : Expr} {t : TT} {σ : L2.St} {H : Hp} {Q : Bool → Hp → Prop} (d : PW X e t) (h : t σ H Q) : wpW X e σ H Q := fun whole pins s I => d.run whole pins s σ H Q I h
theorem PA.wp {es : List Expr} {t : TA} {σ : L2.St} {H : Hp} {Q : List V → Hp → Prop} (d : PA X es t) (h : t σ H Q) : wpA X es σ H Q := fun pos pins s I => d.run pos pins s σ H Q I h
theorem PI.wp {tg iter : Expr} {t : TI} {σ : L2.St} {H : Hp} {R : It → Hp → Prop} (d : PI X tg iter t) (h : t σ H R) : wpI X tg iter σ H R := fun pins s I => d.run pins s σ H R I h
theorem PS.wp {st : Stmt} {t : TS} {σ : L2.St} {H : Hp} {D : Ends} (d : PS X st t) (h : t D σ H) : wpS X st D σ H := fun pins s I => d.run pins s σ H D I h
theorem PSs.wp {st : List Stmt} {t : TS} {σ : L2.St} {H : Hp} {D : Ends} (d : PSs X st t) (h : t D σ H) : wpB X st D σ H := fun pins s I => d.run pins s σ H D I h
theorem PO.wp {e : Option Expr} {t : TO} {σ : L2.St} {H : Hp} {Q : Option Int → Hp → Prop} (d : PO X e t) (h : t σ H Q) : wpO X e σ H Q := fun pins s I => d.run pins s σ H Q I h
end

structure JE (X : Cx) (K : Fg) (b : Bs) (L : List En) (E : XK) (e : Expr) {α : Type} [Py α] (m : M α) : Prop where
  go : ∀ σ Hi H, EnvOk b L σ Hi H → ∀ Q : VK, PV K E m Hi H Q → wpE X e σ H Q
structure JT (X : Cx) (K : Fg) (b : Bs) (L : List En) (E : XK) (e : Expr) (m : M Bool) : Prop where
  go : ∀ σ Hi H, EnvOk b L σ Hi H → ∀ Q : Bool → Hp → Prop, PX K E m Hi H (fun a _ H' => Q a H') → wpT X e σ H Q
structure JW (X : Cx) (K : Fg) (b : Bs) (L : List En) (E : XK) (e : Expr) (m : M Bool) : Prop where
  go : ∀ σ Hi H, EnvOk b L σ Hi H → ∀ Q : Bool → Hp → Prop, PX K E m Hi H (fun a _ H' => Q a H') → wpW X e σ H Q
/-- an argument list, item by item of one type -/
structure JL (X : Cx) (K : Fg) (b : Bs) (L : List En) (E : XK) (es : List Expr) {α : Type} [Py α] (m : M (List α)) : Prop where
  go : ∀ σ Hi H, EnvOk b L σ Hi H → ∀ Q : List V → Hp → Prop, PX K E m Hi H (fun xs Hi' H' => ∀ vs, Rl K Hi' xs vs → Q vs H') → wpA X es σ H Q
  len : ∀ xs, m = .ok xs → xs.length = es.length
/-- what is walked -/
structure ItOk (K : Fg) {α : Type} [Py α] (J : It) (Hi0 : Hp) (xs : List α) : Prop where
  go : ∀ (i : Nat) (y : α) (Hi H : Hp), Same Hi0 Hi → Same Hi H → xs[i]? = some y → J.go i H ∧ ∀ (x : V) (H' : Hp), J.yld i H x H' → ∃ Hi', Nx Hi H Hi' H' ∧ Py.rep K Hi' y x
  stop : ∀ (i : Nat) (Hi H : Hp), Same Hi0 Hi → Same Hi H → xs.length ≤ i → J.stop i H
structure JI (X : Cx) (K : Fg) (b : Bs) (L : List En) (E : XK) (tg iter : Expr) {α : Type} [Py α] (m : M (List α)) : Prop where
  go : ∀ σ Hi H, EnvOk b L σ Hi H → ∀ R : It → Hp → Prop, PX K E m Hi H (fun xs Hi' H' => ∀ J, ItOk K J Hi' xs → R J H') → wpI X tg iter σ H R
/-- a target: the same rule in each of these contexts -/
structure JG {ι : Type} (X : ι → Cx) (K : Fg) (tg : Expr) (sl : List Nat) {α : Type} [Py α] (u : α → List En → List En) : Prop where
  ex : ∃ g : TG, (∀ i, PG (X i) tg g) ∧ ∀ (b : Bs) (L : List En) (σ : L2.St) (Hi H : Hp) (y : α) (x : V) (Q : L2.St → Hp → Prop), EnvOk b L σ Hi H → Py.rep K Hi y x → (∀ σ', EnvOk b (u y L) σ' Hi H → wipe σ' sl = wipe σ sl → Q σ' H) → g x σ H Q
structure JO (X : Cx) (K : Fg) (b : Bs) (L : List En) (E : XK) (e : Option Expr) (m : M (Option Int)) : Prop where
  go : ∀ σ Hi H, EnvOk b L σ Hi H → ∀ Q : Option Int → Hp → Prop, PX K E m Hi H (fun o _ H' => Q o H') → wpO X e σ H Q
section
variable {X : Cx} {K : Fg} {b : Bs} {L : List En} {E : XK} {e tg : Expr} {es : List Expr} {α : Type} [Py α]
theorem JE.of {m : M α} (h : ∃ t : TE, PE X e t ∧ ∀ σ Hi H, EnvOk b L σ Hi H → ∀ Q : VK, PV K E m Hi H Q → t σ H Q) : JE X K b L E e m := let ⟨_, d, p⟩ := h; ⟨fun σ Hi H en Q z => PE.wp d (p σ Hi H en Q z)⟩
theorem JE.ex {m : M α} (h : JE X K b L E e m) : ∃ t : TE, PE X e t ∧ ∀ σ Hi H, EnvOk b L σ Hi H → ∀ Q : VK, PV K E m Hi H Q → t σ H Q := ⟨_, pe_wp, h.go⟩
theorem JT.of {m : M Bool} (h : ∃ t : TT, PT X e t ∧ ∀ σ Hi H, EnvOk b L σ Hi H → ∀ Q : Bool → Hp → Prop, PX K E m Hi H (fun a _ H' => Q a H') → t σ H Q) : JT X K b L E e m := let ⟨_, d, p⟩ := h; ⟨fun σ Hi H en Q z => PT.wp d (p σ Hi H en Q z)⟩
theorem JT.ex {m : M Bool} (h : JT X K b L E e m) : ∃ t : TT, PT X e t ∧ ∀ σ Hi H, EnvOk b L σ Hi H → ∀ Q : Bool → Hp → Prop, PX K E m Hi H (fun a _ H' => Q a H') → t σ H Q := ⟨_, pt_wp, h.go⟩
theorem JW.of {m : M Bool} (h : ∃ t : TT, PW X e t ∧ ∀ σ Hi H, EnvOk b L σ Hi H → ∀ Q : Bool → Hp → Prop, PX K E m Hi H (fun a _ H' => Q a H') → t σ H Q) : JW X K b L E e m := let ⟨_, d, p⟩ := h; ⟨fun σ Hi H en Q z => PW.wp d (p σ Hi H en Q z)⟩
theorem JW.ex {m : M Bool} (h : JW X K b L E e m) : ∃ t : TT, PW X e t ∧ ∀ σ Hi H, EnvOk b L σ Hi H → ∀ Q : Bool → Hp → Prop, PX K E m Hi H (fun a _ H' => Q a H') → t σ H Q := ⟨_, pw_wp, h.go⟩
theorem JO.of {o : Option Expr} {m : M (Option Int)} (h : ∃ t : TO, PO X o t ∧ ∀ σ Hi H, EnvOk b L σ Hi H → ∀ Q : Option Int → Hp → Prop, PX K E m Hi H (fun a _ H' => Q a H') → t σ H Q) : JO X K b L E o m := let ⟨_, d, p⟩ := h; ⟨fun σ Hi H en Q z => PO.wp d (p σ Hi H en Q z)⟩
theorem JO.ex {o : Option Expr} {m : M (Option Int)} (h : JO X K b L E o m) : ∃ t : TO, PO X o t ∧ ∀ σ Hi H, EnvOk b L σ Hi H → ∀ Q : Option Int → Hp → Prop, PX K E m Hi H (fun a _ H' => Q a H') → t σ H Q := ⟨_, po_wp, h.go⟩
theorem JL.of {m : M (List α)} (h : ∃ t : TA, PA X es t ∧ ∀ σ Hi H, EnvOk b L σ Hi H → ∀ Q : List V → Hp → Prop, PX K E m Hi H (fun xs Hi' H' => ∀ vs, Rl K Hi' xs vs → Q vs H') → t σ H Q) (l : ∀ xs, m = .ok xs → xs.length = es.length) : JL X K b L E es m := let ⟨_, d, p⟩ := h; ⟨fun σ Hi H en Q z => PA.wp d (p σ Hi H en Q z), l⟩
theorem JL.ex {m : M (List α)} (h : JL X K b L E es m) : ∃ t : TA, PA X es t ∧ ∀ σ Hi H, EnvOk b L σ Hi H → ∀ Q : List V → Hp → Prop, PX K E m Hi H (fun xs Hi' H' => ∀ vs, Rl K Hi' xs vs → Q vs H') → t σ H Q := ⟨_, pa_wp, h.go⟩
theorem JI.of {m : M (List α)} (h : ∃ t : TI, PI X tg e t ∧ ∀ σ Hi H, EnvOk b L σ Hi H → ∀ R : It → Hp → Prop, PX K E m Hi H (fun xs Hi' H' => ∀ J, ItOk K J Hi' xs → R J H') → t σ H R) : JI X K b L E tg e m := let ⟨_, d, p⟩ := h; ⟨fun σ Hi H en Q z => PI.wp d (p σ Hi H en Q z)⟩
end
/-- an operation on two values, on one -/
def RO (K : Fg) (E : XK) {α β γ : Type} [Py α] [Py β] [Py γ] (r : R2) (f : α → β → M γ) : Prop :=
  ∀ (x : α) (y : β) (v w : V) (Hi H : Hp) (Q : VK), Same Hi H → Py.rep K Hi x v → Py.rep K Hi y w → PV K E (f x y) Hi H Q → r v w H Q
def RU1 (K : Fg) (E : XK) {α β : Type} [Py α] [Py β] (r : V → Hp → VK → Prop) (f : α → M β) : Prop :=
  ∀ (x : α) (v : V) (Hi H : Hp) (Q : VK), Same Hi H → Py.rep K Hi x v → PV K E (f x) Hi H Q → r v H Q
def RA1 (K : Fg) (E : XK) {α β : Type} [Py α] [Py β] (r : List V → Hp → VK → Prop) (f : α → M β) : Prop :=
  ∀ (x : α) (v : V) (Hi H : Hp) (Q : VK), Same Hi H → Py.rep K Hi x v → PV K E (f x) Hi H Q → r [v] H Q
def RA2 (K : Fg) (E : XK) {α β γ : Type} [Py α] [Py β] [Py γ] (r : List V → Hp → VK → Prop) (f : α → β → M γ) : Prop :=
  ∀ (x : α) (y : β) (v w : V) (Hi H : Hp) (Q : VK), Same Hi H → Py.rep K Hi x v → Py.rep K Hi y w → PV K E (f x y) Hi H Q → r [v, w] H Q
end G

set_option Elab.async false
set_option linter.all false
set_option maxRecDepth 100000
set_option maxHeartbeats 2000000
namespace G
open PySem L2 TL

/-! ### the operations of the mirrors -/
def tx (s : String) : Tx := s.toList.map Char.toNat
theorem S_tx (s : String) : S (tx s) = Str.ofString s := ext_tl (by rw [tl_ofString] <;> rfl)
theorem tl_S (l : Tx) : tl (S l) = l := rfl
theorem S_inj {a b : Tx} (h : S a = S b) : a = b := by
  have := congrArg tl h
  rwa [tl_S, tl_S] at this
theorem S_length (l : Tx) : (S l).length = l.length := by rw [len_tl, tl_S]
theorem dec_S (a b : Tx) : decide (V.str (S a) = V.str (S b)) = decide (a = b) := by
  by_cases h : a = b
  · subst h; simp
  · rw [decide_eq_false h, decide_eq_false (fun z => h (S_inj (V.str.inj z)))]
instance {i j : Int} : Decidable (CMul i j) := by unfold CMul; infer_instance
instance {i j : Int} : Decidable (CDiv i j) := by unfold CDiv; infer_instance
instance {i j : Int} : Decidable (CPow i j) := by unfold CPow; infer_instance
def mulI (i j : Int) : M Int := chk (CMul i j) >>= fun _ => pure (i * j)
def modI (i j : Int) : M Int := chk (0 < j) >>= fun _ => pure (i % j)
def divI (i j : Int) : M Int := chk (CDiv i j) >>= fun _ => pure (i / j)
def powI (i j : Int) : M Int := chk (CPow i j) >>= fun _ => pure (i ^ j.toNat)
def addT (a c : Tx) : M Tx := chk (a.length + c.length ≤ SZ) >>= fun _ => pure (a ++ c)
def inS (x t : Tx) : M Bool := match x with
  | [c] => pure (decide (c ∈ t))
  | _ => stuck
def cut {α : Type} (xs : List α) (lo hi : Option Int) : List α := (xs.drop (HT.sIx xs.length 0 lo)).take (HT.sIx xs.length xs.length hi - HT.sIx xs.length 0 lo)
def cutT (x : Tx) (lo hi : Option Int) : M Tx := chk (x.length ≤ SZ) >>= fun _ => pure (cut x lo hi)
def lenT (x : Tx) : M Int := chk (x.length ≤ SZ) >>= fun _ => pure (x.length : Int)
def atT (x : Tx) (i : Int) : M Tx := chk (x.length ≤ SZ) >>= fun _ => ofO (atI x i) >>= fun c => pure [c]
def atL {α : Type} (xs : List α) (i : Int) : M α := ofO (atI xs i)
def joinM (s : Tx) (xs : List Tx) : M Tx := chk ((xs.map (·.length)).sum + xs.length * s.length ≤ 16777216) >>= fun _ => pure (joinL s xs)
/-- no raise is let out -/
def nr {α : Type} : M α → M α
  | .ok a => .ok a
  | .error _ => .error .st
def lcM {α β : Type} (xs : List α) (f : α → M β) : M (List β) := chk (xs.length ≤ SZ) >>= fun _ => nr (xs.mapM f)
/-- with a test -/
def lcF {α β : Type} (xs : List α) (t : α → M Bool) (f : α → M β) : M (List β) := chk (xs.length ≤ SZ) >>= fun _ => nr (xs.foldlM (fun acc x => t x >>= fun c => if c = true then f x >>= fun y => pure (acc ++ [y]) else pure acc) [])

section
variable {K : Fg} {E : XK} {α β γ δ : Type} {a : α} {Hi H Hi' H' : Hp} {k : α → Hp → Hp → Prop}
theorem PX.here (h : PX K E (pure a) Hi H k) (s : Same Hi H) : k a Hi H := (show ∀ Hi' H', Nx Hi H Hi' H' → k a Hi' H' from h) Hi H (Nx.refl s)
theorem PX.go (h : PX K E (pure a) Hi H k) (x : Nx Hi H Hi' H') : k a Hi' H' := (show ∀ Hi' H', Nx Hi H Hi' H' → k a Hi' H' from h) Hi' H' x
end

section
variable {K : Fg} {E : XK}
theorem ro_add : RO K E (rI0 fun i j => .int (i + j)) (fun i j : Int => (pure (i + j) : M Int)) := by
  rintro i j v w Hi H Q s rfl rfl h
  exact ⟨i, j, rfl, rfl, h.here s _ rfl⟩
theorem ro_sub : RO K E (rI0 fun i j => .int (i - j)) (fun i j : Int => (pure (i - j) : M Int)) := by
  rintro i j v w Hi H Q s rfl rfl h
  exact ⟨i, j, rfl, rfl, h.here s _ rfl⟩
theorem ro_mul : RO K E (rI CMul fun i j => .int (i * j)) mulI := by
  rintro i j v w Hi H Q s rfl rfl h
  obtain ⟨c, h⟩ := PX.chk h
  exact ⟨i, j, rfl, rfl, c, h.here s _ rfl⟩
theorem ro_mod : RO K E (rI (fun _ j => 0 < j) fun i j => .int (i % j)) modI := by
  rintro i j v w Hi H Q s rfl rfl h
  obtain ⟨c, h⟩ := PX.chk h
  exact ⟨i, j, rfl, rfl, c, h.here s _ rfl⟩
theorem ro_div : RO K E (rI CDiv fun i j => .int (i / j)) divI := by
  rintro i j v w Hi H Q s rfl rfl h
  obtain ⟨c, h⟩ := PX.chk h
  exact ⟨i, j, rfl, rfl, c, h.here s _ rfl⟩
theorem ro_pow : RO K E (rI CPow fun i j => .int (i ^ j.toNat)) powI := by
  rintro i j v w Hi H Q s rfl rfl h
  obtain ⟨c, h⟩ := PX.chk h
  exact ⟨i, j, rfl, rfl, c, h.here s _ rfl⟩
theorem ro_lt : RO K E (rI0 fun i j => .bl (decide (i < j))) (fun i j : Int => (pure (decide (i < j)) : M Bool)) := by
  rintro i j v w Hi H Q s rfl rfl h
  exact ⟨i, j, rfl, rfl, h.here s _ rfl⟩
theorem ro_le : RO K E (rI0 fun i j => .bl (decide (i ≤ j))) (fun i j : Int => (pure (decide (i ≤ j)) : M Bool)) := by
  rintro i j v w Hi H Q s rfl rfl h
  exact ⟨i, j, rfl, rfl, h.here s _ rfl⟩
theorem ro_gt : RO K E (rI0 fun i j => .bl (decide (j < i))) (fun i j : Int => (pure (decide (j < i)) : M Bool)) := by
  rintro i j v w Hi H Q s rfl rfl h
  exact ⟨i, j, rfl, rfl, h.here s _ rfl⟩
theorem ro_ge : RO K E (rI0 fun i j => .bl (decide (j ≤ i))) (fun i j : Int => (pure (decide (j ≤ i)) : M Bool)) := by
  rintro i j v w Hi H Q s rfl rfl h
  exact ⟨i, j, rfl, rfl, h.here s _ rfl⟩
theorem dec_i {i j : Int} : decide (V.int i = V.int j) = decide (i = j) := by
  by_cases h : i = j
  · subst h; simp
  · rw [decide_eq_false h, decide_eq_false (fun z => h (V.int.inj z))]
theorem dec_b {i j : Bool} : decide (V.bl i = V.bl j) = decide (i = j) := by
  by_cases h : i = j
  · subst h; simp
  · rw [decide_eq_false h, decide_eq_false (fun z => h (V.bl.inj z))]
theorem ro_eqI : RO K E rEq (fun i j : Int => (pure (decide (i = j)) : M Bool)) := by
  rintro i j v w Hi H Q s rfl rfl h
  exact ⟨rfl, h.here s _ (congrArg V.bl dec_i)⟩
theorem ro_neI : RO K E rNe (fun i j : Int => (pure (!decide (i = j)) : M Bool)) := by
  rintro i j v w Hi H Q s rfl rfl h
  exact ⟨rfl, h.here s _ (congrArg (fun z => V.bl (!z)) dec_i)⟩
theorem ro_eqB : RO K E rEq (fun i j : Bool => (pure (decide (i = j)) : M Bool)) := by
  rintro i j v w Hi H Q s rfl rfl h
  exact ⟨rfl, h.here s _ (congrArg V.bl dec_b)⟩
theorem ro_neB : RO K E rNe (fun i j : Bool => (pure (!decide (i = j)) : M Bool)) := by
  rintro i j v w Hi H Q s rfl rfl h
  exact ⟨rfl, h.here s _ (congrArg (fun z => V.bl (!z)) dec_b)⟩
theorem ro_eqT : RO K E rEq (fun i j : Tx => (pure (decide (i = j)) : M Bool)) := by
  rintro i j v w Hi H Q s rfl rfl h
  exact ⟨rfl, h.here s _ (congrArg V.bl (dec_S i j))⟩
theorem ro_neT : RO K E rNe (fun i j : Tx => (pure (!decide (i = j)) : M Bool)) := by
  rintro i j v w Hi H Q s rfl rfl h
  exact ⟨rfl, h.here s _ (congrArg (fun z => V.bl (!z)) (dec_S i j))⟩
theorem ro_addT : RO K E (fun x y H Q => ∃ i j, x = .str i ∧ y = .str j ∧ i.length + j.length ≤ sizeLine ∧ Q (.str (i ++ j)) H) addT := by
  rintro i j v w Hi H Q s rfl rfl h
  obtain ⟨c, h⟩ := PX.chk h
  refine ⟨S i, S j, rfl, rfl, by rw [S_length, S_length]; exact c, h.here s _ ?_⟩
  exact congrArg V.str (ext_tl (by rw [tl_append] <;> rfl))
theorem ro_in : RO K E rInS inS := by
  rintro i j v w Hi H Q s rfl rfl h
  match i, h with
  | [], h => exact h.elim
  | [c], h => exact ⟨c, S j, rfl, rfl, PX.here h s _ rfl⟩
  | _ :: _ :: _, h => exact h.elim
theorem ro_notIn : RO K E rNotInS (fun x y => inS x y >>= fun c => pure (!c)) := by
  rintro i j v w Hi H Q s rfl rfl h
  match i, h with
  | [], h => exact h.elim
  | [c], h => exact ⟨c, S j, rfl, rfl, PX.here (show PX K E (pure (!(decide (c ∈ j)))) Hi H _ from h) s _ rfl⟩
  | _ :: _ :: _, h => exact h.elim
theorem Rl.at {α : Type} [Py α] {H : Hp} : ∀ {xs : List α} {vs : List V} (_ : Rl K H xs vs) {j : Nat} {a : α}, xs[j]? = some a → ∃ v, vs[j]? = some v ∧ Py.rep K H a v
  | _, _, .nil, j, a, e => by simp at e
  | _, _, .cons r _, 0, a, e => by
    simp at e; subst e
    exact ⟨_, rfl, r⟩
  | _, _, .cons _ t, j + 1, a, e => by
    obtain ⟨v, h1, h2⟩ := Rl.at (xs := _) (vs := _) t (j := j) (by simpa using e)
    exact ⟨v, by simpa using h1, h2⟩
theorem Rl.length {α : Type} [Py α] {H : Hp} {xs : List α} {vs : List V} (h : Rl K H xs vs) : xs.length = vs.length := Paired.length h
theorem Rl.atI {α : Type} [Py α] {H : Hp} {xs : List α} {vs : List V} (h : Rl K H xs vs) {i : Int} {a : α} (e : atI xs i = some a) : ∃ v, L2.atI vs i = some v ∧ Py.rep K H a v := by
  unfold L2.atI at e ⊢
  rw [h.length] at e
  cases q : ixN vs.length i with
  | none => rw [q] at e; cases e
  | some j =>
    rw [q] at e
    exact h.at (j := j) e
theorem Rl.app {α : Type} [Py α] {H : Hp} : ∀ {xs ys : List α} {vs ws : List V}, Rl K H xs vs → Rl K H ys ws → Rl K H (xs ++ ys) (vs ++ ws)
  | _, _, _, _, .nil, s => s
  | _, _, _, _, .cons r t, s => .cons r (Rl.app t s)
theorem Rl.take {α : Type} [Py α] {H : Hp} : ∀ {xs : List α} {vs : List V} (n : Nat), Rl K H xs vs → Rl K H (xs.take n) (vs.take n)
  | _, _, 0, _ => .nil
  | _, _, _ + 1, .nil => .nil
  | _, _, n + 1, .cons r t => .cons r (Rl.take n t)
theorem Rl.drop {α : Type} [Py α] {H : Hp} : ∀ {xs : List α} {vs : List V} (n : Nat), Rl K H xs vs → Rl K H (xs.drop n) (vs.drop n)
  | _, _, 0, r => r
  | _, _, _ + 1, .nil => .nil
  | _, _, n + 1, .cons _ t => Rl.drop n t
theorem Rl.set {α : Type} [Py α] {H : Hp} {a : α} {v : V} (r : Py.rep K H a v) : ∀ {xs : List α} {vs : List V} (n : Nat), Rl K H xs vs → Rl K H (xs.set n a) (vs.set n v)
  | _, _, _, .nil => .nil
  | _, _, 0, .cons _ t => .cons r t
  | _, _, n + 1, .cons q t => .cons q (Rl.set r n t)
theorem Rl.cut {α : Type} [Py α] {H : Hp} {xs : List α} {vs : List V} (h : Rl K H xs vs) (lo hi : Option Int) : Rl K H (G.cut xs lo hi) (cutV vs lo hi) := by
  unfold G.cut cutV
  rw [h.length]
  exact (h.drop _).take _
theorem Rl.tx : ∀ {xs : List Tx} {vs : List V} {H : Hp}, Rl K H xs vs → vs = (xs.map S).map V.str
  | _, _, _, .nil => rfl
  | x :: xs, v :: vs, H, .cons r t => by
    have r' : v = V.str (S x) := r
    rw [r', List.map_cons, List.map_cons, Rl.tx t]
theorem Rl.ints : ∀ {xs : List Int} {vs : List V} {H : Hp}, Rl K H xs vs → vs = xs.map V.int
  | _, _, _, .nil => rfl
  | x :: xs, v :: vs, H, .cons r t => by
    have r' : v = V.int x := r
    rw [r', List.map_cons, Rl.ints t]
theorem rl_ints {H : Hp} : ∀ xs : List Int, Rl K H xs (xs.map V.int)
  | [] => .nil
  | _ :: r => .cons rfl (rl_ints r)
theorem ro_ixL {α : Type} [Py α] : RO K E (rIxL K) (fun (xs : List α) (i : Int) => atL xs i) := by
  rintro xs i v w Hi H Q s ⟨p, vs, rfl, h1, h2⟩ rfl h
  obtain ⟨a, e, h⟩ := PX.ofO1 h
  obtain ⟨u, e1, r⟩ := h2.atI e
  exact ⟨p, vs, i, u, rfl, rfl, Same.seq s h1, e1, h.here s _ r⟩
theorem ro_ixU {α : Type} [Py α] : RO K E (rIxT K) (fun (xs : Tup α) (i : Int) => atL (α := α) xs i) := by
  rintro xs i v w Hi H Q s ⟨p, vs, rfl, h1, h2⟩ rfl h
  obtain ⟨a, e, h⟩ := PX.ofO1 h
  obtain ⟨u, e1, r⟩ := h2.atI e
  exact ⟨p, vs, i, u, rfl, rfl, sqt_mono s h1, e1, h.here s _ r⟩
theorem ro_ixS : RO K E rIxS atT := by
  rintro x i v w Hi H Q s rfl rfl h
  obtain ⟨c, h⟩ := PX.chk h
  obtain ⟨a, e, h⟩ := PX.ofO h
  exact ⟨S x, i, a, rfl, rfl, by rw [S_length]; exact c, e, h.here s _ rfl⟩
theorem join_S (s : Tx) (xs : List Tx) : Txt.join (S s) (xs.map S) = S (joinL s xs) := by
  refine ext_tl ?_
  have e : (xs.map S).map tl = xs := by rw [List.map_map]; exact List.map_id' xs
  rw [join_eq, tl_join, tl_S, tl_S, e]
theorem lens_S (xs : List Tx) : ((xs.map S).map fun y : Str => y.length) = xs.map fun y : Tx => List.length y := by
  rw [List.map_map]
  exact List.map_congr_left fun a _ => S_length a
abbrev rJoin (K : Fg) : V → List V → Hp → VK → Prop := fun x xs H Q => ∃ a p, ∃ ys : List Str, x = .str a ∧ xs = [.ref p] ∧ (SqL K H p (ys.map V.str) ∨ SqT K H p (ys.map V.str)) ∧
    (ys.map (·.length)).sum + ys.length * a.length ≤ 16777216 ∧ Q (.str (Txt.join a ys)) H
def RM1 (K : Fg) (E : XK) {α β γ : Type} [Py α] [Py β] [Py γ] (r : V → List V → Hp → VK → Prop) (f : α → β → M γ) : Prop :=
  ∀ (x : α) (y : β) (v w : V) (Hi H : Hp) (Q : VK), Same Hi H → Py.rep K Hi x v → Py.rep K Hi y w → PV K E (f x y) Hi H Q → r v [w] H Q
def RM0 (K : Fg) (E : XK) {α β : Type} [Py α] [Py β] (r : V → List V → Hp → VK → Prop) (f : α → M β) : Prop :=
  ∀ (x : α) (v : V) (Hi H : Hp) (Q : VK), Same Hi H → Py.rep K Hi x v → PV K E (f x) Hi H Q → r v [] H Q
theorem join_core {x : Tx} {xs : List Tx} {p : Addr} {vs : List V} {Hi0 Hi H : Hp} {Q : VK} (s : Same Hi H) (h2 : Rl K Hi0 xs vs) (h : PV K E (joinM x xs) Hi H Q) (hs : SqL K H p vs ∨ SqT K H p vs) : rJoin K (.str (S x)) [.ref p] H Q := by
  obtain ⟨c, h⟩ := PX.chk h
  rw [h2.tx] at hs
  refine ⟨S x, p, xs.map S, rfl, rfl, hs, ?_, ?_⟩
  · show (List.map (fun y : Str => y.length) (List.map S xs)).sum + (List.map S xs).length * (S x).length ≤ 16777216
    rw [lens_S, List.length_map, S_length]; exact c
  · rw [join_S]; exact h.here s _ rfl
theorem rm_join : RM1 K E (rJoin K) joinM := by
  rintro x xs v w Hi H Q s rfl ⟨p, vs, rfl, h1, h2⟩ h
  exact join_core s h2 h (.inl (Same.seq s h1))
theorem rm_joinU : RM1 K E (rJoin K) (fun (s : Tx) (xs : Tup Tx) => joinM s xs) := by
  rintro x xs v w Hi H Q s rfl ⟨p, vs, rfl, h1, h2⟩ h
  exact join_core s h2 h (.inr (sqt_mono s h1))
theorem ra_lenL {α : Type} [Py α] : RA1 K E (fun xs H Q => ∃ p ys, xs = [.ref p] ∧ (SqL K H p ys ∨ SqT K H p ys) ∧ Q (.int ys.length) H) (fun xs : List α => (pure (xs.length : Int) : M Int)) := by
  rintro xs v Hi H Q s ⟨p, vs, rfl, h1, h2⟩ h
  exact ⟨p, vs, rfl, .inl (Same.seq s h1), h.here s _ (by rw [h2.length]; rfl)⟩
theorem ra_lenU {α : Type} [Py α] : RA1 K E (fun xs H Q => ∃ p ys, xs = [.ref p] ∧ (SqL K H p ys ∨ SqT K H p ys) ∧ Q (.int ys.length) H) (fun xs : Tup α => (pure ((List.length (α := α) xs : Nat) : Int) : M Int)) := by
  rintro xs v Hi H Q s ⟨p, vs, rfl, h1, h2⟩ h
  exact ⟨p, vs, rfl, .inr (sqt_mono s h1), h.here s _ (by rw [h2.length]; rfl)⟩
theorem ra_lenS : RA1 K E (fun xs H Q => ∃ z, xs = [.str z] ∧ z.length ≤ sizeLine ∧ Q (.int z.length) H) lenT := by
  rintro xs v Hi H Q s rfl h
  obtain ⟨c, h⟩ := PX.chk h
  exact ⟨S xs, rfl, by rw [S_length]; exact c, h.here s _ (by rw [S_length]; rfl)⟩
end

section
variable {X : Cx} {K : Fg} {mg : Str → Option Value} {b : Bs} {L : List En} {E : XK} {e e1 e2 e3 : Expr} {es : List Expr} {α β γ δ : Type} [Py α] [Py β] [Py γ] [Py δ] {m1 : M α} {m2 : M β} {m3 : M γ} {pos : Pos}
theorem je_var (i : Nat) {x : Str} {a : α} (hL : L[i]? = some (.im (rp K a))) (hN : X.N[i]? = some x := by rfl)
    (hv : Vis X.env.scope x := by first | exact Or.inl rfl | exact Or.inr (Or.inl rfl) | exact Or.inr (Or.inr rfl)) (hd : (x == ("__debug__" : Str)) = false := by decide)
    (hcd : (x == ("__classdict__" : Str)) = false := by decide) : JE X K b L E (.Name x pos) (pure a : M α) :=
  .of ⟨tVar i, pe_var hN hv hd hcd, fun σ Hi H en Q h => by
    obtain ⟨v, h1, h2⟩ := en.im i _ hL
    exact ⟨v, h1, h.here en.sub v h2⟩⟩
theorem je_int {i : Int} {j : Nat} : JE X K b L E (.Constant (.int i) j pos) (pure i : M Int) := .of ⟨tC (.int i), pe_int, fun σ Hi H en Q h => h.here en.sub _ rfl⟩
theorem je_bl {i : Bool} {j : Nat} : JE X K b L E (.Constant (.bool i) j pos) (pure i : M Bool) := .of ⟨tC (.bl i), pe_bl, fun σ Hi H en Q h => h.here en.sub _ rfl⟩
theorem je_non {j : Nat} : JE X K b L E (.Constant .none j pos) (pure none : M (Option α)) := .of ⟨tC .non, pe_non, fun σ Hi H en Q h => h.here en.sub _ rfl⟩
theorem je_unit {j : Nat} : JE X K b L E (.Constant .none j pos) (pure () : M Unit) := .of ⟨tC .non, pe_non, fun σ Hi H en Q h => h.here en.sub _ rfl⟩
theorem je_str {s : String} {j : Nat} : JE X K b L E (.Constant (.str (Str.ofString s)) j pos) (pure (tx s) : M Tx) := .of ⟨tC (.str (Str.ofString s)), pe_str, fun σ Hi H en Q h => h.here en.sub _ (by rw [← S_tx] <;> rfl)⟩
/-- a text of the module -/
theorem je_gstr {x : Str} {s : String} (hm : ∃ t, mg x = some (.str (Str.ofString s) t)) (hM : X.mg = mg := by rfl) (hg : Gl X x := by rfl) (hd : (x == ("__debug__" : Str)) = false := by decide) :
    JE X K b L E (.Name x pos) (pure (tx s) : M Tx) := by
  obtain ⟨t, hm⟩ := hm
  exact .of ⟨tC (.str (Str.ofString s)), pe_glob hg (by rw [hM]; exact hm) ⟨t, rfl⟩ hd, fun σ Hi H en Q h => h.here en.sub _ (by rw [← S_tx] <;> rfl)⟩
theorem je_gint {x : Str} {n : Int} (hm : ∃ t, mg x = some (.int n t)) (hM : X.mg = mg := by rfl) (hg : Gl X x := by rfl) (hd : (x == ("__debug__" : Str)) = false := by decide) :
    JE X K b L E (.Name x pos) (pure n : M Int) := by
  obtain ⟨t, hm⟩ := hm
  exact .of ⟨tC (.int n), pe_glob hg (by rw [hM]; exact hm) ⟨t, rfl⟩ hd, fun σ Hi H en Q h => h.here en.sub _ rfl⟩
/-- an object of the module -/
theorem je_gref {x : Str} {a : α} (hm : mg x = some (.ref (He.ga K x))) (hr : ∀ H, Py.rep K H a (.ref (He.ga K x))) (hM : X.mg = mg := by rfl) (hg : Gl X x := by rfl) (hd : (x == ("__debug__" : Str)) = false := by decide) :
    JE X K b L E (.Name x pos) (pure a : M α) :=
  .of ⟨tC (.ref (He.ga K x)), pe_glob hg (by rw [hM]; exact hm) rfl hd, fun σ Hi H en Q h => h.here en.sub _ (hr _)⟩

theorem tOp_ok {r : R2} {f : α → β → M γ} {ta tb : TE} (hr : RO K E r f) (p1 : ∀ σ Hi H, EnvOk b L σ Hi H → ∀ Q : VK, PV K E m1 Hi H Q → ta σ H Q) (p2 : ∀ σ Hi H, EnvOk b L σ Hi H → ∀ Q : VK, PV K E m2 Hi H Q → tb σ H Q) :
    ∀ σ Hi H, EnvOk b L σ Hi H → ∀ Q : VK, PV K E (m1 >>= fun x => m2 >>= fun y => f x y) Hi H Q → tOp r ta tb σ H Q := fun σ Hi H en Q h =>
  p1 σ Hi H en _ (h.bind.imp fun x Hi1 H1 n1 k v rv => p2 σ Hi1 H1 (en.nx n1) _ (k.bind.imp fun y Hi2 H2 n2 k2 w rw => hr x y v w Hi2 H2 Q n2.sub (Py.mono n2.im rv) rw k2))
theorem je_bin {op : Operator} {r : R2} {f : α → β → M γ} (ho : OpR X (binaryOp op) r) (hr : RO K E r f) (h1 : JE X K b L E e1 m1) (h2 : JE X K b L E e2 m2) : JE X K b L E (.BinOp e1 op e2 pos) (m1 >>= fun x => m2 >>= fun y => f x y) := by
  obtain ⟨t1, d1, p1⟩ := h1.ex
  obtain ⟨t2, d2, p2⟩ := h2.ex
  exact .of ⟨tOp r t1 t2, pe_op ho d1 d2, tOp_ok hr p1 p2⟩
theorem je_cmp {op : CmpOp} {r : R2} {f : α → β → M γ} (ho : OpR X (compareOp op) r) (hr : RO K E r f) (h1 : JE X K b L E e1 m1) (h2 : JE X K b L E e2 m2) (hm : behindInMarks op e2 = false := by first | exact nomark _ | rfl) :
    JE X K b L E (.Compare e1 [op] [e2] pos) (m1 >>= fun x => m2 >>= fun y => f x y) := by
  obtain ⟨t1, d1, p1⟩ := h1.ex
  obtain ⟨t2, d2, p2⟩ := h2.ex
  exact .of ⟨tOp r t1 t2, pe_cmpR ho d1 d2 hm, tOp_ok hr p1 p2⟩
theorem jt_cmp {op : CmpOp} {r : R2} {f : α → β → M Bool} (ho : OpR X (compareOp op) r) (hr : RO K E r f) (h1 : JE X K b L E e1 m1) (h2 : JE X K b L E e2 m2) (hm : behindInMarks op e2 = false := by first | exact nomark _ | rfl) :
    JT X K b L E (.Compare e1 [op] [e2] pos) (m1 >>= fun x => m2 >>= fun y => f x y) := by
  obtain ⟨t1, d1, p1⟩ := h1.ex
  obtain ⟨t2, d2, p2⟩ := h2.ex
  refine .of ⟨tTest (tOp r t1 t2), pt_cmpR ho d1 d2 hm, fun σ Hi H en Q h => tOp_ok hr p1 p2 σ Hi H en _ (h.imp fun c Hi' H' _ q v rv => ?_)⟩
  exact ⟨c, rv, q⟩
theorem je_ix {r : R2} {f : α → β → M γ} (ho : IxR X r) (hr : RO K E r f) (h1 : JE X K b L E e1 m1) (h2 : JE X K b L E e2 m2) (hs : PlainIx e2 := by exact fun _ _ => rfl) :
    JE X K b L E (.Subscript e1 e2 pos) (m1 >>= fun x => m2 >>= fun y => f x y) := by
  obtain ⟨t1, d1, p1⟩ := h1.ex
  obtain ⟨t2, d2, p2⟩ := h2.ex
  exact .of ⟨tOp r t1 t2, pe_ix ho d1 d2 hs, tOp_ok hr p1 p2⟩
theorem tChain_ok {r r' : R2} {f : α → β → M Bool} {f' : β → γ → M Bool} {ta tb tc : TE} (hr : RO K E r f) (hr' : RO K E r' f') (p1 : ∀ σ Hi H, EnvOk b L σ Hi H → ∀ Q : VK, PV K E m1 Hi H Q → ta σ H Q)
    (p2 : ∀ σ Hi H, EnvOk b L σ Hi H → ∀ Q : VK, PV K E m2 Hi H Q → tb σ H Q) (p3 : ∀ σ Hi H, EnvOk b L σ Hi H → ∀ Q : VK, PV K E m3 Hi H Q → tc σ H Q) :
    ∀ σ Hi H, EnvOk b L σ Hi H → ∀ Q : VK, PV K E (m1 >>= fun x => m2 >>= fun y => f x y >>= fun c => if c = true then m3 >>= fun z => f' y z else pure false) Hi H Q → tChain r r' ta tb tc σ H Q := fun σ Hi H en Q h =>
  p1 σ Hi H en _ (h.bind.imp fun x Hi1 H1 n1 k v rv => p2 σ Hi1 H1 (en.nx n1) _ (k.bind.imp fun y Hi2 H2 n2 k2 w rw => hr x y v w Hi2 H2 _ n2.sub (Py.mono n2.im rv) rw (k2.bind.imp fun c Hi3 H3 n3 k3 u ru => by
    refine ⟨c, ru, ?_⟩
    cases c with
    | true =>
      rw [if_pos rfl] at k3 ⊢
      exact p3 σ Hi3 H3 (((en.nx n1).nx n2).nx n3) _ (k3.bind.imp fun z Hi4 H4 n4 k4 u2 ru2 => hr' y z w u2 Hi4 H4 Q n4.sub (Py.mono (n3.im.trans n4.im) rw) ru2 k4)
    | false =>
      rw [if_neg Bool.false_ne_true] at k3 ⊢
      exact k3.here n3.sub _ rfl)))
theorem je_chain {op op' : CmpOp} {r r' : R2} {f : α → β → M Bool} {f' : β → γ → M Bool} (ho : OpR X (compareOp op) r) (hr : RO K E r f) (ho' : OpR X (compareOp op') r') (hr' : RO K E r' f') (h1 : JE X K b L E e1 m1) (h2 : JE X K b L E e2 m2) (h3 : JE X K b L E e3 m3)
    (hm : lastMarks [op, op'] [e2, e3] = false := by with_unfolding_all rfl) : JE X K b L E (.Compare e1 [op, op'] [e2, e3] pos) (m1 >>= fun x => m2 >>= fun y => f x y >>= fun c => if c = true then m3 >>= fun z => f' y z else pure false) := by
  obtain ⟨t1, d1, p1⟩ := h1.ex
  obtain ⟨t2, d2, p2⟩ := h2.ex
  obtain ⟨t3, d3, p3⟩ := h3.ex
  exact .of ⟨tChain r r' t1 t2 t3, pe_chain ho ho' d1 d2 d3 hm, tChain_ok hr hr' p1 p2 p3⟩
theorem jt_chain {op op' : CmpOp} {r r' : R2} {f : α → β → M Bool} {f' : β → γ → M Bool} (ho : OpR X (compareOp op) r) (hr : RO K E r f) (ho' : OpR X (compareOp op') r') (hr' : RO K E r' f') (h1 : JE X K b L E e1 m1) (h2 : JE X K b L E e2 m2) (h3 : JE X K b L E e3 m3)
    (hm : lastMarks [op, op'] [e2, e3] = false := by with_unfolding_all rfl) : JT X K b L E (.Compare e1 [op, op'] [e2, e3] pos) (m1 >>= fun x => m2 >>= fun y => f x y >>= fun c => if c = true then m3 >>= fun z => f' y z else pure false) := by
  obtain ⟨t1, d1, p1⟩ := h1.ex
  obtain ⟨t2, d2, p2⟩ := h2.ex
  obtain ⟨t3, d3, p3⟩ := h3.ex
  refine .of ⟨tTest (tChain r r' t1 t2 t3), pt_chain ho ho' d1 d2 d3 hm, fun σ Hi H en Q h => tChain_ok hr hr' p1 p2 p3 σ Hi H en _ (h.imp fun c Hi' H' _ q v rv => ?_)⟩
  exact ⟨c, rv, q⟩

/-! tests, and, or, not -/
theorem jt_val {m : M Bool} (h : JE X K b L E e m) (he : ∀ whole, isTrue e X.env whole = (do let v ← whole; standAt e.pos; holding [v] (truthy v)) := by intro _; rfl) : JT X K b L E e m := by
  obtain ⟨t, d, p⟩ := h.ex
  refine .of ⟨tB t, pt_val d he, fun σ Hi H en Q h => p σ Hi H en _ (h.imp fun c Hi' H' _ q v rv => ⟨c, rv, q⟩)⟩
theorem jw_jt {m : M Bool} (h : JW X K b L E e m) : JT X K b L E e m := by
  obtain ⟨t, d, p⟩ := h.ex
  exact .of ⟨t, d.pt, p⟩
variable {ma mb : M Bool} {rest : List Expr}
theorem jt_not (h : JT X K b L E e ma) : JT X K b L E (.UnaryOp .Not e pos) (ma >>= fun c => pure (!c)) := by
  obtain ⟨t, d, p⟩ := h.ex
  exact .of ⟨tNot t, pt_not d, fun σ Hi H en Q h => p σ Hi H en _ (h.bind.imp fun c Hi' H' n q => q.here n.sub)⟩
theorem jw_and1 (h : JT X K b L E e ma) : JW X K b L E (.BoolOp .And [e] pos) ma := by
  obtain ⟨t, d, p⟩ := h.ex
  exact .of ⟨t, pw_and1 d, p⟩
theorem jw_or1 (h : JT X K b L E e ma) : JW X K b L E (.BoolOp .Or [e] pos) ma := by
  obtain ⟨t, d, p⟩ := h.ex
  exact .of ⟨t, pw_or1 d, p⟩
theorem jw_and (h : JT X K b L E e1 ma) (h2 : JW X K b L E (.BoolOp .And (e2 :: rest) pos) mb) : JW X K b L E (.BoolOp .And (e1 :: e2 :: rest) pos) (ma >>= fun c => if c = true then mb else pure false) := by
  obtain ⟨t, d, p⟩ := h.ex
  obtain ⟨t2, d2, p2⟩ := h2.ex
  refine .of ⟨tAnd t t2, pw_and d d2, fun σ Hi H en Q h => p σ Hi H en _ (h.bind.imp fun c Hi' H' n q => ?_)⟩
  cases c with
  | true =>
    rw [if_pos rfl] at q ⊢
    exact p2 σ Hi' H' (en.nx n) Q q
  | false =>
    rw [if_neg Bool.false_ne_true] at q ⊢
    exact q.here n.sub
theorem jw_or (h : JT X K b L E e1 ma) (h2 : JW X K b L E (.BoolOp .Or (e2 :: rest) pos) mb) : JW X K b L E (.BoolOp .Or (e1 :: e2 :: rest) pos) (ma >>= fun c => if c = true then pure true else mb) := by
  obtain ⟨t, d, p⟩ := h.ex
  obtain ⟨t2, d2, p2⟩ := h2.ex
  refine .of ⟨tOr t t2, pw_or d d2, fun σ Hi H en Q h => p σ Hi H en _ (h.bind.imp fun c Hi' H' n q => ?_)⟩
  cases c with
  | true =>
    rw [if_pos rfl] at q ⊢
    exact q.here n.sub
  | false =>
    rw [if_neg Bool.false_ne_true] at q ⊢
    exact p2 σ Hi' H' (en.nx n) Q q
theorem je_one {op : BoolOp} (h : JE X K b L E e ma) : JE X K b L E (.BoolOp op [e] pos) ma := by
  obtain ⟨t, d, p⟩ := h.ex
  exact .of ⟨t, pe_one d, p⟩
theorem je_and (h : JE X K b L E e1 ma) (h2 : JE X K b L E (.BoolOp .And (e2 :: rest) pos) mb) : JE X K b L E (.BoolOp .And (e1 :: e2 :: rest) pos) (ma >>= fun c => if c = true then mb else pure false) := by
  obtain ⟨t, d, p⟩ := h.ex
  obtain ⟨t2, d2, p2⟩ := h2.ex
  refine .of ⟨tAndV t t2, pe_and d d2, fun σ Hi H en Q h => p σ Hi H en _ (h.bind.imp fun c Hi' H' n q v rv => ⟨c, rv, ?_⟩)⟩
  cases c with
  | true =>
    rw [if_pos rfl] at q ⊢
    exact p2 σ Hi' H' (en.nx n) Q q
  | false =>
    rw [if_neg Bool.false_ne_true] at q ⊢
    exact q.here n.sub _ rfl
theorem je_or (h : JE X K b L E e1 ma) (h2 : JE X K b L E (.BoolOp .Or (e2 :: rest) pos) mb) : JE X K b L E (.BoolOp .Or (e1 :: e2 :: rest) pos) (ma >>= fun c => if c = true then pure true else mb) := by
  obtain ⟨t, d, p⟩ := h.ex
  obtain ⟨t2, d2, p2⟩ := h2.ex
  refine .of ⟨tOrV t t2, pe_or d d2, fun σ Hi H en Q h => p σ Hi H en _ (h.bind.imp fun c Hi' H' n q v rv => ⟨c, rv, ?_⟩)⟩
  cases c with
  | true =>
    rw [if_pos rfl] at q ⊢
    exact q.here n.sub _ rfl
  | false =>
    rw [if_neg Bool.false_ne_true] at q ⊢
    exact p2 σ Hi' H' (en.nx n) Q q
theorem je_not (h : JE X K b L E e ma) : JE X K b L E (.UnaryOp .Not e pos) (ma >>= fun c => pure (!c)) := by
  obtain ⟨t, d, p⟩ := h.ex
  exact .of ⟨tNotV t, pe_not d, fun σ Hi H en Q h => p σ Hi H en _ (h.bind.imp fun c Hi' H' n q v rv => ⟨c, rv, q.here n.sub _ rfl⟩)⟩
theorem je_neg {m : M Int} (h : JE X K b L E e m) : JE X K b L E (.UnaryOp .USub e pos) (m >>= fun i => pure (-i)) := by
  obtain ⟨t, d, p⟩ := h.ex
  exact .of ⟨tUn (rU fun i => .int (-i)) t, pe_un un_neg d, fun σ Hi H en Q h => p σ Hi H en _ (h.bind.imp fun c Hi' H' n q v rv => ⟨c, rv, q.here n.sub _ rfl⟩)⟩
theorem je_if {mc : M Bool} {m n : M α} (h : JT X K b L E e mc) (h1 : JE X K b L E e1 m) (h2 : JE X K b L E e2 n) : JE X K b L E (.IfExp e e1 e2 pos) (mc >>= fun c => if c = true then m else n) := by
  obtain ⟨t, d, p⟩ := h.ex
  obtain ⟨t1, d1, p1⟩ := h1.ex
  obtain ⟨t2, d2, p2⟩ := h2.ex
  refine .of ⟨tIf t t1 t2, pe_ifExp d d1 d2, fun σ Hi H en Q h => p σ Hi H en _ (h.bind.imp fun c Hi' H' n q => ?_)⟩
  cases c with
  | true =>
    rw [if_pos rfl] at q ⊢
    exact p1 σ Hi' H' (en.nx n) Q q
  | false =>
    rw [if_neg Bool.false_ne_true] at q ⊢
    exact p2 σ Hi' H' (en.nx n) Q q

/-! displays -/
theorem jl_nil : JL X K b L E [] (pure [] : M (List α)) := .of ⟨tNil, pa_nil, fun σ Hi H en Q h => h.here en.sub [] .nil⟩ fun xs h => by cases h; rfl
theorem jl_cons {m : M α} {mr : M (List α)} (h : JE X K b L E e m) (hr : JL X K b L E es mr) (hs : starEach (e :: es) X.env = (false, eval e X.env) :: starEach es X.env := by rfl) :
    JL X K b L E (e :: es) (m >>= fun x => mr >>= fun r => pure (x :: r)) := by
  obtain ⟨t, d, p⟩ := h.ex
  obtain ⟨t2, d2, p2⟩ := hr.ex
  have l2 := hr.len
  refine .of ⟨tCons t t2, pa_cons d d2 hs, fun σ Hi H en Q h => p σ Hi H en _ (h.bind.imp fun x Hi1 H1 n1 k v rv => p2 σ Hi1 H1 (en.nx n1) _ (k.bind.imp fun r Hi2 H2 n2 k2 vs rvs => ?_))⟩ fun xs h => ?_
  · exact k2.here n2.sub _ (.cons (Py.mono n2.im rv) rvs)
  · cases m with
    | error z => cases h
    | ok x =>
      cases mr with
      | error z => cases h
      | ok r =>
        have e : x :: r = xs := by cases h; rfl
        rw [← e, List.length_cons, List.length_cons, l2 r rfl]
theorem je_lst {m : M (List α)} (h : JL X K b L E es m) (hl : es.length ≤ 1000 := by decide) : JE X K b L E (.List es pos) m := by
  obtain ⟨t, d, p⟩ := h.ex
  have l := h.len
  refine .of ⟨tLst t, pe_lst d, fun σ Hi H en Q h => p σ Hi H en _ (?_)⟩
  cases m with
  | error z => cases z with
    | rs c => exact h
    | st => exact h
  | ok xs =>
    refine fun Hi1 H1 n1 vs rvs => ⟨?_, fun q hq => (PX.go (a := xs) h (n1.trans (Nx.new n1.sub hq))) _ ⟨q, vs, rfl, .of upd_same, rvs.mono (same_new (hi_none n1.sub hq))⟩⟩
    rw [← rvs.length, l xs rfl]
    exact Nat.le_trans hl (by decide)
theorem je_tupU {m : M (List α)} (h : JL X K b L E es m) (hl : es.length ≤ 1000 := by decide) : JE X K b L E (.Tuple es x1 pos) (m >>= fun xs => (pure xs : M (Tup α))) := by
  obtain ⟨t, d, p⟩ := h.ex
  have l := h.len
  refine .of ⟨tTup t, pe_tup d, fun σ Hi H en Q h => p σ Hi H en _ (?_)⟩
  cases m with
  | error z => cases z with
    | rs c => exact h
    | st => exact h
  | ok xs =>
    refine fun Hi1 H1 n1 vs rvs => ⟨?_, fun q hq => (PX.go (α := Tup α) (a := xs) h (n1.trans (Nx.new n1.sub hq))) _ ⟨q, vs, rfl, .of upd_same, rvs.mono (same_new (hi_none n1.sub hq))⟩⟩
    rw [← rvs.length, l xs rfl]
    exact Nat.le_trans hl (by decide)
theorem je_pair (h1 : JE X K b L E e1 m1) (h2 : JE X K b L E e2 m2) (hs : starEach [e1, e2] X.env = (false, eval e1 X.env) :: starEach [e2] X.env := by rfl) (hs2 : starEach [e2] X.env = (false, eval e2 X.env) :: starEach [] X.env := by rfl) :
    JE X K b L E (.Tuple [e1, e2] x1 pos) (m1 >>= fun x => m2 >>= fun y => pure (x, y)) := by
  obtain ⟨t1, d1, p1⟩ := h1.ex
  obtain ⟨t2, d2, p2⟩ := h2.ex
  refine .of ⟨tTup (tCons t1 (tCons t2 tNil)), pe_tup (pa_cons d1 (pa_cons d2 pa_nil hs2) hs), fun σ Hi H en Q h => p1 σ Hi H en _ (h.bind.imp fun x Hi1 H1 n1 k v rv => p2 σ Hi1 H1 (en.nx n1) _ (k.bind.imp fun y Hi2 H2 n2 k2 w rw => ⟨by show 2 ≤ sizeLine; decide, fun q hq => ?_⟩))⟩
  have sm := same_new (o := .tup [v, w]) (hi_none n2.sub hq)
  exact k2.go (Nx.new n2.sub hq) _ ⟨q, v, w, rfl, .of upd_same, Py.mono (n2.im.trans sm) rv, Py.mono sm rw⟩
theorem je_tri (h1 : JE X K b L E e1 m1) (h2 : JE X K b L E e2 m2) (h3 : JE X K b L E e3 m3) (hs : starEach [e1, e2, e3] X.env = (false, eval e1 X.env) :: starEach [e2, e3] X.env := by rfl)
    (hs2 : starEach [e2, e3] X.env = (false, eval e2 X.env) :: starEach [e3] X.env := by rfl) (hs3 : starEach [e3] X.env = (false, eval e3 X.env) :: starEach [] X.env := by rfl) :
    JE X K b L E (.Tuple [e1, e2, e3] x1 pos) (m1 >>= fun x => m2 >>= fun y => m3 >>= fun z => pure (T3.mk x y z)) := by
  obtain ⟨t1, d1, p1⟩ := h1.ex
  obtain ⟨t2, d2, p2⟩ := h2.ex
  obtain ⟨t3, d3, p3⟩ := h3.ex
  refine .of ⟨tTup (tCons t1 (tCons t2 (tCons t3 tNil))), pe_tup (pa_cons d1 (pa_cons d2 (pa_cons d3 pa_nil hs3) hs2) hs), fun σ Hi H en Q h => p1 σ Hi H en _ (h.bind.imp fun x Hi1 H1 n1 k v rv => p2 σ Hi1 H1 (en.nx n1) _
    (k.bind.imp fun y Hi2 H2 n2 k2 w rw => p3 σ Hi2 H2 ((en.nx n1).nx n2) _ (k2.bind.imp fun z Hi3 H3 n3 k3 u ru => ⟨by show 3 ≤ sizeLine; decide, fun q hq => ?_⟩)))⟩
  have sm := same_new (o := .tup [v, w, u]) (hi_none n3.sub hq)
  exact k3.go (Nx.new n3.sub hq) _ ⟨q, v, w, u, rfl, .of upd_same, Py.mono ((n2.im.trans n3.im).trans sm) rv, Py.mono (n3.im.trans sm) rw, Py.mono sm ru⟩
/-! places of a pair, a triple -/
theorem at2 {v w : V} : atI [v, w] 0 = some v ∧ atI [v, w] 1 = some w := ⟨rfl, rfl⟩
theorem je_p0 {m : M (α × β)} {j : Nat} {p2 : Pos} (h : JE X K b L E e m) (hK : X.K = K := by rfl) : JE X K b L E (.Subscript e (.Constant (.int 0) j p2) pos) (m >>= fun x => pure x.1) := by
  obtain ⟨t, d, p⟩ := h.ex
  refine .of ⟨tOp (rIxT K) t (tC (.int 0)), pe_ix (by rw [← hK]; exact ix_tup) d pe_int (fun _ _ => rfl), fun σ Hi H en Q h => p σ Hi H en _ (h.bind.imp fun x Hi1 H1 n1 k v rv => ?_)⟩
  obtain ⟨q, v1, v2, rfl, g1, g2, g3⟩ := rv
  exact ⟨q, _, 0, v1, rfl, rfl, sqt_mono n1.sub g1, rfl, k.here n1.sub _ g2⟩
theorem je_p1 {m : M (α × β)} {j : Nat} {p2 : Pos} (h : JE X K b L E e m) (hK : X.K = K := by rfl) : JE X K b L E (.Subscript e (.Constant (.int 1) j p2) pos) (m >>= fun x => pure x.2) := by
  obtain ⟨t, d, p⟩ := h.ex
  refine .of ⟨tOp (rIxT K) t (tC (.int 1)), pe_ix (by rw [← hK]; exact ix_tup) d pe_int (fun _ _ => rfl), fun σ Hi H en Q h => p σ Hi H en _ (h.bind.imp fun x Hi1 H1 n1 k v rv => ?_)⟩
  obtain ⟨q, v1, v2, rfl, g1, g2, g3⟩ := rv
  exact ⟨q, _, 1, v2, rfl, rfl, sqt_mono n1.sub g1, rfl, k.here n1.sub _ g3⟩
theorem je_t0 {m : M (T3 α β γ)} {j : Nat} {p2 : Pos} (h : JE X K b L E e m) (hK : X.K = K := by rfl) : JE X K b L E (.Subscript e (.Constant (.int 0) j p2) pos) (m >>= fun x => pure x.a) := by
  obtain ⟨t, d, p⟩ := h.ex
  refine .of ⟨tOp (rIxT K) t (tC (.int 0)), pe_ix (by rw [← hK]; exact ix_tup) d pe_int (fun _ _ => rfl), fun σ Hi H en Q h => p σ Hi H en _ (h.bind.imp fun x Hi1 H1 n1 k v rv => ?_)⟩
  obtain ⟨q, v1, v2, v3, rfl, g1, g2, g3, g4⟩ := rv
  exact ⟨q, _, 0, v1, rfl, rfl, sqt_mono n1.sub g1, rfl, k.here n1.sub _ g2⟩
theorem je_t1 {m : M (T3 α β γ)} {j : Nat} {p2 : Pos} (h : JE X K b L E e m) (hK : X.K = K := by rfl) : JE X K b L E (.Subscript e (.Constant (.int 1) j p2) pos) (m >>= fun x => pure x.b) := by
  obtain ⟨t, d, p⟩ := h.ex
  refine .of ⟨tOp (rIxT K) t (tC (.int 1)), pe_ix (by rw [← hK]; exact ix_tup) d pe_int (fun _ _ => rfl), fun σ Hi H en Q h => p σ Hi H en _ (h.bind.imp fun x Hi1 H1 n1 k v rv => ?_)⟩
  obtain ⟨q, v1, v2, v3, rfl, g1, g2, g3, g4⟩ := rv
  exact ⟨q, _, 1, v2, rfl, rfl, sqt_mono n1.sub g1, rfl, k.here n1.sub _ g3⟩
theorem je_t2 {m : M (T3 α β γ)} {j : Nat} {p2 : Pos} (h : JE X K b L E e m) (hK : X.K = K := by rfl) : JE X K b L E (.Subscript e (.Constant (.int 2) j p2) pos) (m >>= fun x => pure x.c) := by
  obtain ⟨t, d, p⟩ := h.ex
  refine .of ⟨tOp (rIxT K) t (tC (.int 2)), pe_ix (by rw [← hK]; exact ix_tup) d pe_int (fun _ _ => rfl), fun σ Hi H en Q h => p σ Hi H en _ (h.bind.imp fun x Hi1 H1 n1 k v rv => ?_)⟩
  obtain ⟨q, v1, v2, v3, rfl, g1, g2, g3, g4⟩ := rv
  exact ⟨q, _, 2, v3, rfl, rfl, sqt_mono n1.sub g1, rfl, k.here n1.sub _ g4⟩

/-! slices -/
theorem jo_no : JO X K b L E none (pure none) := .of ⟨tNoPart, po_none, fun σ Hi H en Q h => h.here en.sub⟩
theorem jo_at {m : M Int} (h : JE X K b L E e m) : JO X K b L E (some e) (m >>= fun i => pure (some i)) := by
  obtain ⟨t, d, p⟩ := h.ex
  exact .of ⟨tPart t, po_some d, fun σ Hi H en Q h => p σ Hi H en _ (h.bind.imp fun i Hi' H' n q v rv => ⟨i, rv, q.here n.sub⟩)⟩
variable {lo hi : Option Expr} {ml mh : M (Option Int)} {p2 : Pos}
theorem je_slL {m : M (List α)} (h : JE X K b L E e m) (hl : JO X K b L E lo ml) (hh : JO X K b L E hi mh) (hK : X.K = K := by rfl) :
    JE X K b L E (.Subscript e (.Slice lo hi none p2) pos) (m >>= fun xs => ml >>= fun l => mh >>= fun u => pure (cut xs l u)) := by
  obtain ⟨t, d, p⟩ := h.ex
  obtain ⟨t1, d1, p1⟩ := hl.ex
  obtain ⟨t2, d2, p2⟩ := hh.ex
  refine .of ⟨tSl (rSlL K) t t1 t2, pe_slice (by rw [← hK]; exact sl_list) d d1 d2, fun σ Hi H en Q h => p σ Hi H en _ (h.bind.imp fun xs Hi1 H1 n1 k v rv => p1 σ Hi1 H1 (en.nx n1) _ (k.bind.imp fun l Hi2 H2 n2 k2 => p2 σ Hi2 H2 ((en.nx n1).nx n2) _ (k2.bind.imp fun u Hi3 H3 n3 k3 => ?_)))⟩
  obtain ⟨q, vs, rfl, g1, g2⟩ := rv
  have s3 := (n2.im.trans n3.im)
  refine ⟨q, vs, rfl, Same.seq (s3.trans n3.sub) g1, fun r hr => k3.go (Nx.new n3.sub hr) _ ⟨r, _, rfl, .of upd_same, ?_⟩⟩
  exact ((g2.mono s3).cut l u).mono (same_new (hi_none n3.sub hr))
theorem je_slS {m : M Tx} (h : JE X K b L E e m) (hl : JO X K b L E lo ml) (hh : JO X K b L E hi mh) :
    JE X K b L E (.Subscript e (.Slice lo hi none p2) pos) (m >>= fun xs => ml >>= fun l => mh >>= fun u => cutT xs l u) := by
  obtain ⟨t, d, p⟩ := h.ex
  obtain ⟨t1, d1, p1⟩ := hl.ex
  obtain ⟨t2, d2, p2⟩ := hh.ex
  refine .of ⟨tSl rSlS t t1 t2, pe_slice sl_str d d1 d2, fun σ Hi H en Q h => p σ Hi H en _ (h.bind.imp fun xs Hi1 H1 n1 k v rv => p1 σ Hi1 H1 (en.nx n1) _ (k.bind.imp fun l Hi2 H2 n2 k2 => p2 σ Hi2 H2 ((en.nx n1).nx n2) _ (k2.bind.imp fun u Hi3 H3 n3 k3 => ?_)))⟩
  obtain ⟨c, k4⟩ := PX.chk k3
  refine ⟨S xs, rv, by rw [S_length]; exact c, k4.here n3.sub _ ?_⟩
  refine congrArg V.str ?_
  unfold cutS
  rw [S_length]
  rfl

/-! calls of built-ins, methods of texts -/
theorem je_callB {id : String} {x : Str} {r : List V → Hp → VK → Prop} {f : α → M β} {p : Pos} (hc : CallR X (.builtin id) r) (hr : RA1 K E r f) (hm : mg x = none) (hv : bootBuiltins x = some (.builtin id)) (h : JE X K b L E e m1) (hM : X.mg = mg := by rfl)
    (hg : Gl X x := by rfl) (hn : x ≠ "__name__" := by decide) (hdb : (x == ("__debug__" : Str)) = false := by decide)
    (he : starEach [e] X.env = (false, eval e X.env) :: starEach [] X.env := by rfl) (hpl : (backTo pos (starEach [] X.env)).any (·.1) = false := by rfl) : JE X K b L E (.Call (.Name x p) [e] [] pos) (m1 >>= fun a => f a) := by
  obtain ⟨t, d, q⟩ := h.ex
  refine .of ⟨tCB r (tCons t tNil), pe_callB hc hg (by rw [hM]; exact hm) hv (pa_cons d pa_nil he) hn hdb he hpl, fun σ Hi H en Q h => q σ Hi H en _ (h.bind.imp fun a Hi1 H1 n1 k v rv => ?_)⟩
  exact hr a v Hi1 H1 Q n1.sub rv k
theorem je_callB2 {id : String} {x : Str} {r : List V → Hp → VK → Prop} {f : α → β → M γ} {p : Pos} (hc : CallR X (.builtin id) r) (hr : RA2 K E r f) (hm : mg x = none) (hv : bootBuiltins x = some (.builtin id)) (h1 : JE X K b L E e1 m1) (h2 : JE X K b L E e2 m2) (hM : X.mg = mg := by rfl)
    (hg : Gl X x := by rfl) (hn : x ≠ "__name__" := by decide) (hdb : (x == ("__debug__" : Str)) = false := by decide)
    (he : starEach [e1, e2] X.env = (false, eval e1 X.env) :: starEach [e2] X.env := by rfl) (he2 : starEach [e2] X.env = (false, eval e2 X.env) :: starEach [] X.env := by rfl)
    (hpl : (backTo pos (starEach [e2] X.env)).any (·.1) = false := by rfl) : JE X K b L E (.Call (.Name x p) [e1, e2] [] pos) (m1 >>= fun a => m2 >>= fun c => f a c) := by
  obtain ⟨t, d, q⟩ := h1.ex
  obtain ⟨t2, d2, q2⟩ := h2.ex
  refine .of ⟨tCB r (tCons t (tCons t2 tNil)), pe_callB hc hg (by rw [hM]; exact hm) hv (pa_cons d (pa_cons d2 pa_nil he2) he) hn hdb he hpl, fun σ Hi H en Q h => q σ Hi H en _ (h.bind.imp fun a Hi1 H1 n1 k v rv => q2 σ Hi1 H1 (en.nx n1) _ (k.bind.imp fun c Hi2 H2 n2 k2 w rw => ?_))⟩
  exact hr a c v w Hi2 H2 Q n2.sub (Py.mono n2.im rv) rw k2
theorem je_callTy {T : String} {x : Str} {r : List V → Hp → VK → Prop} {f : α → M β} {p : Pos} (hc : CallR X (.type T) r) (hr : RA1 K E r f) (hm : mg x = none) (hv : bootBuiltins x = some (.type T)) (h : JE X K b L E e m1) (hM : X.mg = mg := by rfl)
    (hg : Gl X x := by rfl) (hn : x ≠ "__name__" := by decide) (hdb : (x == ("__debug__" : Str)) = false := by decide)
    (he : starEach [e] X.env = (false, eval e X.env) :: starEach [] X.env := by rfl) (hpl : (backTo pos (starEach [] X.env)).any (·.1) = false := by rfl) : JE X K b L E (.Call (.Name x p) [e] [] pos) (m1 >>= fun a => f a) := by
  obtain ⟨t, d, q⟩ := h.ex
  refine .of ⟨tCB r (tCons t tNil), pe_callTy hc hg (by rw [hM]; exact hm) hv (pa_cons d pa_nil he) hn hdb he hpl, fun σ Hi H en Q h => q σ Hi H en _ (h.bind.imp fun a Hi1 H1 n1 k v rv => ?_)⟩
  exact hr a v Hi1 H1 Q n1.sub rv k
theorem je_m1 {id : String} {name : Str} {apos : Pos} {r : V → List V → Hp → VK → Prop} {f : Tx → β → M γ} {m : M Tx} (slot : Slot "str" name id) (ty : typeOf (.builtin id) = pure (.type "method_descriptor")) (rule : MtR X id r) (hr : RM1 K E r f) (ho : JE X K b L E e1 m) (he : JE X K b L E e2 m2)
    (hs : starEach [e2] X.env = [(false, eval e2 X.env)] := by rfl) (hbase : attributeBase e1 name X.env (eval e1 X.env) = eval e1 X.env := by rfl) (hline : (apos.endLine == pos.line) = true := by rfl) :
    JE X K b L E (.Call (.Attribute e1 name apos) [e2] [] pos) (m >>= fun x => m2 >>= fun y => f x y) := by
  obtain ⟨t, d, q⟩ := ho.ex
  obtain ⟨t2, d2, q2⟩ := he.ex
  refine .of ⟨tM1 r t t2, pe_m1 slot ty rule d d2 hs hbase hline, fun σ Hi H en Q h => q σ Hi H en _ (h.bind.imp fun a Hi1 H1 n1 k v rv => ⟨⟨_, rv⟩, q2 σ Hi1 H1 (en.nx n1) _ (k.bind.imp fun c Hi2 H2 n2 k2 w rw => ?_)⟩)⟩
  exact hr a c v w Hi2 H2 Q n2.sub (Py.mono n2.im rv) rw k2
theorem je_m0 {id : String} {name : Str} {apos : Pos} {r : V → List V → Hp → VK → Prop} {f : Tx → M γ} {m : M Tx} (slot : Slot "str" name id) (ty : typeOf (.builtin id) = pure (.type "method_descriptor")) (rule : MtR X id r) (hr : RM0 K E r f) (ho : JE X K b L E e1 m)
    (hbase : attributeBase e1 name X.env (eval e1 X.env) = eval e1 X.env := by rfl) (hline : (apos.endLine == pos.line) = true := by rfl) :
    JE X K b L E (.Call (.Attribute e1 name apos) [] [] pos) (m >>= fun x => f x) := by
  obtain ⟨t, d, q⟩ := ho.ex
  refine .of ⟨tM0 r t, pe_m0 slot ty rule d hbase hline, fun σ Hi H en Q h => q σ Hi H en _ (h.bind.imp fun a Hi1 H1 n1 k v rv => ⟨⟨_, rv⟩, ?_⟩)⟩
  exact hr a v Hi1 H1 Q n1.sub rv k
end
end G

set_option Elab.async false
set_option linter.all false
set_option maxRecDepth 100000
set_option maxHeartbeats 2000000
namespace G
open PySem L2 TL

/-! ### statements -/
def PZ (K : Fg) (E : XK) (b : Bs) {α : Type} (m : M α) (post : α → Prop) : Prop := match m with
  | .ok a => post a
  | .error (.rs c) => ∀ Hi' H', Ok b Hi' H' → E (.ref (He.ga K c)) none H'
  | .error .st => False
section
variable {K : Fg} {E : XK} {b : Bs} {L : List En} {σ : L2.St} {Hi H : Hp} {α β : Type} {m : M α} {f : α → M β}
theorem PZ.bind {post : β → Prop} (en : EnvOk b L σ Hi H) (h : PZ K E b (m >>= f) post) : PX K E m Hi H fun a _ _ => PZ K E b (f a) post := by
  cases m with
  | ok a => exact fun _ _ _ => h
  | error e =>
    cases e with
    | rs c => exact fun _ _ y => h _ _ (en.nx y).ok
    | st => exact h
theorem PZ.bindz {post : β → Prop} (h : PZ K E b (m >>= f) post) : PZ K E b m fun a => PZ K E b (f a) post := by
  cases m with
  | ok a => exact h
  | error e => cases e <;> exact h
theorem PZ.imp {post post' : α → Prop} (h : PZ K E b m post) (i : ∀ a, post a → post' a) : PZ K E b m post' := by
  cases m with
  | ok a => exact i a h
  | error e => cases e <;> exact h
theorem PZ.px {post : α → Prop} (en : EnvOk b L σ Hi H) (h : PZ K E b m post) : PX K E m Hi H fun a _ _ => post a := by
  cases m with
  | ok a => exact fun _ _ _ => h
  | error e =>
    cases e with
    | rs c => exact fun _ _ y => h _ _ (en.nx y).ok
    | st => exact h
theorem PZ.chk {p : Prop} [Decidable p] {g : Unit → M β} {post : β → Prop} (h : PZ K E b (G.chk p >>= g) post) : p ∧ PZ K E b (g ()) post := by
  unfold G.chk at h
  by_cases hp : p
  · rw [if_pos hp] at h; exact ⟨hp, h⟩
  · rw [if_neg hp] at h; exact h.elim
end
structure J1 (X : Cx) (K : Fg) (b : Bs) (L : List En) (E : XK) (st : Stmt) {S : Type} (m : M S) (Lf : S → List En) : Prop where
  go : ∀ σ Hi H, EnvOk b L σ Hi H → ∀ D : Ends, PZ K E b m (fun s => ∀ σ' Hi' H', EnvOk b (Lf s) σ' Hi' H' → D.nx σ' H') → wpS X st D σ H
structure JS (X : Cx) (K : Fg) (b : Bs) (L : List En) (E : XK) (ss : List Stmt) (tl : Ends → Prop) {α : Type} (m : M α) (post : α → Ends → Prop) : Prop where
  go : ∀ σ Hi H, EnvOk b L σ Hi H → ∀ D : Ends, tl D → PZ K E b m (fun a => post a D) → wpB X ss D σ H
/-- what ends a loop's turn -/
inductive Tl (S R : Type) where
  | ct (s : S)
  | bk (s : S)
  | rt (r : R)
abbrev tlAny : Ends → Prop := fun _ => True
abbrev tlFn : Ends → Prop := fun D => ∀ σ H, D.rt .non H → D.nx σ H
abbrev tlLp : Ends → Prop := fun D => ∀ σ H, D.ct σ H → D.nx σ H
/-- what is told back: a value; a value and what became of the trees that were lent -/
class Rt (R : Type) where
  rep : Fg → List Addr → Hp → Hp → Hp → R → V → Prop
instance instRtPy {R : Type} [Py R] : Rt R := ⟨fun K _ _ Hi _ r v => Py.rep K Hi r v⟩
def pRt (K : Fg) (b : Bs) {R : Type} [Rt R] (r : R) (D : Ends) : Prop := ∀ v Hi' H', Ok b Hi' H' → Rt.rep K b.own b.H Hi' H' r v → D.rt v H'
def pNx (b : Bs) {S : Type} (Lf : S → List En) (s : S) (D : Ends) : Prop := ∀ σ' Hi' H', EnvOk b (Lf s) σ' Hi' H' → D.nx σ' H'
def pTl (K : Fg) (b : Bs) {S R : Type} [Rt R] (Lf : S → List En) (t : Tl S R) (D : Ends) : Prop := match t with
  | .ct s => ∀ σ' Hi' H', EnvOk b (Lf s) σ' Hi' H' → D.ct σ' H'
  | .bk s => ∀ σ' Hi' H', EnvOk b (Lf s) σ' Hi' H' → D.bk σ' H'
  | .rt r => pRt K b r D
/-- a post that does not ask what follows -/
def PiOk {α : Type} (post : α → Ends → Prop) : Prop := ∀ a D f, post a D → post a { D with nx := f }
theorem pi_rt {K : Fg} {b : Bs} {R : Type} [Rt R] : PiOk (pRt K b (R := R)) := fun _ _ _ h => h
theorem pi_tl {K : Fg} {b : Bs} {S R : Type} [Rt R] {Lf : S → List En} : PiOk (pTl K b (R := R) Lf) := fun a _ _ h => by
  cases a <;> exact h

/-- a def of the module -/
structure OkF (P : Program) (w : World) (K : Fg) (mg : Str → Option Value) (base : Heap) (x : Str) (k : Nat) (sp : Sp) : Prop where
  ex : ∃ f fd ps, mg x = some (.ref f) ∧ PySem.W.keepIn K (.ref f) = true ∧ FnOk P w K mg base (L2.CX P w) k f fd ps sp ∧ Binds K fd ps []
theorem EnvOk.start {Hi H : Hp} {own : List Addr} {ps : List Pr} {vs : List V} {k : Nat} {N : List Str} (sm : Same Hi H) (hk : N.length - vs.length = k) (r : Paired (fun (p : Pr) v => p.r Hi v) ps vs) :
    EnvOk ⟨Hi, H, own⟩ (ps.map En.im ++ List.replicate k En.no) (start N vs) Hi H := by
  have hl : ps.length = vs.length := Paired.length r
  have nomu : ∀ (i : Nat) (w : Bool) (t : Tr), (ps.map En.im ++ List.replicate k En.no)[i]? ≠ some (.tr w t) := fun i w t h => by
    rcases List.mem_append.mp (List.mem_of_getElem? h) with q | q
    · obtain ⟨_, _, z⟩ := List.mem_map.mp q
      cases z
    · cases (List.mem_replicate.mp q).2
  refine ⟨⟨sm, Same.refl _, fun _ _ _ h => h, fun _ h => h, fun _ _ h => h⟩, ?_, fun i p h => ?_, fun _ => [], fun i w t h => absurd h (nomu i w t), fun i _ w _ t _ _ h => absurd h (nomu i w t)⟩
  · unfold L2.start
    rw [List.length_append, List.length_append, List.length_map, List.length_map, List.length_replicate, List.length_replicate, hl, hk]
  · by_cases hi : i < ps.length
    · rw [List.getElem?_append_left (by rw [List.length_map]; exact hi), List.getElem?_map] at h
      cases q : ps[i]? with
      | none => rw [q] at h; cases h
      | some p' =>
        rw [q] at h
        cases h
        have key : ∀ {ps : List Pr} {vs : List V} (_ : Paired (fun (p : Pr) v => p.r Hi v) ps vs) {i : Nat} {p : Pr}, ps[i]? = some p → ∃ v, vs[i]? = some v ∧ p.r Hi v := by
          intro ps vs r
          induction r with
          | nil => intro i p h; simp at h
          | cons r t ih =>
            intro i p h
            cases i with
            | zero => simp at h; subst h; exact ⟨_, rfl, r⟩
            | succ i => exact ih (by simpa using h)
        obtain ⟨v, h1, h2⟩ := key r q
        refine ⟨v, ?_, h2⟩
        unfold L2.start
        rw [List.getElem?_append_left (by rw [List.length_map]; exact (List.getElem?_eq_some_iff.mp h1).1), List.getElem?_map, h1]
        rfl
    · rw [List.getElem?_append_right (by rw [List.length_map]; omega)] at h
      have := List.mem_of_getElem? h
      cases (List.mem_replicate.mp this).2
theorem PZ.of_fn {K : Fg} {E : XK} {R : Type} [Py R] {m : M R} {Hi H : Hp} {Q : VK} {bkk ctt : L2.St → Hp → Prop} (h : PV K E m Hi H Q) : PZ K E ⟨Hi, H, []⟩ m (fun a => pRt K ⟨Hi, H, []⟩ a { nx := fun _ H' => Q .non H', rt := Q, bk := bkk, ct := ctt }) := by
  have key : ∀ {Hi' H' : Hp}, Ok ⟨Hi, H, []⟩ Hi' H' → Nx Hi H Hi' H' := fun {Hi' H'} o => ⟨o.base, fun a u e => o.fr a u (by simp) e, o.sub, o.cap⟩
  cases m with
  | ok a => exact fun v Hi' H' o r => h Hi' H' (key o) v r
  | error e =>
    cases e with
    | rs c => exact fun Hi' H' o => h Hi' H' (key o)
    | st => exact h
def sp1 (K : Fg) {α0 ρ : Type} [Py α0] [Py ρ] (f : α0 → M ρ) : Sp := fun vs H Q E => ∃ (a0 : α0) (v0 : V) (Hi : Hp), vs = [v0] ∧ Same Hi H ∧ Py.rep K Hi a0 v0 ∧ PV K E (f a0) Hi H Q
theorem je_call1 {α0 ρ : Type} [Py α0] [Py ρ] {X : Cx} {K : Fg} {b : Bs} {L : List En} {E : XK} {e0 : Expr} {m0 : M α0} {f : α0 → M ρ} {x : Str} {p pos : Pos} {k : Nat} (F : OkF X.prog X.w X.K X.mg X.base x k (sp1 K f)) (hr : Room k X.A) (hx : Passes (L2.CX X.prog X.w) X E) (h0 : JE X K b L E e0 m0) (hg : Gl X x := by rfl) (hdb : (x == ("__debug__" : Str)) = false := by decide) (s0 : starEach [e0] X.env = (false, eval e0 X.env) :: starEach [] X.env := by rfl) (hpl : (backTo pos (starEach [] X.env)).any (·.1) = false := by rfl) : JE X K b L E (.Call (.Name x p) [e0] [] pos) (m0 >>= fun a0 => f a0) := by
  obtain ⟨fa, fd, ps, F1, F2, F3, F4⟩ := F.ex
  obtain ⟨t0, d0, q0⟩ := h0.ex
  refine .of ⟨tCall (sp1 K f) [] E (tCons t0 tNil), pe_call F3 hr hg F1 F2 F4 .nil hx (pa_cons d0 pa_nil s0) hdb s0 hpl, fun σ Hi H en Q h => ?_⟩
  refine q0 σ Hi H en _ ((h).bind.imp fun a0 Hi1 H1 n1 k1 v0 r0 => ?_)
  exact ⟨a0, v0, _, rfl, n1.sub, r0, k1⟩
theorem mkC1 {α0 ρ : Type} [Py α0] [Py ρ] {P : Program} {w : World} {K : Fg} {mg : Str → Option Value} {base : Heap} {x : Str} {N : List Str} {p0 : Str} {args : Arguments} {body : List Stmt} {sc : Scope} {k : Nat} {f : α0 → M ρ} {fd : FuncData} (F : FunD K x x args body sc [] [] (He.ga K x) fd) (S : FnScope N [p0] sc)
    (h : ∀ (cdv : Value) (A : Around) (outer : List Env) (s : Shared) (H : Hp) (E : XK), Room k (cxOf (L2.CX P w) P w K mg base N x sc (He.ga K x) cdv A outer s H E).A → ∀ (a0 : α0) (b : Bs), b.own = [] → JS (cxOf (L2.CX P w) P w K mg base N x sc (He.ga K x) cdv A outer s H E) K b ([.im (rp K a0)] ++ List.replicate (N.length - 1) .no) E body tlFn (f a0) (pRt K b)) : FnOk P w K mg base (L2.CX P w) (k + 1) (He.ga K x) fd [p0] (sp1 K f) := by
  refine F.ok S (fun vs H Q E hh => ?_) (fun cdv A outer s H vs Q E hr hh => ?_)
  · obtain ⟨a0, v0, Hi, rfl, _⟩ := hh
    rfl
  · obtain ⟨a0, v0, Hi, rfl, sm, r0, q⟩ := hh
    refine ⟨_, pss_wp, (h cdv A outer s H E hr a0 ⟨Hi, H, []⟩ rfl).go _ Hi H ?_ _ (fun σ' H' z => z) ?_⟩
    · exact EnvOk.start (ps := [rp K a0]) sm rfl (Paired.cons r0 Paired.nil)
    · exact PZ.of_fn q
theorem mkF1 {α0 ρ : Type} [Py α0] [Py ρ] {P : Program} {w : World} {K : Fg} {mg : Str → Option Value} {base : Heap} {x : Str} {N : List Str} {p0 : Str} {args : Arguments} {body : List Stmt} {sc : Scope} {k : Nat} {f : α0 → M ρ} (F : ∃ fd, FunD K x x args body sc [] [] (He.ga K x) fd) (g : mg x = some (.ref (He.ga K x))) (S : FnScope N [p0] sc)
    (hb : ∀ (kV doc pm : Value) (an : Option Addr) (cdv ct : Value) (us : List Value), us.length = [p0].length → bindArgs (PySem.W.fnOf x x args body sc .none kV doc pm an cdv ct) ⟨us, []⟩ = pure ([p0].zip us))
    (h : ∀ (cdv : Value) (A : Around) (outer : List Env) (s : Shared) (H : Hp) (E : XK), Room k (cxOf (L2.CX P w) P w K mg base N x sc (He.ga K x) cdv A outer s H E).A → ∀ (a0 : α0) (b : Bs), b.own = [] → JS (cxOf (L2.CX P w) P w K mg base N x sc (He.ga K x) cdv A outer s H E) K b ([.im (rp K a0)] ++ List.replicate (N.length - 1) .no) E body tlFn (f a0) (pRt K b)) : OkF P w K mg base x (k + 1) (sp1 K f) := by
  obtain ⟨fd, F⟩ := F
  exact ⟨_, fd, [p0], g, F.kp, mkC1 F S h, F.bindsN hb⟩
def sp2 (K : Fg) {α0 α1 ρ : Type} [Py α0] [Py α1] [Py ρ] (f : α0 → α1 → M ρ) : Sp := fun vs H Q E => ∃ (a0 : α0) (a1 : α1) (v0 v1 : V) (Hi : Hp), vs = [v0, v1] ∧ Same Hi H ∧ Py.rep K Hi a0 v0 ∧ Py.rep K Hi a1 v1 ∧ PV K E (f a0 a1) Hi H Q
theorem je_call2 {α0 α1 ρ : Type} [Py α0] [Py α1] [Py ρ] {X : Cx} {K : Fg} {b : Bs} {L : List En} {E : XK} {e0 e1 : Expr} {m0 : M α0} {m1 : M α1} {f : α0 → α1 → M ρ} {x : Str} {p pos : Pos} {k : Nat} (F : OkF X.prog X.w X.K X.mg X.base x k (sp2 K f)) (hr : Room k X.A) (hx : Passes (L2.CX X.prog X.w) X E) (h0 : JE X K b L E e0 m0) (h1 : JE X K b L E e1 m1) (hg : Gl X x := by rfl) (hdb : (x == ("__debug__" : Str)) = false := by decide) (s0 : starEach [e0, e1] X.env = (false, eval e0 X.env) :: starEach [e1] X.env := by rfl) (s1 : starEach [e1] X.env = (false, eval e1 X.env) :: starEach [] X.env := by rfl) (hpl : (backTo pos (starEach [e1] X.env)).any (·.1) = false := by rfl) : JE X K b L E (.Call (.Name x p) [e0, e1] [] pos) (m0 >>= fun a0 => m1 >>= fun a1 => f a0 a1) := by
  obtain ⟨fa, fd, ps, F1, F2, F3, F4⟩ := F.ex
  obtain ⟨t0, d0, q0⟩ := h0.ex
  obtain ⟨t1, d1, q1⟩ := h1.ex
  refine .of ⟨tCall (sp2 K f) [] E (tCons t0 (tCons t1 tNil)), pe_call F3 hr hg F1 F2 F4 .nil hx (pa_cons d0 (pa_cons d1 pa_nil s1) s0) hdb s0 hpl, fun σ Hi H en Q h => ?_⟩
  refine q0 σ Hi H en _ ((h).bind.imp fun a0 Hi1 H1 n1 k1 v0 r0 => ?_)
  refine q1 σ Hi1 H1 (en.nx n1) _ ((k1).bind.imp fun a1 Hi2 H2 n2 k2 v1 r1 => ?_)
  exact ⟨a0, a1, v0, v1, _, rfl, n2.sub, (Py.mono n2.im r0), r1, k2⟩
theorem mkC2 {α0 α1 ρ : Type} [Py α0] [Py α1] [Py ρ] {P : Program} {w : World} {K : Fg} {mg : Str → Option Value} {base : Heap} {x : Str} {N : List Str} {p0 p1 : Str} {args : Arguments} {body : List Stmt} {sc : Scope} {k : Nat} {f : α0 → α1 → M ρ} {fd : FuncData} (F : FunD K x x args body sc [] [] (He.ga K x) fd) (S : FnScope N [p0, p1] sc)
    (h : ∀ (cdv : Value) (A : Around) (outer : List Env) (s : Shared) (H : Hp) (E : XK), Room k (cxOf (L2.CX P w) P w K mg base N x sc (He.ga K x) cdv A outer s H E).A → ∀ (a0 : α0) (a1 : α1) (b : Bs), b.own = [] → JS (cxOf (L2.CX P w) P w K mg base N x sc (He.ga K x) cdv A outer s H E) K b ([.im (rp K a0), .im (rp K a1)] ++ List.replicate (N.length - 2) .no) E body tlFn (f a0 a1) (pRt K b)) : FnOk P w K mg base (L2.CX P w) (k + 1) (He.ga K x) fd [p0, p1] (sp2 K f) := by
  refine F.ok S (fun vs H Q E hh => ?_) (fun cdv A outer s H vs Q E hr hh => ?_)
  · obtain ⟨a0, a1, v0, v1, Hi, rfl, _⟩ := hh
    rfl
  · obtain ⟨a0, a1, v0, v1, Hi, rfl, sm, r0, r1, q⟩ := hh
    refine ⟨_, pss_wp, (h cdv A outer s H E hr a0 a1 ⟨Hi, H, []⟩ rfl).go _ Hi H ?_ _ (fun σ' H' z => z) ?_⟩
    · exact EnvOk.start (ps := [rp K a0, rp K a1]) sm rfl (Paired.cons r0 (Paired.cons r1 Paired.nil))
    · exact PZ.of_fn q
theorem mkF2 {α0 α1 ρ : Type} [Py α0] [Py α1] [Py ρ] {P : Program} {w : World} {K : Fg} {mg : Str → Option Value} {base : Heap} {x : Str} {N : List Str} {p0 p1 : Str} {args : Arguments} {body : List Stmt} {sc : Scope} {k : Nat} {f : α0 → α1 → M ρ} (F : ∃ fd, FunD K x x args body sc [] [] (He.ga K x) fd) (g : mg x = some (.ref (He.ga K x))) (S : FnScope N [p0, p1] sc)
    (hb : ∀ (kV doc pm : Value) (an : Option Addr) (cdv ct : Value) (us : List Value), us.length = [p0, p1].length → bindArgs (PySem.W.fnOf x x args body sc .none kV doc pm an cdv ct) ⟨us, []⟩ = pure ([p0, p1].zip us))
    (h : ∀ (cdv : Value) (A : Around) (outer : List Env) (s : Shared) (H : Hp) (E : XK), Room k (cxOf (L2.CX P w) P w K mg base N x sc (He.ga K x) cdv A outer s H E).A → ∀ (a0 : α0) (a1 : α1) (b : Bs), b.own = [] → JS (cxOf (L2.CX P w) P w K mg base N x sc (He.ga K x) cdv A outer s H E) K b ([.im (rp K a0), .im (rp K a1)] ++ List.replicate (N.length - 2) .no) E body tlFn (f a0 a1) (pRt K b)) : OkF P w K mg base x (k + 1) (sp2 K f) := by
  obtain ⟨fd, F⟩ := F
  exact ⟨_, fd, [p0, p1], g, F.kp, mkC2 F S h, F.bindsN hb⟩
def sp3 (K : Fg) {α0 α1 α2 ρ : Type} [Py α0] [Py α1] [Py α2] [Py ρ] (f : α0 → α1 → α2 → M ρ) : Sp := fun vs H Q E => ∃ (a0 : α0) (a1 : α1) (a2 : α2) (v0 v1 v2 : V) (Hi : Hp), vs = [v0, v1, v2] ∧ Same Hi H ∧ Py.rep K Hi a0 v0 ∧ Py.rep K Hi a1 v1 ∧ Py.rep K Hi a2 v2 ∧ PV K E (f a0 a1 a2) Hi H Q
theorem je_call3 {α0 α1 α2 ρ : Type} [Py α0] [Py α1] [Py α2] [Py ρ] {X : Cx} {K : Fg} {b : Bs} {L : List En} {E : XK} {e0 e1 e2 : Expr} {m0 : M α0} {m1 : M α1} {m2 : M α2} {f : α0 → α1 → α2 → M ρ} {x : Str} {p pos : Pos} {k : Nat} (F : OkF X.prog X.w X.K X.mg X.base x k (sp3 K f)) (hr : Room k X.A) (hx : Passes (L2.CX X.prog X.w) X E) (h0 : JE X K b L E e0 m0) (h1 : JE X K b L E e1 m1) (h2 : JE X K b L E e2 m2) (hg : Gl X x := by rfl) (hdb : (x == ("__debug__" : Str)) = false := by decide) (s0 : starEach [e0, e1, e2] X.env = (false, eval e0 X.env) :: starEach [e1, e2] X.env := by rfl) (s1 : starEach [e1, e2] X.env = (false, eval e1 X.env) :: starEach [e2] X.env := by rfl) (s2 : starEach [e2] X.env = (false, eval e2 X.env) :: starEach [] X.env := by rfl) (hpl : (backTo pos (starEach [e1, e2] X.env)).any (·.1) = false := by rfl) : JE X K b L E (.Call (.Name x p) [e0, e1, e2] [] pos) (m0 >>= fun a0 => m1 >>= fun a1 => m2 >>= fun a2 => f a0 a1 a2) := by
  obtain ⟨fa, fd, ps, F1, F2, F3, F4⟩ := F.ex
  obtain ⟨t0, d0, q0⟩ := h0.ex
  obtain ⟨t1, d1, q1⟩ := h1.ex
  obtain ⟨t2, d2, q2⟩ := h2.ex
  refine .of ⟨tCall (sp3 K f) [] E (tCons t0 (tCons t1 (tCons t2 tNil))), pe_call F3 hr hg F1 F2 F4 .nil hx (pa_cons d0 (pa_cons d1 (pa_cons d2 pa_nil s2) s1) s0) hdb s0 hpl, fun σ Hi H en Q h => ?_⟩
  refine q0 σ Hi H en _ ((h).bind.imp fun a0 Hi1 H1 n1 k1 v0 r0 => ?_)
  refine q1 σ Hi1 H1 (en.nx n1) _ ((k1).bind.imp fun a1 Hi2 H2 n2 k2 v1 r1 => ?_)
  refine q2 σ Hi2 H2 ((en.nx n1).nx n2) _ ((k2).bind.imp fun a2 Hi3 H3 n3 k3 v2 r2 => ?_)
  exact ⟨a0, a1, a2, v0, v1, v2, _, rfl, n3.sub, (Py.mono n3.im (Py.mono n2.im r0)), (Py.mono n3.im r1), r2, k3⟩
theorem mkC3 {α0 α1 α2 ρ : Type} [Py α0] [Py α1] [Py α2] [Py ρ] {P : Program} {w : World} {K : Fg} {mg : Str → Option Value} {base : Heap} {x : Str} {N : List Str} {p0 p1 p2 : Str} {args : Arguments} {body : List Stmt} {sc : Scope} {k : Nat} {f : α0 → α1 → α2 → M ρ} {fd : FuncData} (F : FunD K x x args body sc [] [] (He.ga K x) fd) (S : FnScope N [p0, p1, p2] sc)
    (h : ∀ (cdv : Value) (A : Around) (outer : List Env) (s : Shared) (H : Hp) (E : XK), Room k (cxOf (L2.CX P w) P w K mg base N x sc (He.ga K x) cdv A outer s H E).A → ∀ (a0 : α0) (a1 : α1) (a2 : α2) (b : Bs), b.own = [] → JS (cxOf (L2.CX P w) P w K mg base N x sc (He.ga K x) cdv A outer s H E) K b ([.im (rp K a0), .im (rp K a1), .im (rp K a2)] ++ List.replicate (N.length - 3) .no) E body tlFn (f a0 a1 a2) (pRt K b)) : FnOk P w K mg base (L2.CX P w) (k + 1) (He.ga K x) fd [p0, p1, p2] (sp3 K f) := by
  refine F.ok S (fun vs H Q E hh => ?_) (fun cdv A outer s H vs Q E hr hh => ?_)
  · obtain ⟨a0, a1, a2, v0, v1, v2, Hi, rfl, _⟩ := hh
    rfl
  · obtain ⟨a0, a1, a2, v0, v1, v2, Hi, rfl, sm, r0, r1, r2, q⟩ := hh
    refine ⟨_, pss_wp, (h cdv A outer s H E hr a0 a1 a2 ⟨Hi, H, []⟩ rfl).go _ Hi H ?_ _ (fun σ' H' z => z) ?_⟩
    · exact EnvOk.start (ps := [rp K a0, rp K a1, rp K a2]) sm rfl (Paired.cons r0 (Paired.cons r1 (Paired.cons r2 Paired.nil)))
    · exact PZ.of_fn q
theorem mkF3 {α0 α1 α2 ρ : Type} [Py α0] [Py α1] [Py α2] [Py ρ] {P : Program} {w : World} {K : Fg} {mg : Str → Option Value} {base : Heap} {x : Str} {N : List Str} {p0 p1 p2 : Str} {args : Arguments} {body : List Stmt} {sc : Scope} {k : Nat} {f : α0 → α1 → α2 → M ρ} (F : ∃ fd, FunD K x x args body sc [] [] (He.ga K x) fd) (g : mg x = some (.ref (He.ga K x))) (S : FnScope N [p0, p1, p2] sc)
    (hb : ∀ (kV doc pm : Value) (an : Option Addr) (cdv ct : Value) (us : List Value), us.length = [p0, p1, p2].length → bindArgs (PySem.W.fnOf x x args body sc .none kV doc pm an cdv ct) ⟨us, []⟩ = pure ([p0, p1, p2].zip us))
    (h : ∀ (cdv : Value) (A : Around) (outer : List Env) (s : Shared) (H : Hp) (E : XK), Room k (cxOf (L2.CX P w) P w K mg base N x sc (He.ga K x) cdv A outer s H E).A → ∀ (a0 : α0) (a1 : α1) (a2 : α2) (b : Bs), b.own = [] → JS (cxOf (L2.CX P w) P w K mg base N x sc (He.ga K x) cdv A outer s H E) K b ([.im (rp K a0), .im (rp K a1), .im (rp K a2)] ++ List.replicate (N.length - 3) .no) E body tlFn (f a0 a1 a2) (pRt K b)) : OkF P w K mg base x (k + 1) (sp3 K f) := by
  obtain ⟨fd, F⟩ := F
  exact ⟨_, fd, [p0, p1, p2], g, F.kp, mkC3 F S h, F.bindsN hb⟩
def sp4 (K : Fg) {α0 α1 α2 α3 ρ : Type} [Py α0] [Py α1] [Py α2] [Py α3] [Py ρ] (f : α0 → α1 → α2 → α3 → M ρ) : Sp := fun vs H Q E => ∃ (a0 : α0) (a1 : α1) (a2 : α2) (a3 : α3) (v0 v1 v2 v3 : V) (Hi : Hp), vs = [v0, v1, v2, v3] ∧ Same Hi H ∧ Py.rep K Hi a0 v0 ∧ Py.rep K Hi a1 v1 ∧ Py.rep K Hi a2 v2 ∧ Py.rep K Hi a3 v3 ∧ PV K E (f a0 a1 a2 a3) Hi H Q
theorem je_call4 {α0 α1 α2 α3 ρ : Type} [Py α0] [Py α1] [Py α2] [Py α3] [Py ρ] {X : Cx} {K : Fg} {b : Bs} {L : List En} {E : XK} {e0 e1 e2 e3 : Expr} {m0 : M α0} {m1 : M α1} {m2 : M α2} {m3 : M α3} {f : α0 → α1 → α2 → α3 → M ρ} {x : Str} {p pos : Pos} {k : Nat} (F : OkF X.prog X.w X.K X.mg X.base x k (sp4 K f)) (hr : Room k X.A) (hx : Passes (L2.CX X.prog X.w) X E) (h0 : JE X K b L E e0 m0) (h1 : JE X K b L E e1 m1) (h2 : JE X K b L E e2 m2) (h3 : JE X K b L E e3 m3) (hg : Gl X x := by rfl) (hdb : (x == ("__debug__" : Str)) = false := by decide) (s0 : starEach [e0, e1, e2, e3] X.env = (false, eval e0 X.env) :: starEach [e1, e2, e3] X.env := by rfl) (s1 : starEach [e1, e2, e3] X.env = (false, eval e1 X.env) :: starEach [e2, e3] X.env := by rfl) (s2 : starEach [e2, e3] X.env = (false, eval e2 X.env) :: starEach [e3] X.env := by rfl) (s3 : starEach [e3] X.env = (false, eval e3 X.env) :: starEach [] X.env := by rfl) (hpl : (backTo pos (starEach [e1, e2, e3] X.env)).any (·.1) = false := by rfl) : JE X K b L E (.Call (.Name x p) [e0, e1, e2, e3] [] pos) (m0 >>= fun a0 => m1 >>= fun a1 => m2 >>= fun a2 => m3 >>= fun a3 => f a0 a1 a2 a3) := by
  obtain ⟨fa, fd, ps, F1, F2, F3, F4⟩ := F.ex
  obtain ⟨t0, d0, q0⟩ := h0.ex
  obtain ⟨t1, d1, q1⟩ := h1.ex
  obtain ⟨t2, d2, q2⟩ := h2.ex
  obtain ⟨t3, d3, q3⟩ := h3.ex
  refine .of ⟨tCall (sp4 K f) [] E (tCons t0 (tCons t1 (tCons t2 (tCons t3 tNil)))), pe_call F3 hr hg F1 F2 F4 .nil hx (pa_cons d0 (pa_cons d1 (pa_cons d2 (pa_cons d3 pa_nil s3) s2) s1) s0) hdb s0 hpl, fun σ Hi H en Q h => ?_⟩
  refine q0 σ Hi H en _ ((h).bind.imp fun a0 Hi1 H1 n1 k1 v0 r0 => ?_)
  refine q1 σ Hi1 H1 (en.nx n1) _ ((k1).bind.imp fun a1 Hi2 H2 n2 k2 v1 r1 => ?_)
  refine q2 σ Hi2 H2 ((en.nx n1).nx n2) _ ((k2).bind.imp fun a2 Hi3 H3 n3 k3 v2 r2 => ?_)
  refine q3 σ Hi3 H3 (((en.nx n1).nx n2).nx n3) _ ((k3).bind.imp fun a3 Hi4 H4 n4 k4 v3 r3 => ?_)
  exact ⟨a0, a1, a2, a3, v0, v1, v2, v3, _, rfl, n4.sub, (Py.mono n4.im (Py.mono n3.im (Py.mono n2.im r0))), (Py.mono n4.im (Py.mono n3.im r1)), (Py.mono n4.im r2), r3, k4⟩
theorem mkC4 {α0 α1 α2 α3 ρ : Type} [Py α0] [Py α1] [Py α2] [Py α3] [Py ρ] {P : Program} {w : World} {K : Fg} {mg : Str → Option Value} {base : Heap} {x : Str} {N : List Str} {p0 p1 p2 p3 : Str} {args : Arguments} {body : List Stmt} {sc : Scope} {k : Nat} {f : α0 → α1 → α2 → α3 → M ρ} {fd : FuncData} (F : FunD K x x args body sc [] [] (He.ga K x) fd) (S : FnScope N [p0, p1, p2, p3] sc)
    (h : ∀ (cdv : Value) (A : Around) (outer : List Env) (s : Shared) (H : Hp) (E : XK), Room k (cxOf (L2.CX P w) P w K mg base N x sc (He.ga K x) cdv A outer s H E).A → ∀ (a0 : α0) (a1 : α1) (a2 : α2) (a3 : α3) (b : Bs), b.own = [] → JS (cxOf (L2.CX P w) P w K mg base N x sc (He.ga K x) cdv A outer s H E) K b ([.im (rp K a0), .im (rp K a1), .im (rp K a2), .im (rp K a3)] ++ List.replicate (N.length - 4) .no) E body tlFn (f a0 a1 a2 a3) (pRt K b)) : FnOk P w K mg base (L2.CX P w) (k + 1) (He.ga K x) fd [p0, p1, p2, p3] (sp4 K f) := by
  refine F.ok S (fun vs H Q E hh => ?_) (fun cdv A outer s H vs Q E hr hh => ?_)
  · obtain ⟨a0, a1, a2, a3, v0, v1, v2, v3, Hi, rfl, _⟩ := hh
    rfl
  · obtain ⟨a0, a1, a2, a3, v0, v1, v2, v3, Hi, rfl, sm, r0, r1, r2, r3, q⟩ := hh
    refine ⟨_, pss_wp, (h cdv A outer s H E hr a0 a1 a2 a3 ⟨Hi, H, []⟩ rfl).go _ Hi H ?_ _ (fun σ' H' z => z) ?_⟩
    · exact EnvOk.start (ps := [rp K a0, rp K a1, rp K a2, rp K a3]) sm rfl (Paired.cons r0 (Paired.cons r1 (Paired.cons r2 (Paired.cons r3 Paired.nil))))
    · exact PZ.of_fn q
theorem mkF4 {α0 α1 α2 α3 ρ : Type} [Py α0] [Py α1] [Py α2] [Py α3] [Py ρ] {P : Program} {w : World} {K : Fg} {mg : Str → Option Value} {base : Heap} {x : Str} {N : List Str} {p0 p1 p2 p3 : Str} {args : Arguments} {body : List Stmt} {sc : Scope} {k : Nat} {f : α0 → α1 → α2 → α3 → M ρ} (F : ∃ fd, FunD K x x args body sc [] [] (He.ga K x) fd) (g : mg x = some (.ref (He.ga K x))) (S : FnScope N [p0, p1, p2, p3] sc)
    (hb : ∀ (kV doc pm : Value) (an : Option Addr) (cdv ct : Value) (us : List Value), us.length = [p0, p1, p2, p3].length → bindArgs (PySem.W.fnOf x x args body sc .none kV doc pm an cdv ct) ⟨us, []⟩ = pure ([p0, p1, p2, p3].zip us))
    (h : ∀ (cdv : Value) (A : Around) (outer : List Env) (s : Shared) (H : Hp) (E : XK), Room k (cxOf (L2.CX P w) P w K mg base N x sc (He.ga K x) cdv A outer s H E).A → ∀ (a0 : α0) (a1 : α1) (a2 : α2) (a3 : α3) (b : Bs), b.own = [] → JS (cxOf (L2.CX P w) P w K mg base N x sc (He.ga K x) cdv A outer s H E) K b ([.im (rp K a0), .im (rp K a1), .im (rp K a2), .im (rp K a3)] ++ List.replicate (N.length - 4) .no) E body tlFn (f a0 a1 a2 a3) (pRt K b)) : OkF P w K mg base x (k + 1) (sp4 K f) := by
  obtain ⟨fd, F⟩ := F
  exact ⟨_, fd, [p0, p1, p2, p3], g, F.kp, mkC4 F S h, F.bindsN hb⟩
def sp5 (K : Fg) {α0 α1 α2 α3 α4 ρ : Type} [Py α0] [Py α1] [Py α2] [Py α3] [Py α4] [Py ρ] (f : α0 → α1 → α2 → α3 → α4 → M ρ) : Sp := fun vs H Q E => ∃ (a0 : α0) (a1 : α1) (a2 : α2) (a3 : α3) (a4 : α4) (v0 v1 v2 v3 v4 : V) (Hi : Hp), vs = [v0, v1, v2, v3, v4] ∧ Same Hi H ∧ Py.rep K Hi a0 v0 ∧ Py.rep K Hi a1 v1 ∧ Py.rep K Hi a2 v2 ∧ Py.rep K Hi a3 v3 ∧ Py.rep K Hi a4 v4 ∧ PV K E (f a0 a1 a2 a3 a4) Hi H Q
theorem je_call5 {α0 α1 α2 α3 α4 ρ : Type} [Py α0] [Py α1] [Py α2] [Py α3] [Py α4] [Py ρ] {X : Cx} {K : Fg} {b : Bs} {L : List En} {E : XK} {e0 e1 e2 e3 e4 : Expr} {m0 : M α0} {m1 : M α1} {m2 : M α2} {m3 : M α3} {m4 : M α4} {f : α0 → α1 → α2 → α3 → α4 → M ρ} {x : Str} {p pos : Pos} {k : Nat} (F : OkF X.prog X.w X.K X.mg X.base x k (sp5 K f)) (hr : Room k X.A) (hx : Passes (L2.CX X.prog X.w) X E) (h0 : JE X K b L E e0 m0) (h1 : JE X K b L E e1 m1) (h2 : JE X K b L E e2 m2) (h3 : JE X K b L E e3 m3) (h4 : JE X K b L E e4 m4) (hg : Gl X x := by rfl) (hdb : (x == ("__debug__" : Str)) = false := by decide) (s0 : starEach [e0, e1, e2, e3, e4] X.env = (false, eval e0 X.env) :: starEach [e1, e2, e3, e4] X.env := by rfl) (s1 : starEach [e1, e2, e3, e4] X.env = (false, eval e1 X.env) :: starEach [e2, e3, e4] X.env := by rfl) (s2 : starEach [e2, e3, e4] X.env = (false, eval e2 X.env) :: starEach [e3, e4] X.env := by rfl) (s3 : starEach [e3, e4] X.env = (false, eval e3 X.env) :: starEach [e4] X.env := by rfl) (s4 : starEach [e4] X.env = (false, eval e4 X.env) :: starEach [] X.env := by rfl) (hpl : (backTo pos (starEach [e1, e2, e3, e4] X.env)).any (·.1) = false := by rfl) : JE X K b L E (.Call (.Name x p) [e0, e1, e2, e3, e4] [] pos) (m0 >>= fun a0 => m1 >>= fun a1 => m2 >>= fun a2 => m3 >>= fun a3 => m4 >>= fun a4 => f a0 a1 a2 a3 a4) := by
  obtain ⟨fa, fd, ps, F1, F2, F3, F4⟩ := F.ex
  obtain ⟨t0, d0, q0⟩ := h0.ex
  obtain ⟨t1, d1, q1⟩ := h1.ex
  obtain ⟨t2, d2, q2⟩ := h2.ex
  obtain ⟨t3, d3, q3⟩ := h3.ex
  obtain ⟨t4, d4, q4⟩ := h4.ex
  refine .of ⟨tCall (sp5 K f) [] E (tCons t0 (tCons t1 (tCons t2 (tCons t3 (tCons t4 tNil))))), pe_call F3 hr hg F1 F2 F4 .nil hx (pa_cons d0 (pa_cons d1 (pa_cons d2 (pa_cons d3 (pa_cons d4 pa_nil s4) s3) s2) s1) s0) hdb s0 hpl, fun σ Hi H en Q h => ?_⟩
  refine q0 σ Hi H en _ ((h).bind.imp fun a0 Hi1 H1 n1 k1 v0 r0 => ?_)
  refine q1 σ Hi1 H1 (en.nx n1) _ ((k1).bind.imp fun a1 Hi2 H2 n2 k2 v1 r1 => ?_)
  refine q2 σ Hi2 H2 ((en.nx n1).nx n2) _ ((k2).bind.imp fun a2 Hi3 H3 n3 k3 v2 r2 => ?_)
  refine q3 σ Hi3 H3 (((en.nx n1).nx n2).nx n3) _ ((k3).bind.imp fun a3 Hi4 H4 n4 k4 v3 r3 => ?_)
  refine q4 σ Hi4 H4 ((((en.nx n1).nx n2).nx n3).nx n4) _ ((k4).bind.imp fun a4 Hi5 H5 n5 k5 v4 r4 => ?_)
  exact ⟨a0, a1, a2, a3, a4, v0, v1, v2, v3, v4, _, rfl, n5.sub, (Py.mono n5.im (Py.mono n4.im (Py.mono n3.im (Py.mono n2.im r0)))), (Py.mono n5.im (Py.mono n4.im (Py.mono n3.im r1))), (Py.mono n5.im (Py.mono n4.im r2)), (Py.mono n5.im r3), r4, k5⟩
theorem mkC5 {α0 α1 α2 α3 α4 ρ : Type} [Py α0] [Py α1] [Py α2] [Py α3] [Py α4] [Py ρ] {P : Program} {w : World} {K : Fg} {mg : Str → Option Value} {base : Heap} {x : Str} {N : List Str} {p0 p1 p2 p3 p4 : Str} {args : Arguments} {body : List Stmt} {sc : Scope} {k : Nat} {f : α0 → α1 → α2 → α3 → α4 → M ρ} {fd : FuncData} (F : FunD K x x args body sc [] [] (He.ga K x) fd) (S : FnScope N [p0, p1, p2, p3, p4] sc)
    (h : ∀ (cdv : Value) (A : Around) (outer : List Env) (s : Shared) (H : Hp) (E : XK), Room k (cxOf (L2.CX P w) P w K mg base N x sc (He.ga K x) cdv A outer s H E).A → ∀ (a0 : α0) (a1 : α1) (a2 : α2) (a3 : α3) (a4 : α4) (b : Bs), b.own = [] → JS (cxOf (L2.CX P w) P w K mg base N x sc (He.ga K x) cdv A outer s H E) K b ([.im (rp K a0), .im (rp K a1), .im (rp K a2), .im (rp K a3), .im (rp K a4)] ++ List.replicate (N.length - 5) .no) E body tlFn (f a0 a1 a2 a3 a4) (pRt K b)) : FnOk P w K mg base (L2.CX P w) (k + 1) (He.ga K x) fd [p0, p1, p2, p3, p4] (sp5 K f) := by
  refine F.ok S (fun vs H Q E hh => ?_) (fun cdv A outer s H vs Q E hr hh => ?_)
  · obtain ⟨a0, a1, a2, a3, a4, v0, v1, v2, v3, v4, Hi, rfl, _⟩ := hh
    rfl
  · obtain ⟨a0, a1, a2, a3, a4, v0, v1, v2, v3, v4, Hi, rfl, sm, r0, r1, r2, r3, r4, q⟩ := hh
    refine ⟨_, pss_wp, (h cdv A outer s H E hr a0 a1 a2 a3 a4 ⟨Hi, H, []⟩ rfl).go _ Hi H ?_ _ (fun σ' H' z => z) ?_⟩
    · exact EnvOk.start (ps := [rp K a0, rp K a1, rp K a2, rp K a3, rp K a4]) sm rfl (Paired.cons r0 (Paired.cons r1 (Paired.cons r2 (Paired.cons r3 (Paired.cons r4 Paired.nil)))))
    · exact PZ.of_fn q
theorem mkF5 {α0 α1 α2 α3 α4 ρ : Type} [Py α0] [Py α1] [Py α2] [Py α3] [Py α4] [Py ρ] {P : Program} {w : World} {K : Fg} {mg : Str → Option Value} {base : Heap} {x : Str} {N : List Str} {p0 p1 p2 p3 p4 : Str} {args : Arguments} {body : List Stmt} {sc : Scope} {k : Nat} {f : α0 → α1 → α2 → α3 → α4 → M ρ} (F : ∃ fd, FunD K x x args body sc [] [] (He.ga K x) fd) (g : mg x = some (.ref (He.ga K x))) (S : FnScope N [p0, p1, p2, p3, p4] sc)
    (hb : ∀ (kV doc pm : Value) (an : Option Addr) (cdv ct : Value) (us : List Value), us.length = [p0, p1, p2, p3, p4].length → bindArgs (PySem.W.fnOf x x args body sc .none kV doc pm an cdv ct) ⟨us, []⟩ = pure ([p0, p1, p2, p3, p4].zip us))
    (h : ∀ (cdv : Value) (A : Around) (outer : List Env) (s : Shared) (H : Hp) (E : XK), Room k (cxOf (L2.CX P w) P w K mg base N x sc (He.ga K x) cdv A outer s H E).A → ∀ (a0 : α0) (a1 : α1) (a2 : α2) (a3 : α3) (a4 : α4) (b : Bs), b.own = [] → JS (cxOf (L2.CX P w) P w K mg base N x sc (He.ga K x) cdv A outer s H E) K b ([.im (rp K a0), .im (rp K a1), .im (rp K a2), .im (rp K a3), .im (rp K a4)] ++ List.replicate (N.length - 5) .no) E body tlFn (f a0 a1 a2 a3 a4) (pRt K b)) : OkF P w K mg base x (k + 1) (sp5 K f) := by
  obtain ⟨fd, F⟩ := F
  exact ⟨_, fd, [p0, p1, p2, p3, p4], g, F.kp, mkC5 F S h, F.bindsN hb⟩
def sp6 (K : Fg) {α0 α1 α2 α3 α4 α5 ρ : Type} [Py α0] [Py α1] [Py α2] [Py α3] [Py α4] [Py α5] [Py ρ] (f : α0 → α1 → α2 → α3 → α4 → α5 → M ρ) : Sp := fun vs H Q E => ∃ (a0 : α0) (a1 : α1) (a2 : α2) (a3 : α3) (a4 : α4) (a5 : α5) (v0 v1 v2 v3 v4 v5 : V) (Hi : Hp), vs = [v0, v1, v2, v3, v4, v5] ∧ Same Hi H ∧ Py.rep K Hi a0 v0 ∧ Py.rep K Hi a1 v1 ∧ Py.rep K Hi a2 v2 ∧ Py.rep K Hi a3 v3 ∧ Py.rep K Hi a4 v4 ∧ Py.rep K Hi a5 v5 ∧ PV K E (f a0 a1 a2 a3 a4 a5) Hi H Q
theorem je_call6 {α0 α1 α2 α3 α4 α5 ρ : Type} [Py α0] [Py α1] [Py α2] [Py α3] [Py α4] [Py α5] [Py ρ] {X : Cx} {K : Fg} {b : Bs} {L : List En} {E : XK} {e0 e1 e2 e3 e4 e5 : Expr} {m0 : M α0} {m1 : M α1} {m2 : M α2} {m3 : M α3} {m4 : M α4} {m5 : M α5} {f : α0 → α1 → α2 → α3 → α4 → α5 → M ρ} {x : Str} {p pos : Pos} {k : Nat} (F : OkF X.prog X.w X.K X.mg X.base x k (sp6 K f)) (hr : Room k X.A) (hx : Passes (L2.CX X.prog X.w) X E) (h0 : JE X K b L E e0 m0) (h1 : JE X K b L E e1 m1) (h2 : JE X K b L E e2 m2) (h3 : JE X K b L E e3 m3) (h4 : JE X K b L E e4 m4) (h5 : JE X K b L E e5 m5) (hg : Gl X x := by rfl) (hdb : (x == ("__debug__" : Str)) = false := by decide) (s0 : starEach [e0, e1, e2, e3, e4, e5] X.env = (false, eval e0 X.env) :: starEach [e1, e2, e3, e4, e5] X.env := by rfl) (s1 : starEach [e1, e2, e3, e4, e5] X.env = (false, eval e1 X.env) :: starEach [e2, e3, e4, e5] X.env := by rfl) (s2 : starEach [e2, e3, e4, e5] X.env = (false, eval e2 X.env) :: starEach [e3, e4, e5] X.env := by rfl) (s3 : starEach [e3, e4, e5] X.env = (false, eval e3 X.env) :: starEach [e4, e5] X.env := by rfl) (s4 : starEach [e4, e5] X.env = (false, eval e4 X.env) :: starEach [e5] X.env := by rfl) (s5 : starEach [e5] X.env = (false, eval e5 X.env) :: starEach [] X.env := by rfl) (hpl : (backTo pos (starEach [e1, e2, e3, e4, e5] X.env)).any (·.1) = false := by rfl) : JE X K b L E (.Call (.Name x p) [e0, e1, e2, e3, e4, e5] [] pos) (m0 >>= fun a0 => m1 >>= fun a1 => m2 >>= fun a2 => m3 >>= fun a3 => m4 >>= fun a4 => m5 >>= fun a5 => f a0 a1 a2 a3 a4 a5) := by
  obtain ⟨fa, fd, ps, F1, F2, F3, F4⟩ := F.ex
  obtain ⟨t0, d0, q0⟩ := h0.ex
  obtain ⟨t1, d1, q1⟩ := h1.ex
  obtain ⟨t2, d2, q2⟩ := h2.ex
  obtain ⟨t3, d3, q3⟩ := h3.ex
  obtain ⟨t4, d4, q4⟩ := h4.ex
  obtain ⟨t5, d5, q5⟩ := h5.ex
  refine .of ⟨tCall (sp6 K f) [] E (tCons t0 (tCons t1 (tCons t2 (tCons t3 (tCons t4 (tCons t5 tNil)))))), pe_call F3 hr hg F1 F2 F4 .nil hx (pa_cons d0 (pa_cons d1 (pa_cons d2 (pa_cons d3 (pa_cons d4 (pa_cons d5 pa_nil s5) s4) s3) s2) s1) s0) hdb s0 hpl, fun σ Hi H en Q h => ?_⟩
  refine q0 σ Hi H en _ ((h).bind.imp fun a0 Hi1 H1 n1 k1 v0 r0 => ?_)
  refine q1 σ Hi1 H1 (en.nx n1) _ ((k1).bind.imp fun a1 Hi2 H2 n2 k2 v1 r1 => ?_)
  refine q2 σ Hi2 H2 ((en.nx n1).nx n2) _ ((k2).bind.imp fun a2 Hi3 H3 n3 k3 v2 r2 => ?_)
  refine q3 σ Hi3 H3 (((en.nx n1).nx n2).nx n3) _ ((k3).bind.imp fun a3 Hi4 H4 n4 k4 v3 r3 => ?_)
  refine q4 σ Hi4 H4 ((((en.nx n1).nx n2).nx n3).nx n4) _ ((k4).bind.imp fun a4 Hi5 H5 n5 k5 v4 r4 => ?_)
  refine q5 σ Hi5 H5 (((((en.nx n1).nx n2).nx n3).nx n4).nx n5) _ ((k5).bind.imp fun a5 Hi6 H6 n6 k6 v5 r5 => ?_)
  exact ⟨a0, a1, a2, a3, a4, a5, v0, v1, v2, v3, v4, v5, _, rfl, n6.sub, (Py.mono n6.im (Py.mono n5.im (Py.mono n4.im (Py.mono n3.im (Py.mono n2.im r0))))), (Py.mono n6.im (Py.mono n5.im (Py.mono n4.im (Py.mono n3.im r1)))), (Py.mono n6.im (Py.mono n5.im (Py.mono n4.im r2))), (Py.mono n6.im (Py.mono n5.im r3)), (Py.mono n6.im r4), r5, k6⟩
theorem mkC6 {α0 α1 α2 α3 α4 α5 ρ : Type} [Py α0] [Py α1] [Py α2] [Py α3] [Py α4] [Py α5] [Py ρ] {P : Program} {w : World} {K : Fg} {mg : Str → Option Value} {base : Heap} {x : Str} {N : List Str} {p0 p1 p2 p3 p4 p5 : Str} {args : Arguments} {body : List Stmt} {sc : Scope} {k : Nat} {f : α0 → α1 → α2 → α3 → α4 → α5 → M ρ} {fd : FuncData} (F : FunD K x x args body sc [] [] (He.ga K x) fd) (S : FnScope N [p0, p1, p2, p3, p4, p5] sc)
    (h : ∀ (cdv : Value) (A : Around) (outer : List Env) (s : Shared) (H : Hp) (E : XK), Room k (cxOf (L2.CX P w) P w K mg base N x sc (He.ga K x) cdv A outer s H E).A → ∀ (a0 : α0) (a1 : α1) (a2 : α2) (a3 : α3) (a4 : α4) (a5 : α5) (b : Bs), b.own = [] → JS (cxOf (L2.CX P w) P w K mg base N x sc (He.ga K x) cdv A outer s H E) K b ([.im (rp K a0), .im (rp K a1), .im (rp K a2), .im (rp K a3), .im (rp K a4), .im (rp K a5)] ++ List.replicate (N.length - 6) .no) E body tlFn (f a0 a1 a2 a3 a4 a5) (pRt K b)) : FnOk P w K mg base (L2.CX P w) (k + 1) (He.ga K x) fd [p0, p1, p2, p3, p4, p5] (sp6 K f) := by
  refine F.ok S (fun vs H Q E hh => ?_) (fun cdv A outer s H vs Q E hr hh => ?_)
  · obtain ⟨a0, a1, a2, a3, a4, a5, v0, v1, v2, v3, v4, v5, Hi, rfl, _⟩ := hh
    rfl
  · obtain ⟨a0, a1, a2, a3, a4, a5, v0, v1, v2, v3, v4, v5, Hi, rfl, sm, r0, r1, r2, r3, r4, r5, q⟩ := hh
    refine ⟨_, pss_wp, (h cdv A outer s H E hr a0 a1 a2 a3 a4 a5 ⟨Hi, H, []⟩ rfl).go _ Hi H ?_ _ (fun σ' H' z => z) ?_⟩
    · exact EnvOk.start (ps := [rp K a0, rp K a1, rp K a2, rp K a3, rp K a4, rp K a5]) sm rfl (Paired.cons r0 (Paired.cons r1 (Paired.cons r2 (Paired.cons r3 (Paired.cons r4 (Paired.cons r5 Paired.nil))))))
    · exact PZ.of_fn q
theorem mkF6 {α0 α1 α2 α3 α4 α5 ρ : Type} [Py α0] [Py α1] [Py α2] [Py α3] [Py α4] [Py α5] [Py ρ] {P : Program} {w : World} {K : Fg} {mg : Str → Option Value} {base : Heap} {x : Str} {N : List Str} {p0 p1 p2 p3 p4 p5 : Str} {args : Arguments} {body : List Stmt} {sc : Scope} {k : Nat} {f : α0 → α1 → α2 → α3 → α4 → α5 → M ρ} (F : ∃ fd, FunD K x x args body sc [] [] (He.ga K x) fd) (g : mg x = some (.ref (He.ga K x))) (S : FnScope N [p0, p1, p2, p3, p4, p5] sc)
    (hb : ∀ (kV doc pm : Value) (an : Option Addr) (cdv ct : Value) (us : List Value), us.length = [p0, p1, p2, p3, p4, p5].length → bindArgs (PySem.W.fnOf x x args body sc .none kV doc pm an cdv ct) ⟨us, []⟩ = pure ([p0, p1, p2, p3, p4, p5].zip us))
    (h : ∀ (cdv : Value) (A : Around) (outer : List Env) (s : Shared) (H : Hp) (E : XK), Room k (cxOf (L2.CX P w) P w K mg base N x sc (He.ga K x) cdv A outer s H E).A → ∀ (a0 : α0) (a1 : α1) (a2 : α2) (a3 : α3) (a4 : α4) (a5 : α5) (b : Bs), b.own = [] → JS (cxOf (L2.CX P w) P w K mg base N x sc (He.ga K x) cdv A outer s H E) K b ([.im (rp K a0), .im (rp K a1), .im (rp K a2), .im (rp K a3), .im (rp K a4), .im (rp K a5)] ++ List.replicate (N.length - 6) .no) E body tlFn (f a0 a1 a2 a3 a4 a5) (pRt K b)) : OkF P w K mg base x (k + 1) (sp6 K f) := by
  obtain ⟨fd, F⟩ := F
  exact ⟨_, fd, [p0, p1, p2, p3, p4, p5], g, F.kp, mkC6 F S h, F.bindsN hb⟩
end G

set_option Elab.async false
set_option linter.all false
set_option maxRecDepth 100000
set_option maxHeartbeats 2000000
namespace G
open PySem L2 TL

/-! ### heaps: floors, fresh objects -/
def Bs.fl (b : Bs) (F : Hp) : Bs := ⟨F, b.H, b.own⟩
section
variable {b : Bs} {L : List En} {σ : L2.St} {F Hi H Hi' H' H0 : Hp}
theorem Ok.up (o : Ok b Hi H) : Ok (b.fl Hi) Hi H := ⟨o.sub, Same.refl _, o.fr, o.keep, fun _ _ h => h⟩
theorem Ok.down (o : Ok b F H0) (o' : Ok (b.fl F) Hi H) : Ok b Hi H := ⟨o'.sub, o.base.trans o'.base, o'.fr, o'.keep, fun a h n => o'.cap a h (o.cap a h n)⟩
theorem EnvOk.up (e : EnvOk b L σ Hi H) : EnvOk (b.fl Hi) L σ Hi H := ⟨e.ok.up, e.len, e.im, e.fp⟩
theorem EnvOk.down (o : Ok b F H0) (e : EnvOk (b.fl F) L σ Hi H) : EnvOk b L σ Hi H := ⟨o.down e.ok, e.len, e.im, e.fp⟩
theorem EnvOk.to {L' : List En} (e : EnvOk b L σ Hi H) (h : L = L') : EnvOk b L' σ Hi H := h ▸ e
end
/-- the content of a list that a name holds alone -/
def ctL (K : Fg) {α : Type} [Py α] (xs : List α) : Ct := ⟨fun H o => ∃ vs, o = .lst vs ∧ Rl K H xs vs, fun e ⟨vs, h1, h2⟩ => ⟨vs, h1, h2.mono e⟩⟩
/-- an expression that makes a fresh object -/
def PF (K : Fg) (E : XK) {α : Type} (c : α → Ct) (m : M α) (Hi H : Hp) (Q : VK) : Prop :=
  PX K E m Hi H fun a Hi' H' => ∀ p o, H' p = some o → H p = none → Hi' p = none → (c a).r Hi' o → Q (.ref p) H'
structure JF (X : Cx) (K : Fg) (b : Bs) (L : List En) (E : XK) (e : Expr) {α : Type} (c : α → Ct) (m : M α) : Prop where
  go : ∀ σ Hi H, EnvOk b L σ Hi H → ∀ Q : VK, PF K E c m Hi H Q → wpE X e σ H Q

section
variable {X : Cx} {K : Fg} {mg : Str → Option Value} {b : Bs} {L L' : List En} {E : XK} {e e1 e2 : Expr} {st : Stmt} {rest body a bb : List Stmt} {α β γ S R : Type} {pos p' p2 p3 : Pos} {tl : Ends → Prop} {post : α → Ends → Prop}
theorem js_cons {m1 : M S} {Lf : S → List En} {m2 : S → M α} (h1 : J1 X K b L E st m1 Lf) (h2 : ∀ s, JS X K b (Lf s) E rest tl (m2 s) post) : JS X K b L E (st :: rest) tl (m1 >>= fun s => m2 s) post :=
  ⟨fun σ Hi H en D htl hz => PSs.wp (pss_cons ps_wp pss_wp) (h1.go σ Hi H en _ (hz.bindz.imp fun s q σ' Hi' H' en' => (h2 s).go σ' Hi' H' en' D htl q))⟩
theorem js_nilP {Lf : S → List En} {s : S} (w : Wk L (Lf s)) : JS X K b L E [] tl (pure s) (pNx b Lf) :=
  ⟨fun σ Hi H en D _ hz => PSs.wp pss_nil (show D.nx σ H from hz σ Hi H (en.wk w))⟩
theorem js_nilF : JS X K b L E [] tlFn (pure () : M Unit) (pRt K b) :=
  ⟨fun σ Hi H en D ht hz => PSs.wp pss_nil (show D.nx σ H from ht σ H (hz .non Hi H en.ok rfl))⟩
theorem js_nilL [Rt R] {Lf : S → List En} {s : S} (w : Wk L (Lf s)) : JS X K b L E [] tlLp (pure (.ct s) : M (Tl S R)) (pTl K b Lf) :=
  ⟨fun σ Hi H en D ht hz => PSs.wp pss_nil (show D.nx σ H from ht σ H ((show ∀ σ' Hi' H', EnvOk b (Lf s) σ' Hi' H' → D.ct σ' H' from hz) σ Hi H (en.wk w)))⟩
theorem PZ.ret [Py R] {m : M R} {D : Ends} {σ : L2.St} {Hi H : Hp} (en : EnvOk b L σ Hi H) (hz : PZ K E b m fun a => pRt K b a D) : PV K E m Hi H D.rt := by
  cases m with
  | ok a => exact fun Hi' H' x v r => hz v Hi' H' (en.nx x).ok r
  | error z =>
    cases z with
    | rs c => exact fun Hi' H' x => hz Hi' H' (en.nx x).ok
    | st => exact hz
theorem js_ret [Py R] {m : M R} (h : JE X K b L E e m) : JS X K b L E (.Return (some e) pos :: rest) tl m (pRt K b) :=
  ⟨fun σ Hi H en D _ hz => PSs.wp (pss_cons (ps_ret pe_wp) pss_wp) (h.go σ Hi H en D.rt (hz.ret en))⟩
theorem js_retL [Py R] {m : M R} {Lf : S → List En} (h : JE X K b L E e m) : JS X K b L E (.Return (some e) pos :: rest) tl (m >>= fun r => pure (.rt r) : M (Tl S R)) (pTl K b Lf) :=
  ⟨fun σ Hi H en D _ hz => PSs.wp (pss_cons (ps_ret pe_wp) pss_wp) (h.go σ Hi H en D.rt (PZ.ret en (hz.bindz.imp fun r q => q)))⟩
theorem js_retN : JS X K b L E (.Return none pos :: rest) tl (pure () : M Unit) (pRt K b) :=
  ⟨fun σ Hi H en D _ hz => PSs.wp (pss_cons ps_retN pss_wp) (show D.rt .non H from hz .non Hi H en.ok rfl)⟩
theorem js_brk [Rt R] {Lf : S → List En} {s : S} (w : Wk L (Lf s)) : JS X K b L E (.Break pos :: rest) tl (pure (.bk s) : M (Tl S R)) (pTl K b Lf) :=
  ⟨fun σ Hi H en D _ hz => PSs.wp (pss_cons ps_break pss_wp) (show D.bk σ H from (show ∀ σ' Hi' H', EnvOk b (Lf s) σ' Hi' H' → D.bk σ' H' from hz) σ Hi H (en.wk w))⟩
theorem js_cnt [Rt R] {Lf : S → List En} {s : S} (w : Wk L (Lf s)) : JS X K b L E (.Continue pos :: rest) tl (pure (.ct s) : M (Tl S R)) (pTl K b Lf) :=
  ⟨fun σ Hi H en D _ hz => PSs.wp (pss_cons ps_continue pss_wp) (show D.ct σ H from (show ∀ σ' Hi' H', EnvOk b (Lf s) σ' Hi' H' → D.ct σ' H' from hz) σ Hi H (en.wk w))⟩
theorem js_raise {c : Str} {m : Str} {j : Nat} {pp : Pos} (tk : Takes X (fun cls d _ H => E cls d H)) (hc : X.calm = true) (gC : X.mg c = some (.ref (He.ga X.K c))) (hx : (He.Fa.exc c).ok X.K = true) (hK : X.K = K := by rfl) (hg : Gl X c := by rfl) (hdb : (c == ("__debug__" : Str)) = false := by decide) :
    JS X K b L E (.Raise (some (.Call (.Name c pp) [.Constant (.str m) j p2] [] p3)) none pos :: rest) tl (raise c : M α) post := by
  obtain ⟨q1, q2, q3, q4⟩ := He.exc_ok hx
  subst hK
  exact ⟨fun σ Hi H en D _ hz => PSs.wp (pss_cons (ps_raise hc tk (pmk_own PySem.F.excBase_ValueError q1 gC q2 (raises_own q3 q4) hg hdb)) pss_wp) (show E (.ref (He.ga X.K c)) none H from (show ∀ Hi' H', Ok b Hi' H' → E (.ref (He.ga X.K c)) none H' from hz) Hi H en.ok)⟩
theorem js_if2 {c : Expr} {mc : M Bool} {ma mb : M α} (h : JT X K b L E c mc) (h1 : JS X K b L E a tl ma post) (h2 : JS X K b L E bb tl mb post) : JS X K b L E [.If c a bb pos] tl (mc >>= fun t => if t = true then ma else mb) post :=
  ⟨fun σ Hi H en D ht hz => PSs.wp (pss_one (ps_if pt_wp pss_wp pss_wp)) (h.go σ Hi H en _ ((PZ.bind en hz).imp fun t Hi' H' x q => by
    cases t with
    | true =>
      rw [if_pos rfl] at q ⊢
      exact h1.go σ Hi' H' (en.nx x) D ht q
    | false =>
      rw [if_neg Bool.false_ne_true] at q ⊢
      exact h2.go σ Hi' H' (en.nx x) D ht q))⟩
theorem js_if1 {c : Expr} {mc : M Bool} {ma mr : M α} (pi : PiOk post) (h : JT X K b L E c mc) (h1 : JS X K b L E a tlAny ma post) (h2 : JS X K b L E rest tl mr post) : JS X K b L E (.If c a [] pos :: rest) tl (mc >>= fun t => if t = true then ma else mr) post :=
  ⟨fun σ Hi H en D ht hz => PSs.wp (pss_cons (ps_if pt_wp pss_wp pss_nil) pss_wp) (h.go σ Hi H en _ ((PZ.bind en hz).imp fun t Hi' H' x q => by
    cases t with
    | true =>
      rw [if_pos rfl] at q ⊢
      exact h1.go σ Hi' H' (en.nx x) _ trivial (q.imp fun a h => pi a D _ h)
    | false =>
      rw [if_neg Bool.false_ne_true] at q ⊢
      exact h2.go σ Hi' H' (en.nx x) D ht q))⟩
/-- the first branch ends, the other one goes on -/
theorem js_if1E {c : Expr} {mc : M Bool} {ma : M α} {mb : M S} {Lf : S → List En} {mr : S → M α} (pi : PiOk post) (h : JT X K b L E c mc) (h1 : JS X K b L E a tlAny ma post) (h3 : JS X K b L E bb tlAny mb (pNx b Lf)) (h2 : ∀ s, JS X K b (Lf s) E rest tl (mr s) post) :
    JS X K b L E (.If c a bb pos :: rest) tl (mc >>= fun t => if t = true then ma else (mb >>= fun s => mr s)) post :=
  ⟨fun σ Hi H en D ht hz => PSs.wp (pss_cons (ps_if pt_wp pss_wp pss_wp) pss_wp) (h.go σ Hi H en _ ((PZ.bind en hz).imp fun t Hi' H' x q => by
    cases t with
    | true =>
      rw [if_pos rfl] at q ⊢
      exact h1.go σ Hi' H' (en.nx x) _ trivial (q.imp fun a h => pi a D _ h)
    | false =>
      rw [if_neg Bool.false_ne_true] at q ⊢
      exact h3.go σ Hi' H' (en.nx x) _ trivial (q.bindz.imp fun s z σ2 Hi2 H2 en2 => (h2 s).go σ2 Hi2 H2 en2 D ht z)))⟩
theorem js_if1F {c : Expr} {mc : M Bool} {ma : M α} {mb : M S} {Lf : S → List En} {mr : S → M α} (pi : PiOk post) (h : JT X K b L E c mc) (h1 : JS X K b L E bb tlAny ma post) (h3 : JS X K b L E a tlAny mb (pNx b Lf)) (h2 : ∀ s, JS X K b (Lf s) E rest tl (mr s) post) :
    JS X K b L E (.If c a bb pos :: rest) tl (mc >>= fun t => if t = true then (mb >>= fun s => mr s) else ma) post :=
  ⟨fun σ Hi H en D ht hz => PSs.wp (pss_cons (ps_if pt_wp pss_wp pss_wp) pss_wp) (h.go σ Hi H en _ ((PZ.bind en hz).imp fun t Hi' H' x q => by
    cases t with
    | false =>
      rw [if_neg Bool.false_ne_true] at q ⊢
      exact h1.go σ Hi' H' (en.nx x) _ trivial (q.imp fun a h => pi a D _ h)
    | true =>
      rw [if_pos rfl] at q ⊢
      exact h3.go σ Hi' H' (en.nx x) _ trivial (q.bindz.imp fun s z σ2 Hi2 H2 en2 => (h2 s).go σ2 Hi2 H2 en2 D ht z)))⟩
theorem j1_if {c : Expr} {mc : M Bool} {ma mb : M S} {Lf : S → List En} (h : JT X K b L E c mc) (h1 : JS X K b L E a tlAny ma (pNx b Lf)) (h2 : JS X K b L E bb tlAny mb (pNx b Lf)) : J1 X K b L E (.If c a bb pos) (mc >>= fun t => if t = true then ma else mb) Lf :=
  ⟨fun σ Hi H en D hz => PS.wp (ps_if pt_wp pss_wp pss_wp) (h.go σ Hi H en _ ((PZ.bind en hz).imp fun t Hi' H' x q => by
    cases t with
    | true =>
      rw [if_pos rfl] at q ⊢
      exact h1.go σ Hi' H' (en.nx x) D trivial q
    | false =>
      rw [if_neg Bool.false_ne_true] at q ⊢
      exact h2.go σ Hi' H' (en.nx x) D trivial q))⟩
theorem js_wk {m : M α} (w : Wk L L') (h : JS X K b L' E rest tl m post) : JS X K b L E rest tl m post := ⟨fun σ Hi H en D ht hz => h.go σ Hi H (en.wk w) D ht hz⟩
theorem j1_pass : J1 X K b L E (.Pass pos) (pure ()) (fun _ => L) := ⟨fun σ Hi H en D hz => PS.wp ps_pass (show D.nx σ H from hz σ Hi H en)⟩

/-! assignments -/
theorem j1_set [Py α] {m : M α} (i : Nat) {x : Str} (h : JE X K b L E e m) (hN : X.N.Nodup) (hi : X.N[i]? = some x := by rfl) (hx : Loc X.env.scope x := by first | exact Or.inl rfl | exact Or.inr rfl) (hs : swapsWith e (some (.Name x p')) pos.line X.env = pure false := by rfl)
    (hf : X.fn x = true ∨ X.env.scope.names.lookup x = some .local := by first | exact .inl rfl | exact .inr rfl) : J1 X K b L E (.Assign [.Name x p'] e pos) m (fun a => L.set i (.im (rp K a))) :=
  ⟨fun σ Hi H en D hz => PS.wp (ps_set hN hi hx pe_wp hs hf) (h.go σ Hi H en _ ((PZ.px en hz).imp fun a Hi' H' x q v r => q _ Hi' H' ((en.nx x).set (p := rp K a) r)))⟩
theorem j1_setF {m : M α} {c : α → Ct} (i : Nat) {x : Str} (h : JF X K b L E e c m) (hN : X.N.Nodup) (hi : X.N[i]? = some x := by rfl) (hx : Loc X.env.scope x := by first | exact Or.inl rfl | exact Or.inr rfl) (hs : swapsWith e (some (.Name x p')) pos.line X.env = pure false := by rfl)
    (hf : X.fn x = true ∨ X.env.scope.names.lookup x = some .local := by first | exact .inl rfl | exact .inr rfl) : J1 X K b L E (.Assign [.Name x p'] e pos) m (fun a => L.set i (.mu (c a))) :=
  ⟨fun σ Hi H en D hz => PS.wp (ps_set hN hi hx pe_wp hs hf) (h.go σ Hi H en _ ((PZ.px en hz).imp fun a Hi' H' x q p o h1 h2 h3 h4 => q _ Hi' H' (en.setFresh x h1 h2 h3 h4)))⟩
theorem j1_drop [Py α] {m : M α} (h : JE X K b L E e m) (hs : swapsWith e none pos.line X.env = pure false := by rfl) : J1 X K b L E (.Expr e pos) (m >>= fun _ => pure ()) (fun _ => L) :=
  ⟨fun σ Hi H en D hz => PS.wp (ps_expr pe_wp hs) (h.go σ Hi H en _ ((PZ.bind en hz).imp fun a Hi' H' x q v r => (show ∀ σ' Hi' H', EnvOk b L σ' Hi' H' → D.nx σ' H' from q) _ Hi' H' (en.nx x)))⟩
theorem jf_lst [Py α] {es : List Expr} {m : M (List α)} (h : JL X K b L E es m) (hl : es.length ≤ 1000 := by decide) : JF X K b L E (.List es pos) (ctL K) m :=
  ⟨fun σ Hi H en Q hq => PE.wp (pe_lst pa_wp) (h.go σ Hi H en _ (by
    have l := h.len
    cases m with
    | error z => cases z with
      | rs c => exact hq
      | st => exact hq
    | ok xs =>
      refine fun Hi1 H1 n1 vs rvs => ⟨?_, fun q hq1 => ?_⟩
      · rw [← rvs.length, l xs rfl]
        exact Nat.le_trans hl (by decide)
      · have nq : H q = none := by
          cases z : H q with
          | none => rfl
          | some u => rw [n1.al q u z] at hq1; cases hq1
        exact (PX.go (a := xs) hq (n1.trans (Nx.temp n1.sub hq1))) q _ upd_same nq (hi_none n1.sub hq1) ⟨vs, rfl, rvs⟩))⟩
/-- told for good -/
theorem js_frz [Py α] {β : Type} {m : M β} {post : β → Ends → Prop} (i : Nat) {xs : List α} (h : JS X K b (L.set i (.im (rp K xs))) E rest tl m post) (hL : L[i]? = some (.mu (ctL K xs)) := by rfl) : JS X K b L E rest tl m post :=
  ⟨fun σ Hi H en D ht hz => by
    obtain ⟨Hi', en'⟩ := en.frz (p := rp K xs) hL (fun Hi a Hi' o sm hr ha => by
      obtain ⟨vs, rfl, r⟩ := hr
      exact ⟨a, vs, rfl, .of ha, r.mono sm⟩)
    exact h.go σ Hi' H en' D ht hz⟩
theorem EnvOk.muL [Py α] {σ : L2.St} {Hi H : Hp} {i : Nat} {xs : List α} (en : EnvOk b L σ Hi H) (hL : L[i]? = some (.mu (ctL K xs))) : ∃ p vs, σ[i]? = some (some (V.ref p)) ∧ H p = some (.lst vs) ∧ Rl K Hi xs vs := by
  obtain ⟨p, o, h1, h2, _, _, vs, rfl, r⟩ := en.mu i _ hL
  exact ⟨p, vs, h1, h2, r⟩
theorem j1_append [Py α] {m : M α} (i : Nat) {x : Str} {xs : List α} {apos : Pos} {pn : Pos} (h : JE X K b L E e m) (hL : L[i]? = some (.mu (ctL K xs)) := by rfl) (hN : X.N[i]? = some x := by rfl) (hv : Vis X.env.scope x := by first | exact Or.inl rfl | exact Or.inr (Or.inl rfl) | exact Or.inr (Or.inr rfl))
    (hd : (x == ("__debug__" : Str)) = false := by decide) (hcd : (x == ("__classdict__" : Str)) = false := by decide) (hs1 : starEach [e] X.env = (false, eval e X.env) :: starEach [] X.env := by rfl)
    (hbase : attributeBase (.Name x pn) "append" X.env (eval (.Name x pn) X.env) = eval (.Name x pn) X.env := by rfl)
    (hfew : ((backTo p2 (starEach [e] X.env)).all (fun x => !x.1) && (backToKw p2 (keywordEach [] X.env)).all (fun x => x.1.isSome) && decide ([e].length + ([] : List Keyword).length + (if ([] : List Keyword).isEmpty then 0 else 1) < 30)) = true := by rfl)
    (hline : (apos.endLine == p2.line) = true := by rfl) (hplain : (backTo p2 (starEach [] X.env)).any (·.1) = false := by rfl)
    (hs : swapsWith (.Call (.Attribute (.Name x pn) "append" apos) [e] [] p2) none pos.line X.env = pure false := by rfl) :
    J1 X K b L E (.Expr (.Call (.Attribute (.Name x pn) "append" apos) [e] [] p2) pos) (m >>= fun a => chk (xs.length < SZ) >>= fun _ => pure a) (fun a => L.set i (.mu (ctL K (xs ++ [a])))) :=
  ⟨fun σ Hi H en D hz => by
    obtain ⟨p, vs, h1, h2, r⟩ := en.muL hL
    refine PS.wp (ps_expr (pe_bm PySem.F.plainAttrs_list PySem.F.slot_list_append PySem.F.type_list_append mt_append (pe_var hN hv hd hcd) (pa_cons pe_wp pa_nil hs1) hbase hfew hline hs1 hplain) hs) ?_
    refine ⟨_, h1, .inl ⟨rfl, _, SqL.of h2⟩, h.go σ Hi H en _ ((PZ.bind en hz).imp fun a Hi' H' y q v rv => ?_)⟩
    obtain ⟨c, q⟩ := PZ.chk q
    have en' := en.nx y
    refine ⟨p, vs, v, rfl, rfl, y.al _ _ h2, ?_, ?_⟩
    · rw [← r.length]; exact c
    · exact (show ∀ σ' Hi' H', EnvOk b (L.set i (.mu (ctL K (xs ++ [a])))) σ' Hi' H' → D.nx σ' H' from q) _ Hi' _ (en'.mut (c' := ctL K (xs ++ [a])) hL h1 ⟨_, rfl, (r.mono y.im).app (.cons rv .nil)⟩)⟩
theorem j1_setIx [Py α] {m : M α} {mi : M Int} (i : Nat) {x : Str} {xs : List α} {pn : Pos} (h : JE X K b L E e m) (hj : JE X K b L E e1 mi) (hL : L[i]? = some (.mu (ctL K xs)) := by rfl) (hN : X.N[i]? = some x := by rfl) (hv : Vis X.env.scope x := by first | exact Or.inl rfl | exact Or.inr (Or.inl rfl) | exact Or.inr (Or.inr rfl))
    (hd : (x == ("__debug__" : Str)) = false := by decide) (hcd : (x == ("__classdict__" : Str)) = false := by decide) (hs : swapsWithSole [.Subscript (.Name x pn) e1 p'] e pos.line X.env = pure false := by rfl) (hw : swappedStores [.Subscript (.Name x pn) e1 p'] e X.env = pure none := by rfl)
    (hset : ∀ v, assign (.Subscript (.Name x pn) e1 p') X.env v = (do
      let ov ← holding [v] (eval (.Name x pn) X.env)
      let iv ← holding [v, ov] (eval e1 X.env)
      standAt p'
      holding [v, ov, iv] (setItem ov iv v)
      release [v, ov, iv] []) := by intro _; rfl) :
    J1 X K b L E (.Assign [.Subscript (.Name x pn) e1 p'] e pos) (m >>= fun a => mi >>= fun k => ofO (ixN xs.length k) >>= fun j => pure (xs.set j a)) (fun ys => L.set i (.mu (ctL K ys))) :=
  ⟨fun σ Hi H en D hz => by
    obtain ⟨p, vs, h1, h2, r⟩ := en.muL hL
    refine PS.wp (ps_asg pe_wp (pg_sub (pe_var hN hv hd hcd) pe_wp set_list hset) hs hw) ?_
    refine h.go σ Hi H en _ ((PZ.bind en hz).imp fun a Hi1 H1 y1 q1 v rv => ?_)
    refine ⟨_, h1, hj.go σ Hi1 H1 (en.nx y1) _ ((PZ.bind (en.nx y1) q1).imp fun k Hi2 H2 y2 q2 w rw => ?_)⟩
    have en' := (en.nx y1).nx y2
    have hr := r.length
    cases z : ixN xs.length k with
    | none => rw [z] at q2; exact q2.elim
    | some j =>
      rw [z] at q2
      refine ⟨p, vs, k, j, rfl, rw, y2.al _ _ (y1.al _ _ h2), by rw [← hr]; exact z, ?_⟩
      exact (show ∀ σ' Hi' H', EnvOk b (L.set i (.mu (ctL K (xs.set j a)))) σ' Hi' H' → D.nx σ' H' from q2) _ Hi2 _ (en'.mut (c' := ctL K (xs.set j a)) hL h1 ⟨_, rfl, Rl.set (Py.mono y2.im rv) j (r.mono (y1.im.trans y2.im))⟩)⟩
/-- a name op= e -/
theorem j1_aug [Py α] [Py β] [Py γ] {m : M β} {op : Operator} {r : R2} {f : α → β → M γ} (i : Nat) {x : Str} {x0 : α} (ho : OpR X (inplaceOp op) r) (hr : RO K E r f) (h : JE X K b L E e m) (hN : X.N.Nodup) (hL : L[i]? = some (.im (rp K x0)) := by rfl) (hi : X.N[i]? = some x := by rfl)
    (hx : Loc X.env.scope x := by first | exact Or.inl rfl | exact Or.inr rfl) (hf : X.fn x = true ∨ X.env.scope.names.lookup x = some .local := by first | exact .inl rfl | exact .inr rfl) :
    J1 X K b L E (.AugAssign (.Name x p') op e pos) (m >>= fun y => f x0 y) (fun z => L.set i (.im (rp K z))) :=
  ⟨fun σ Hi H en D hz => by
    obtain ⟨v, h1, h2⟩ := en.im i _ hL
    refine PS.wp (ps_aug hN hi hx pe_wp (show PIp X op r from ho) hf) ⟨v, h1, h.go σ Hi H en _ ((PZ.bind en hz).imp fun y Hi' H' n q w rw => ?_)⟩
    exact hr x0 y v w Hi' H' _ n.sub (Py.mono n.im h2) rw ((PZ.px (en.nx n) q).imp fun z Hi2 H2 n2 q2 u ru => q2 _ Hi2 H2 (((en.nx n).nx n2).set (p := rp K z) ru))⟩
/-- len of a list that a name holds alone -/
theorem je_lenM [Py α] (i : Nat) {x : Str} {xs : List α} {pn : Pos} (hm : mg "len" = none) (hL : L[i]? = some (.mu (ctL K xs)) := by rfl) (hN : X.N[i]? = some x := by rfl) (hv : Vis X.env.scope x := by first | exact Or.inl rfl | exact Or.inr (Or.inl rfl) | exact Or.inr (Or.inr rfl))
    (hd : (x == ("__debug__" : Str)) = false := by decide) (hcd : (x == ("__classdict__" : Str)) = false := by decide) (hM : X.mg = mg := by rfl) (hg : Gl X "len" := by rfl) (he : starEach [.Name x pn] X.env = (false, eval (.Name x pn) X.env) :: starEach [] X.env := by rfl) (hpl : (backTo pos (starEach [] X.env)).any (·.1) = false := by rfl) :
    JE X K b L E (.Call (.Name "len" p2) [.Name x pn] [] pos) (pure (xs.length : Int) : M Int) :=
  ⟨fun σ Hi H en Q h => by
    obtain ⟨p, vs, h1, h2, r⟩ := en.muL hL
    refine PE.wp (pe_callB call_len_seq hg (by rw [hM]; exact hm) PySem.boot_len (pa_cons (pe_var hN hv hd hcd) pa_nil he) (by decide) (by decide) he hpl) ⟨_, h1, p, vs, rfl, .inl (SqL.of h2), ?_⟩
    exact h.here en.sub _ (by rw [r.length]; rfl)⟩
/-- an item of it -/
theorem je_ixM [Py α] {mi : M Int} (i : Nat) {x : Str} {xs : List α} {pn : Pos} (hj : JE X K b L E e mi) (hL : L[i]? = some (.mu (ctL K xs)) := by rfl) (hN : X.N[i]? = some x := by rfl) (hv : Vis X.env.scope x := by first | exact Or.inl rfl | exact Or.inr (Or.inl rfl) | exact Or.inr (Or.inr rfl))
    (hd : (x == ("__debug__" : Str)) = false := by decide) (hcd : (x == ("__classdict__" : Str)) = false := by decide) (hs : PlainIx e := by exact fun _ _ => rfl) :
    JE X K b L E (.Subscript (.Name x pn) e pos) (mi >>= fun k => atL xs k) :=
  ⟨fun σ Hi H en Q h => by
    obtain ⟨p, vs, h1, h2, r⟩ := en.muL hL
    refine PE.wp (pe_ix ix_list (pe_var hN hv hd hcd) pe_wp hs) ⟨_, h1, hj.go σ Hi H en _ (h.bind.imp fun k Hi1 H1 n1 q w rw => ?_)⟩
    obtain ⟨a, e0, q⟩ := PX.ofO1 q
    obtain ⟨u, e1, ru⟩ := (r.mono n1.im).atI e0
    exact ⟨p, vs, k, u, rfl, rw, SqL.of (n1.al _ _ h2), e1, q.here n1.sub _ ru⟩⟩

/-! ### walks -/
variable {tg : Expr}
theorem ji_list [Py α] {m : M (List α)} (h : JE X K b L E e m) (hK : X.K = K := by rfl) : JI X K b L E tg e m := by
  subst hK
  refine .of ⟨_, pi_list pe_wp, fun σ Hi H en R hq => h.go σ Hi H en _ (hq.imp fun xs Hi1 H1 n1 q v rv => ?_)⟩
  obtain ⟨p, vs, rfl, g1, g2⟩ := rv
  refine ⟨p, rfl, ⟨vs, Same.seq n1.sub g1⟩, q _ ⟨fun i y Hi2 H2 s1 s2 hy => ?_, fun i Hi2 H2 s1 s2 hi => ?_⟩⟩
  · obtain ⟨u, e1, r⟩ := g2.at hy
    have g3 := Same.seq (s1.trans s2) g1
    exact ⟨⟨vs, u, g3, e1⟩, fun x H' ⟨e2, e3⟩ => by
      subst e2
      have := e3 vs g3
      rw [e1] at this
      cases this
      exact ⟨Hi2, Nx.refl s2, Py.mono s1 r⟩⟩
  · exact ⟨vs, Same.seq (s1.trans s2) g1, by rw [← g2.length]; exact hi⟩
theorem ji_tup [Py α] {m : M (Tup α)} (h : JE X K b L E e m) (hK : X.K = K := by rfl) : JI X K b L E (α := α) tg e m := by
  subst hK
  refine .of ⟨_, pi_tup pe_wp, fun σ Hi H en R hq => h.go σ Hi H en _ (PX.imp hq fun xs Hi1 H1 n1 q v rv => ?_)⟩
  obtain ⟨p, vs, rfl, g1, g2⟩ := rv
  refine ⟨p, rfl, ⟨vs, sqt_mono n1.sub g1⟩, q _ ⟨fun i y Hi2 H2 s1 s2 hy => ?_, fun i Hi2 H2 s1 s2 hi => ?_⟩⟩
  · obtain ⟨u, e1, r⟩ := g2.at hy
    have g3 := sqt_mono (s1.trans s2) g1
    exact ⟨⟨vs, u, g3, e1⟩, fun x H' ⟨e2, e3⟩ => by
      subst e2
      have := e3 vs g3
      rw [e1] at this
      cases this
      exact ⟨Hi2, Nx.refl s2, Py.mono s1 r⟩⟩
  · exact ⟨vs, sqt_mono (s1.trans s2) g1, by rw [← g2.length]; exact hi⟩
def signs (x : Tx) : List Tx := x.map fun c => [c]
theorem ji_str {m : M Tx} (h : JE X K b L E e m) : JI X K b L E tg e (m >>= fun x => pure (signs x)) := by
  refine .of ⟨_, pi_str pe_wp, fun σ Hi H en R hq => h.go σ Hi H en _ (hq.bind.imp fun x Hi1 H1 n1 q v rv => ⟨S x, rv, (q.here n1.sub) _ ⟨fun i y Hi2 H2 s1 s2 hy => ?_, fun i Hi2 H2 s1 s2 hi => ?_⟩⟩)⟩
  · unfold signs at hy
    rw [List.getElem?_map] at hy
    cases z : x[i]? with
    | none => rw [z] at hy; cases hy
    | some c =>
      rw [z] at hy
      cases hy
      have hl : i < x.length := (List.getElem?_eq_some_iff.mp z).1
      have hz : (S x).cps[i]? = some c := by
        show x.toArray[i]? = some c
        rw [List.getElem?_toArray]; exact z
      refine ⟨by show i < x.toArray.size; rw [List.size_toArray]; exact hl, fun v' H' ⟨e1, c', e2, e3⟩ => ?_⟩
      subst e1
      rw [hz] at e2
      cases e2
      exact ⟨Hi2, Nx.refl s2, e3⟩
  · show x.toArray.size ≤ i
    unfold signs at hi
    rw [List.length_map] at hi
    rw [List.size_toArray]; exact hi
def rangeL (lo : Int) (n : Nat) : List Int := (List.range n).map fun i : Nat => lo + (i : Int)
theorem itr_ok {lo : Int} {n : Nat} {Hi0 : Hp} : ItOk K (Itr lo n) Hi0 (rangeL lo n) := by
  refine ⟨fun i y Hi2 H2 s1 s2 hy => ?_, fun i Hi2 H2 s1 s2 hi => ?_⟩
  · unfold rangeL at hy
    rw [List.getElem?_map] at hy
    by_cases hl : i < n
    · rw [List.getElem?_range hl] at hy
      cases hy
      exact ⟨hl, fun v H' ⟨e1, e2⟩ => by subst e1; exact ⟨Hi2, Nx.refl s2, e2⟩⟩
    · rw [List.getElem?_eq_none (by rw [List.length_range]; omega)] at hy
      cases hy
  · unfold rangeL at hi
    rw [List.length_map, List.length_range] at hi
    exact hi
def range1 (n : Int) : M (List Int) := chk (-(2 ^ 62) ≤ n ∧ n < 2 ^ 62) >>= fun _ => pure (rangeL 0 n.toNat)
def range2 (lo n : Int) : M (List Int) := chk (-(2 ^ 62) ≤ lo ∧ lo < 2 ^ 62 ∧ -(2 ^ 62) ≤ n ∧ n < 2 ^ 62) >>= fun _ => pure (rangeL lo (n - lo).toNat)
theorem ji_range1 {m : M Int} {p : Pos} (hm : mg "range" = none) (h : JE X K b L E e m) (hM : X.mg = mg := by rfl) (hg : Gl X "range" := by rfl) (hs : starEach [e] X.env = [(false, eval e X.env)] := by rfl) (he : starEach [e] X.env = (false, eval e X.env) :: starEach [] X.env := by rfl) :
    JI X K b L E tg (.Call (.Name "range" p) [e] [] pos) (m >>= fun n => range1 n) := by
  refine .of ⟨_, pi_range1 hg (by rw [hM]; exact hm) (pa_cons pe_wp pa_nil he) hs, fun σ Hi H en R hq => h.go σ Hi H en _ (hq.bind.imp fun n Hi1 H1 n1 q v rv => ?_)⟩
  obtain ⟨c, q⟩ := PX.chk q
  subst rv
  exact ⟨n, rfl, c.1, c.2, q.here n1.sub _ itr_ok⟩
theorem ji_range2 {m m2 : M Int} {p : Pos} (hm : mg "range" = none) (h : JE X K b L E e m) (h2 : JE X K b L E e1 m2) (hM : X.mg = mg := by rfl) (hg : Gl X "range" := by rfl) (hs : starEach [e, e1] X.env = [(false, eval e X.env), (false, eval e1 X.env)] := by rfl) (hs2 : starEach [e1] X.env = [(false, eval e1 X.env)] := by rfl)
    (he : starEach [e, e1] X.env = (false, eval e X.env) :: starEach [e1] X.env := by rfl) (he2 : starEach [e1] X.env = (false, eval e1 X.env) :: starEach [] X.env := by rfl) :
    JI X K b L E tg (.Call (.Name "range" p) [e, e1] [] pos) (m >>= fun lo => m2 >>= fun n => range2 lo n) := by
  refine .of ⟨_, pi_range2 hg (by rw [hM]; exact hm) (pa_cons pe_wp (pa_cons pe_wp pa_nil he2) he) hs hs2, fun σ Hi H en R hq => h.go σ Hi H en _ (hq.bind.imp fun lo Hi1 H1 n1 q v rv => h2.go σ Hi1 H1 (en.nx n1) _ (q.bind.imp fun n Hi2 H2 n2 q2 w rw => ?_))⟩
  obtain ⟨c, q2⟩ := PX.chk q2
  subst rv; subst rw
  exact ⟨lo, n, rfl, ⟨c.1, c.2.1, c.2.2.1, c.2.2.2⟩, q2.here n2.sub _ itr_ok⟩

/-! targets: sl the slots that they store -/
theorem wipe_idem {σ : L2.St} : ∀ vs : List Nat, wipe (wipe σ vs) vs = wipe σ vs := by
  have key : ∀ (vs us : List Nat), (∀ v ∈ vs, v ∈ us) → wipe (wipe σ us) vs = wipe σ us := by
    intro vs
    induction vs with
    | nil => intro us _; rfl
    | cons v vs ih =>
      intro us hu
      show (wipe (wipe σ us) vs).set v none = wipe σ us
      rw [ih us fun x hx => hu x (List.mem_cons_of_mem _ hx)]
      have hv := hu v (List.mem_cons_self ..)
      have : ∀ us : List Nat, v ∈ us → (wipe σ us).set v none = wipe σ us := by
        intro us
        induction us with
        | nil => intro h; cases h
        | cons u us ih2 =>
          intro h
          show ((wipe σ us).set u none).set v none = (wipe σ us).set u none
          by_cases e : u = v
          · subst e; rw [List.set_set]
          · rw [List.set_comm _ _ e]
            rcases List.mem_cons.mp h with z | z
            · exact absurd z.symm e
            · rw [ih2 z]
      exact this us hv
  exact fun vs => key vs vs fun _ h => h
end
end G

set_option Elab.async false
set_option linter.all false
set_option maxRecDepth 100000
set_option maxHeartbeats 2000000
namespace G
open PySem L2 TL

/-! ### comprehensions -/
def mapE {α β : Type} (f : α → M β) : List α → M (List β)
  | [] => pure []
  | x :: xs => f x >>= fun y => mapE f xs >>= fun ys => pure (y :: ys)
def filE {α β : Type} (t : α → M Bool) (f : α → M β) : List α → M (List β)
  | [] => pure []
  | x :: xs => t x >>= fun c => if c = true then f x >>= fun y => filE t f xs >>= fun ys => pure (y :: ys) else filE t f xs
theorem mapE_fil {α β : Type} (f : α → M β) : ∀ xs : List α, mapE f xs = filE (fun _ => pure true) f xs
  | [] => rfl
  | x :: xs => by
    show (f x >>= fun y => mapE f xs >>= fun ys => pure (y :: ys)) = (f x >>= fun y => filE (fun _ => pure true) f xs >>= fun ys => pure (y :: ys))
    rw [mapE_fil f xs]
/-- [f x for x in xs], [f x for x in xs if t x]: no raise is let out -/
def lc {α β : Type} (f : α → M β) (xs : List α) : M (List β) := chk (xs.length ≤ SZ) >>= fun _ => nr (mapE f xs)
def lf {α β : Type} (t : α → M Bool) (f : α → M β) (xs : List α) : M (List β) := chk (xs.length ≤ SZ) >>= fun _ => nr (filE t f xs)
def wipeL (L : List En) : List Nat → List En
  | [] => L
  | v :: vs => (wipeL L vs).set v .no
section
variable {b : Bs} {L : List En} {σ : L2.St} {Hi H : Hp}
theorem EnvOk.wipe (e : EnvOk b L σ Hi H) : ∀ vs : List Nat, EnvOk b (wipeL L vs) (L2.wipe σ vs) Hi H
  | [] => e
  | v :: vs => (e.wipe vs).unset
end
theorem same_ne {A B : Hp} (s : Same A B) {D : Addr} {o : HO} (h : A D = none) : Same A (upd B D o) := fun a u e => by
  rw [upd_ne (ne_of_none e h)]
  exact s a u e

section
variable {X : Cx} {K : Fg} {b : Bs} {L : List En} {E : XK} {α β : Type} [Py α] [Py β]
theorem lc_core {mi : M (List α)} {t : α → M Bool} {f : α → M β} {u : α → List En → List En} {wi : TI} {g : TG} {tt : TT} {te : TE} {sl : List Nat}
    (hi : ∀ σ Hi H, EnvOk b L σ Hi H → ∀ R : It → Hp → Prop, PX K E mi Hi H (fun xs Hi' H' => ∀ J, ItOk K J Hi' xs → R J H') → wi σ H R)
    (hg : ∀ (L : List En) (σ : L2.St) (Hi H : Hp) (y : α) (x : V) (Q : L2.St → Hp → Prop), EnvOk b L σ Hi H → Py.rep K Hi y x → (∀ σ', EnvOk b (u y L) σ' Hi H → wipe σ' sl = wipe σ sl → Q σ' H) → g x σ H Q)
    (ht : ∀ (x : α) σ Hi H, EnvOk b (u x (wipeL L sl)) σ Hi H → ∀ Q : Bool → Hp → Prop, PX K E0 (t x) Hi H (fun a _ H' => Q a H') → tt σ H Q)
    (he : ∀ (x : α) σ Hi H, EnvOk b (u x (wipeL L sl)) σ Hi H → ∀ Q : VK, PV K E0 (f x) Hi H Q → te σ H Q) :
    ∀ σ Hi H, EnvOk b L σ Hi H → ∀ Q : VK, PF K E (ctL K) (mi >>= fun xs => lf t f xs) Hi H Q → tLc wi g tt te sl σ H Q := by
  intro σ Hi H en Q h
  refine hi σ Hi H en _ (h.bind.imp fun xs Hi1 H1 n1 q J it D hD => ?_)
  obtain ⟨hsz, q⟩ := PX.chk q
  cases hys : filE t f xs with
  | error z => rw [hys] at q; exact q.elim
  | ok ys =>
    rw [hys] at q
    have en1 := en.nx n1
    have nD : H D = none := by
      cases z : H D with
      | none => rfl
      | some u => rw [n1.al D u z] at hD; cases hD
    refine ⟨fun i m H2 => m = xs.length - i ∧ i ≤ xs.length ∧ ∃ (Hi2 : Hp) (acc : List V) (pr r : List β), Nx Hi1 H1 Hi2 H2 ∧ H2 D = some (.lst acc) ∧ Hi2 D = none ∧ filE t f (xs.drop i) = .ok r ∧ ys = pr ++ r ∧ Rl K Hi2 pr acc ∧ pr.length ≤ i,
      ⟨_, rfl, Nat.zero_le _, Hi1, [], [], ys, Nx.temp n1.sub hD, upd_same, hi_none n1.sub hD, by rw [List.drop_zero]; exact hys, rfl, .nil, Nat.le_refl _⟩, ?_⟩
    rintro i m H2 ⟨rfl, hil, Hi2, acc, pr, r, n2, hacc, hD2, hr, hyr, ra, hpl⟩
    by_cases hlt : i < xs.length
    · refine .inr ?_
      obtain ⟨y, hy⟩ : ∃ y, xs[i]? = some y := ⟨xs[i], List.getElem?_eq_getElem hlt⟩
      have hdr : xs.drop i = y :: xs.drop (i + 1) := by
        rw [List.drop_eq_getElem_cons hlt]
        congr 1
        exact Option.some.inj ((List.getElem?_eq_getElem hlt).symm.trans hy)
      obtain ⟨go, yl⟩ := it.go i y Hi2 H2 n2.im n2.sub hy
      refine ⟨go, fun H' => (i + 1 ≤ xs.length ∧ ∃ (Hi2 : Hp) (acc : List V) (pr r : List β), Nx Hi1 H1 Hi2 H' ∧ H' D = some (.lst acc) ∧ Hi2 D = none ∧ filE t f (xs.drop (i + 1)) = .ok r ∧ ys = pr ++ r ∧ Rl K Hi2 pr acc ∧ pr.length ≤ i + 1),
        fun H' w => ⟨xs.length - (i + 1), by omega, rfl, w⟩, fun x H3 hx => ?_⟩
      obtain ⟨Hi3, n3, rx⟩ := yl x H3 hx
      have en3 : EnvOk b (wipeL L sl) (wipe σ sl) Hi3 H3 := ((en1.nx n2).nx n3).wipe sl
      have hD3 : Hi3 D = none := n3.cap D (by rw [hacc]; exact fun z => nomatch z) hD2
      refine hg _ _ Hi3 H3 y x _ en3 rx fun σ2 en4 hw => ⟨by rw [hw, wipe_idem], ?_⟩
      rw [hdr] at hr
      have hr' : (t y >>= fun c => if c = true then f y >>= fun z => filE t f (xs.drop (i + 1)) >>= fun zs => pure (z :: zs) else filE t f (xs.drop (i + 1))) = .ok r := hr
      cases hty : t y with
      | error z => rw [hty] at hr'; cases hr'
      | ok c =>
        rw [hty] at hr'
        have hr2 : (if c = true then f y >>= fun z => filE t f (xs.drop (i + 1)) >>= fun zs => pure (z :: zs) else filE t f (xs.drop (i + 1))) = .ok r := hr'
        refine ht y σ2 Hi3 H3 en4 _ ?_
        rw [hty]
        intro Hi4 H4 n4
        have hD4 : Hi4 D = none := n4.cap D (by rw [n3.al _ _ hacc]; exact fun z => nomatch z) hD3
        cases c with
        | false =>
          rw [if_neg Bool.false_ne_true] at hr2
          show (if false = true then _ else _)
          rw [if_neg Bool.false_ne_true]
          exact ⟨hlt, Hi4, acc, pr, r, (n2.trans n3).trans n4, n4.al _ _ (n3.al _ _ hacc), hD4, hr2, hyr, ra.mono (n3.im.trans n4.im), Nat.le_succ_of_le hpl⟩
        | true =>
          rw [if_pos rfl] at hr2
          show (if true = true then _ else _)
          rw [if_pos rfl]
          refine he y σ2 Hi4 H4 (en4.nx n4) _ ?_
          cases hfy : f y with
          | error z => rw [hfy] at hr2; cases hr2
          | ok z =>
            rw [hfy] at hr2
            cases hzs : filE t f (xs.drop (i + 1)) with
            | error z2 => rw [hzs] at hr2; cases hr2
            | ok zs =>
              rw [hzs] at hr2
              have er : z :: zs = r := by cases hr2; rfl
              intro Hi5 H5 n5 v rv
              have hD5 : Hi5 D = none := n5.cap D (by rw [n4.al _ _ (n3.al _ _ hacc)]; exact fun z => nomatch z) hD4
              have n15 : Nx Hi1 H1 Hi5 H5 := ((n2.trans n3).trans n4).trans n5
              refine ⟨acc, n5.al _ _ (n4.al _ _ (n3.al _ _ hacc)), ?_, hlt, Hi5, acc ++ [v], pr ++ [z], zs, ⟨n15.im, same_ne n15.al hD, same_ne n15.sub hD5, n15.cap⟩, upd_same, hD5, rfl, ?_, (ra.mono ((n3.im.trans n4.im).trans n5.im)).app (.cons rv .nil), ?_⟩
              · have := ra.length
                exact Nat.lt_of_lt_of_le (by omega) hsz
              · rw [hyr, ← er, List.append_assoc]; rfl
              · rw [List.length_append]; exact Nat.succ_le_succ hpl
    · have e : i = xs.length := by omega
      subst e
      refine .inl ⟨it.stop _ Hi2 H2 n2.im n2.sub (Nat.le_refl _), ?_⟩
      rw [List.drop_eq_nil_of_le (Nat.le_refl _)] at hr
      have er : ([] : List β) = r := by cases hr; rfl
      rw [← er, List.append_nil] at hyr
      subst hyr
      exact (PX.go (a := ys) q n2) D _ hacc nD hD2 ⟨acc, rfl, ra⟩
theorem lf_lc {f : α → M β} (xs : List α) : lf (fun _ => pure true) f xs = lc f xs := by
  unfold lf lc
  rw [mapE_fil]
theorem je_jf {e : Expr} {m : M (List α)} (h : JF X K b L E e (ctL K) m) : JE X K b L E e m :=
  ⟨fun σ Hi H en Q hq => h.go σ Hi H en Q (by
    cases m with
    | error z => cases z with
      | rs c => exact hq
      | st => exact hq
    | ok xs =>
      intro Hi' H' x p o h1 h2 h3 h4
      obtain ⟨vs, rfl, r⟩ := h4
      have sm : Same Hi' (upd Hi' p (.lst vs)) := same_new h3
      have x2 : Nx Hi H (upd Hi' p (.lst vs)) H' := ⟨x.im.trans sm, x.al, fun a u e => by
        by_cases ha : a = p
        · subst ha; rw [upd_same] at e; cases e; exact h1
        · rw [upd_ne ha] at e; exact x.sub a u e, fun a ha hn => by
        rw [upd_ne (fun z => ha (by rw [z]; exact h2))]
        exact x.cap a ha hn⟩
      exact (show ∀ Hi' H', Nx Hi H Hi' H' → ∀ v, Py.rep K Hi' xs v → Q v H' from hq) _ _ x2 _ ⟨p, vs, rfl, .of upd_same, r.mono sm⟩)⟩
abbrev Bk : Type := Shared × Hp × Addr × List (Str × Addr) × List Addr
abbrev blkX (X : Cx) (scope : Scope) (p : Bk) : Cx := X.blk p.1 p.2.1 scope (compEnvC scope p.2.2.2.1 p.2.2.1 X.env) p.2.2.2.2
variable {tg iter elt c : Expr} {scope : Scope} {pos pos' py spos : Pos} {own : List (Str × Nat)} {u : α → List En → List En} {mi : M (List α)} {t : α → M Bool} {f : α → M β}
theorem jf_lf (hi : JI X K b L E tg iter mi) (hg : JG (blkX X scope) K tg (own.map (·.2)) u) (ht : ∀ (p : Bk) (x : α), JT (blkX X scope p) K b (u x (wipeL L (own.map (·.2)))) E0 c (t x)) (he : ∀ (p : Bk) (x : α), JE (blkX X scope p) K b (u x (wipeL L (own.map (·.2)))) E0 elt (f x))
    (hN : X.N.Nodup) (ok : BlkOk X.N X.env.scope scope own) (hc : X.calm = true := by rfl) (hs : ∀ x, foldedSetIterable iter X.env x = pure x := by intro _; rfl) : JF X K b L E (.ListComp elt [⟨tg, iter, [c], 0⟩] scope pos) (ctL K) (mi >>= fun xs => lf t f xs) := by
  obtain ⟨g, dg, pg⟩ := hg.ex
  refine ⟨fun σ Hi H en Q hq => PE.wp (pe_lc (tt := fun σ H Q => ∀ p : Bk, wpT (blkX X scope p) c σ H Q) (te := fun σ H Q => ∀ p : Bk, wpE (blkX X scope p) elt σ H Q) hc hN pi_wp ok (fun s H C cl fp => dg (s, H, C, cl, fp)) (fun s H C cl fp => pts_one ⟨fun pins s' σ' H' Q' I h => h (s, H, C, cl, fp) pins s' I⟩)
    (fun s H C cl fp => ⟨fun pins s' σ' H' Q' I h => h (s, H, C, cl, fp) pins s' I⟩) hs) (lc_core (u := u) hi.go (fun L => pg b L) (fun x σ Hi H en Q h p => (ht p x).go σ Hi H en Q h) (fun x σ Hi H en Q h p => (he p x).go σ Hi H en Q h) σ Hi H en Q hq)⟩
theorem jf_lc (hi : JI X K b L E tg iter mi) (hg : JG (blkX X scope) K tg (own.map (·.2)) u) (he : ∀ (p : Bk) (x : α), JE (blkX X scope p) K b (u x (wipeL L (own.map (·.2)))) E0 elt (f x))
    (hN : X.N.Nodup) (ok : BlkOk X.N X.env.scope scope own) (hc : X.calm = true := by rfl) (hs : ∀ x, foldedSetIterable iter X.env x = pure x := by intro _; rfl) : JF X K b L E (.ListComp elt [⟨tg, iter, [], 0⟩] scope pos) (ctL K) (mi >>= fun xs => lc f xs) := by
  obtain ⟨g, dg, pg⟩ := hg.ex
  refine ⟨fun σ Hi H en Q hq => PE.wp (pe_lc (tt := tYes) (te := fun σ H Q => ∀ p : Bk, wpE (blkX X scope p) elt σ H Q) hc hN pi_wp ok (fun s H C cl fp => dg (s, H, C, cl, fp)) (fun _ _ _ _ _ => pts_nil)
    (fun s H C cl fp => ⟨fun pins s' σ' H' Q' I h => h (s, H, C, cl, fp) pins s' I⟩) hs) (lc_core (u := u) (t := fun _ => pure true) hi.go (fun L => pg b L) (fun x σ Hi H en Q h => h.here en.sub) (fun x σ Hi H en Q h p => (he p x).go σ Hi H en Q h) σ Hi H en Q ?_)⟩
  have e : (fun xs => lf (fun _ => pure true) f xs) = fun xs => lc f xs := funext lf_lc
  rw [e]
  exact hq
/-! x = [..] where the store is made within -/
theorem j1_setLc0 {m : M (List β)} {te : TE} {mk : TE → Prop} (i : Nat) {y : Str} (d : PS X (.Assign [.Name y py] elt spos) (tAsg te (gName i))) (h : ∀ σ Hi H, EnvOk b L σ Hi H → ∀ Q : VK, PF K E (ctL K) m Hi H Q → te σ H Q) : J1 X K b L E (.Assign [.Name y py] elt spos) m (fun a => L.set i (.mu (ctL K a))) :=
  ⟨fun σ Hi H en D hz => PS.wp d (h σ Hi H en _ ((PZ.px en hz).imp fun a Hi' H' x q p o h1 h2 h3 h4 => q _ Hi' H' (en.setFresh x h1 h2 h3 h4)))⟩
theorem j1_setLf (i : Nat) {y : Str} (hi : JI X K b L E tg iter mi) (hg : JG (blkX X scope) K tg (own.map (·.2)) u) (ht : ∀ (p : Bk) (x : α), JT (blkX X scope p) K b (u x (wipeL L (own.map (·.2)))) E0 c (t x)) (he : ∀ (p : Bk) (x : α), JE (blkX X scope p) K b (u x (wipeL L (own.map (·.2)))) E0 elt (f x))
    (hN : X.N.Nodup) (ok : BlkOk X.N X.env.scope scope own) (hy : X.N[i]? = some y := by rfl) (hyl : X.env.scope.names.lookup y = some .local := by rfl) (hc : X.calm = true := by rfl) (hs : ∀ x, foldedSetIterable iter X.env x = pure x := by intro _; rfl)
    (hsw : swapsWith (.ListComp elt [⟨tg, iter, [c], 0⟩] scope pos) (some (.Name y py)) spos.line X.env = pure true := by exact sw_true rfl rfl rfl (by decide +kernel)) :
    J1 X K b L E (.Assign [.Name y py] (.ListComp elt [⟨tg, iter, [c], 0⟩] scope pos) spos) (mi >>= fun xs => lf t f xs) (fun a => L.set i (.mu (ctL K a))) := by
  obtain ⟨g, dg, pg⟩ := hg.ex
  exact j1_setLc0 (mk := fun _ => True) i (ps_setLc (tt := fun σ H Q => ∀ p : Bk, wpT (blkX X scope p) c σ H Q) (te := fun σ H Q => ∀ p : Bk, wpE (blkX X scope p) elt σ H Q) hc hN hy hyl hsw pi_wp ok (fun s H C cl fp => dg (s, H, C, cl, fp)) (fun s H C cl fp => pts_one ⟨fun pins s' σ' H' Q' I h => h (s, H, C, cl, fp) pins s' I⟩)
    (fun s H C cl fp => ⟨fun pins s' σ' H' Q' I h => h (s, H, C, cl, fp) pins s' I⟩) hs) (lc_core (u := u) hi.go (fun L => pg b L) (fun x σ Hi H en Q h p => (ht p x).go σ Hi H en Q h) (fun x σ Hi H en Q h p => (he p x).go σ Hi H en Q h))
theorem j1_setLc (i : Nat) {y : Str} (hi : JI X K b L E tg iter mi) (hg : JG (blkX X scope) K tg (own.map (·.2)) u) (he : ∀ (p : Bk) (x : α), JE (blkX X scope p) K b (u x (wipeL L (own.map (·.2)))) E0 elt (f x))
    (hN : X.N.Nodup) (ok : BlkOk X.N X.env.scope scope own) (hy : X.N[i]? = some y := by rfl) (hyl : X.env.scope.names.lookup y = some .local := by rfl) (hc : X.calm = true := by rfl) (hs : ∀ x, foldedSetIterable iter X.env x = pure x := by intro _; rfl)
    (hsw : swapsWith (.ListComp elt [⟨tg, iter, [], 0⟩] scope pos) (some (.Name y py)) spos.line X.env = pure true := by exact sw_true rfl rfl rfl (by decide +kernel)) :
    J1 X K b L E (.Assign [.Name y py] (.ListComp elt [⟨tg, iter, [], 0⟩] scope pos) spos) (mi >>= fun xs => lc f xs) (fun a => L.set i (.mu (ctL K a))) := by
  obtain ⟨g, dg, pg⟩ := hg.ex
  refine j1_setLc0 (mk := fun _ => True) i (ps_setLc (tt := tYes) (te := fun σ H Q => ∀ p : Bk, wpE (blkX X scope p) elt σ H Q) hc hN hy hyl hsw pi_wp ok (fun s H C cl fp => dg (s, H, C, cl, fp)) (fun _ _ _ _ _ => pts_nil)
    (fun s H C cl fp => ⟨fun pins s' σ' H' Q' I h => h (s, H, C, cl, fp) pins s' I⟩) hs) (fun σ Hi H en Q hq => lc_core (u := u) (t := fun _ => pure true) hi.go (fun L => pg b L) (fun x σ Hi H en Q h => h.here en.sub) (fun x σ Hi H en Q h p => (he p x).go σ Hi H en Q h) σ Hi H en Q ?_)
  have e : (fun xs => lf (fun _ => pure true) f xs) = fun xs => lc f xs := funext lf_lc
  rw [e]
  exact hq
end
/-! targets -/
theorem jg_name {ι : Type} {X : ι → Cx} {K : Fg} {α : Type} [Py α] (i : Nat) {x : Str} {pos : Pos} (hN : ∀ j, (X j).N.Nodup) (hi : ∀ j, (X j).N[i]? = some x := by intro _; rfl) (hx : ∀ j, Loc (X j).env.scope x := by intro _; first | exact Or.inl rfl | exact Or.inr rfl)
    (hf : ∀ j, (X j).fn x = true ∨ (X j).env.scope.names.lookup x = some .local := by intro _; first | exact .inl rfl | exact .inr rfl) : JG X K (.Name x pos) [i] (fun (y : α) L => L.set i (.im (rp K y))) :=
  ⟨⟨gName i, fun j => pg_name (hN j) (hi j) (hx j) (hf j), fun b L σ Hi H y v Q en r k => k _ (en.set (p := rp K y) r) (by show (σ.set i (some v)).set i none = σ.set i none; rw [List.set_set])⟩⟩
theorem jg_pair {ι : Type} {X : ι → Cx} {K : Fg} {α β : Type} [Py α] [Py β] (i j : Nat) {x y : Str} {pos px py : Pos} {kx : Nat} (hN : ∀ k, (X k).N.Nodup) (hi : ∀ k, (X k).N[i]? = some x := by intro _; rfl) (hj : ∀ k, (X k).N[j]? = some y := by intro _; rfl)
    (hx : ∀ j, Loc (X j).env.scope x := by intro _; first | exact Or.inl rfl | exact Or.inr rfl) (hy : ∀ j, Loc (X j).env.scope y := by intro _; first | exact Or.inl rfl | exact Or.inr rfl)
    (hf : ∀ j, (X j).fn x = true ∨ (X j).env.scope.names.lookup x = some .local := by intro _; first | exact .inl rfl | exact .inr rfl) (hf2 : ∀ j, (X j).fn y = true ∨ (X j).env.scope.names.lookup y = some .local := by intro _; first | exact .inl rfl | exact .inr rfl)
    (hc : ∀ j, (X j).calm = true := by intro _; rfl) (hK : ∀ j, (X j).K = K := by intro _; rfl) : JG X K (.Tuple [.Name x px, .Name y py] kx pos) [i, j] (fun (p : α × β) L => (L.set i (.im (rp K p.1))).set j (.im (rp K p.2))) :=
  ⟨⟨gTup K 2 (gCons (gName i) (gCons (gName j) gNil)), fun k => by
    have := pg_tup (k := kx) (pos := pos) (n := 2) (hc k) (pgs_cons (pg_name (pos := px) (hN k) (hi k) (hx k) (hf k)) (pgs_cons (pg_name (pos := py) (hN k) (hj k) (hy k) (hf2 k)) pgs_nil))
    rw [hK k] at this
    exact this, fun b L σ Hi H p v Q en r k => by
    obtain ⟨q, v1, v2, rfl, g1, g2, g3⟩ := r
    refine ⟨q, [v1, v2], rfl, sqt_mono en.sub g1, rfl, v1, [v2], rfl, v2, [], rfl, rfl, k _ ((en.set (p := rp K p.1) g2).set (p := rp K p.2) g3) ?_⟩
    show ((((σ.set i (some v1)).set j (some v2)).set j none).set i none) = (σ.set j none).set i none
    rw [List.set_set]
    by_cases e : i = j
    · subst e; simp [List.set_set]
    · rw [List.set_comm _ _ e, List.set_set, List.set_comm _ _ (Ne.symm e)]⟩⟩

/-! ### loops -/
def forT {α S R : Type} (f : S → α → M (Tl S R)) (s : S) : List α → M (S ⊕ R)
  | [] => pure (.inl s)
  | x :: xs => f s x >>= fun t => match t with
    | .ct s' => forT f s' xs
    | .bk s' => pure (.inl s')
    | .rt r => pure (.inr r)
/-- a loop that only goes on, a loop without a return -/
def forP {α S : Type} (f : S → α → M S) (s : S) : List α → M S
  | [] => pure s
  | x :: xs => f s x >>= fun s' => forP f s' xs
inductive No
instance : Py No := ⟨fun _ _ e _ => (nomatch e), by intro K H H' a v; exact nomatch a⟩
def forB {α S : Type} (f : S → α → M (Tl S No)) (s : S) : List α → M S
  | [] => pure s
  | x :: xs => f s x >>= fun t => match t with
    | .ct s' => forB f s' xs
    | .bk s' => pure s'
/-- behind a loop that may return -/
def thenT {S R β : Type} (mr : S → M β) (wr : R → β) : S ⊕ R → M β
  | .inl s => mr s
  | .inr r => pure (wr r)
def whT {S R : Type} (c : S → M Bool) (f : S → M (Tl S R)) : Nat → S → M (S ⊕ R)
  | 0, _ => stuck
  | n + 1, s => c s >>= fun t => if t = true then f s >>= fun t => (match t with
    | .ct s' => whT c f n s'
    | .bk s' => pure (.inl s')
    | .rt r => pure (.inr r)) else pure (.inl s)
def whP {S : Type} (c : S → M Bool) (f : S → M S) : Nat → S → M S
  | 0, _ => stuck
  | n + 1, s => c s >>= fun t => if t = true then f s >>= fun s' => whP c f n s' else pure s
def whB {S : Type} (c : S → M Bool) (f : S → M (Tl S No)) : Nat → S → M S
  | 0, _ => stuck
  | n + 1, s => c s >>= fun t => if t = true then f s >>= fun t => (match t with
    | .ct s' => whB c f n s'
    | .bk s' => pure s') else pure s
def outT {S R : Type} (f : S → R) : S ⊕ No → R
  | .inl s => f s
theorem bcong {α β : Type} {m : M α} {f g : α → M β} (h : ∀ a, f a = g a) : (m >>= f) = (m >>= g) := by rw [funext h]
theorem forP_T {α S R : Type} (f : S → α → M S) : ∀ (xs : List α) (s : S), forT (R := R) (fun s x => f s x >>= fun s' => pure (.ct s')) s xs = (forP f s xs >>= fun s => pure (.inl s))
  | [], s => rfl
  | x :: xs, s => by
    show ((f s x >>= fun s' => pure (Tl.ct s')) >>= _) = ((f s x >>= fun s' => forP f s' xs) >>= _)
    rw [bind_assoc, bind_assoc]
    refine bcong fun s' => ?_
    exact forP_T f xs s'
theorem forB_T {α S R : Type} (f : S → α → M (Tl S No)) : ∀ (xs : List α) (s : S), (forT f s xs >>= fun z => pure (outT id z)) = forB f s xs
  | [], s => rfl
  | x :: xs, s => by
    show ((f s x >>= _) >>= _) = (f s x >>= _)
    rw [bind_assoc]
    refine bcong fun t => ?_
    cases t with
    | ct s' => exact forB_T (R := R) f xs s'
    | bk s' => rfl
    | rt r => exact nomatch r
theorem whP_T {S R : Type} (c : S → M Bool) (f : S → M S) : ∀ (n : Nat) (s : S), whT (R := R) c (fun s => f s >>= fun s' => pure (.ct s')) n s = (whP c f n s >>= fun s => pure (.inl s))
  | 0, s => rfl
  | n + 1, s => by
    unfold whT whP
    refine Eq.trans (bcong fun t => ?_) (bind_assoc _ _ _).symm
    cases t with
    | false => rfl
    | true =>
      rw [if_pos rfl, if_pos rfl, bind_assoc, bind_assoc]
      refine bcong fun s' => ?_
      exact whP_T c f n s'
theorem whB_T {S : Type} (c : S → M Bool) (f : S → M (Tl S No)) : ∀ (n : Nat) (s : S), (whT c f n s >>= fun z => pure (outT id z)) = whB c f n s
  | 0, s => rfl
  | n + 1, s => by
    show ((c s >>= _) >>= _) = (c s >>= _)
    rw [bind_assoc]
    refine bcong fun t => ?_
    cases t with
    | false => rfl
    | true =>
      show ((f s >>= _) >>= _) = (f s >>= _)
      rw [bind_assoc]
      refine bcong fun t => ?_
      cases t with
      | ct s' => exact whB_T c f n s'
      | bk s' => rfl
      | rt r => exact nomatch r

section
variable {X : Cx} {K : Fg} {b : Bs} {L : List En} {E : XK} {α S R : Type} [Py α] [Rt R]
theorem PZ.up {β : Type} {m : M β} {F H0 : Hp} {post : β → Prop} (o : Ok b F H0) (h : PZ K E b m post) : PZ K E (b.fl F) m post := by
  cases m with
  | ok a => exact h
  | error z => cases z with
    | rs c => exact fun Hi H o' => h Hi H (o.down o')
    | st => exact h
/-- what a loop's end is -/
def pEnd (K : Fg) (b : Bs) (Lf : S → List En) (z : S ⊕ R) (D : Ends) : Prop := match z with
  | .inl s => pNx b Lf s D
  | .inr r => pRt K b r D
theorem tl_up {Lf : S → List En} {F H0 : Hp} {t : Tl S R} {D : Ends} (o : Ok b F H0) (h : pTl K b Lf t D) : pTl K (b.fl F) Lf t D := by
  cases t with
  | ct s => exact fun σ Hi H en => h σ Hi H (EnvOk.down o en)
  | bk s => exact fun σ Hi H en => h σ Hi H (EnvOk.down o en)
  | rt r => exact fun v Hi H o' rv => h v Hi H (o.down o') rv
theorem for_core {Lf : S → List En} {f : S → α → M (Tl S R)} {xs : List α} {s0 : S} {u : α → List En → List En} {g : TG} {tb : TS} {D : Ends} {J : It} {σ0 : L2.St} {Hi0 H0 : Hp} {sl : List Nat}
    (it : ItOk K J Hi0 xs) (en0 : EnvOk b (Lf s0) σ0 Hi0 H0)
    (hg : ∀ (b : Bs) (L : List En) (σ : L2.St) (Hi H : Hp) (y : α) (x : V) (Q : L2.St → Hp → Prop), EnvOk b L σ Hi H → Py.rep K Hi y x → (∀ σ', EnvOk b (u y L) σ' Hi H → wipe σ' sl = wipe σ sl → Q σ' H) → g x σ H Q)
    (hb : ∀ (F : Hp) (s : S) (x : α) σ Hi H, EnvOk (b.fl F) (u x (Lf s)) σ Hi H → ∀ D : Ends, D.nx = D.ct → PZ K E (b.fl F) (f s x) (fun t => pTl K (b.fl F) Lf t D) → tb D σ H)
    (hz : PZ K E b (forT f s0 xs) (fun z => pEnd K b Lf z D)) :
    ∃ W : Nat → Nat → L2.St → Hp → Prop, (∃ m, W 0 m σ0 H0) ∧ ∀ i m σ H, W i m σ H →
      (J.stop i H ∧ D.nx σ H) ∨ (J.go i H ∧ ∃ N : L2.St → Hp → Prop, (∀ σ' H', N σ' H' → ∃ m', m' < m ∧ W (i + 1) m' σ' H') ∧ ∀ x H', J.yld i H x H' → g x σ H' fun σ2 H2 => tb { D with nx := N, ct := N, bk := D.nx } σ2 H2) := by
  have o0 := en0.ok
  refine ⟨fun i m σ H => ∃ (s : S) (Hi : Hp), m = xs.length - i ∧ i ≤ xs.length ∧ EnvOk (b.fl Hi0) (Lf s) σ Hi H ∧ PZ K E b (forT f s (xs.drop i)) (fun z => pEnd K b Lf z D), ⟨_, s0, Hi0, rfl, Nat.zero_le _, en0.up, hz⟩, ?_⟩
  rintro i m σ H ⟨s, Hi, rfl, hil, en, hq⟩
  have sm0 : Same Hi0 Hi := en.ok.base
  by_cases hlt : i < xs.length
  · refine .inr ?_
    obtain ⟨y, hy⟩ : ∃ y, xs[i]? = some y := ⟨xs[i], List.getElem?_eq_getElem hlt⟩
    have hdr : xs.drop i = y :: xs.drop (i + 1) := by
      rw [List.drop_eq_getElem_cons hlt]
      congr 1
      exact Option.some.inj ((List.getElem?_eq_getElem hlt).symm.trans hy)
    rw [hdr] at hq
    obtain ⟨go, yl⟩ := it.go i y Hi H sm0 en.sub hy
    refine ⟨go, fun σ' H' => ∃ (s : S) (Hi : Hp), i + 1 ≤ xs.length ∧ EnvOk (b.fl Hi0) (Lf s) σ' Hi H' ∧ PZ K E b (forT f s (xs.drop (i + 1))) (fun z => pEnd K b Lf z D), fun σ' H' ⟨s', Hi', w1, w2, w3⟩ => ⟨xs.length - (i + 1), by omega, s', Hi', rfl, w1, w2, w3⟩, fun x H1 hx => ?_⟩
    obtain ⟨Hi1, n1, rx⟩ := yl x H1 hx
    refine hg _ _ _ Hi1 H1 y x _ (en.nx n1) rx fun σ2 en2 _ => ?_
    refine hb Hi0 s y σ2 Hi1 H1 en2 _ rfl (PZ.up o0 ((PZ.bindz hq).imp fun t q => ?_))
    cases t with
    | ct s' => exact fun σ3 Hi3 H3 en3 => ⟨s', Hi3, hlt, en3, q⟩
    | bk s' => exact fun σ3 Hi3 H3 en3 => (show pNx b Lf s' D from q) σ3 Hi3 H3 (EnvOk.down o0 en3)
    | rt r => exact fun v Hi3 H3 o3 rv => (show pRt K b r D from q) v Hi3 H3 (o0.down o3) rv
  · have e : i = xs.length := by omega
    subst e
    refine .inl ⟨it.stop _ Hi H sm0 en.sub (Nat.le_refl _), ?_⟩
    rw [List.drop_eq_nil_of_le (Nat.le_refl _)] at hq
    exact (show pNx b Lf s D from hq) σ Hi H (EnvOk.down o0 en)
variable {tg iter : Expr} {body rest : List Stmt} {pos : Pos} {mi : M (List α)} {u : α → List En → List En} {Lf : S → List En} {s0 : S} {sl : List Nat}
/-- a loop that may return -/
theorem js_forR {β : Type} {post : β → Ends → Prop} {tl : Ends → Prop} {f : S → α → M (Tl S R)} {mr : S → M β} (wr : R → β) (hw : ∀ r D, post (wr r) D → pRt K b r D) (hi : JI X K b L E tg iter mi) (hg : JG (fun _ : Unit => X) K tg sl u) (w : Wk L (Lf s0))
    (hb : ∀ (F : Hp) (s : S) (x : α), JS X K (b.fl F) (u x (Lf s)) E body tlLp (f s x) (pTl K (b.fl F) Lf)) (hr : ∀ s, JS X K b (Lf s) E rest tl (mr s) post) (hp : PassesOwn (model X.prog X.w) X.A X.env X.xe) (hc : X.calm = true := by rfl) (hs : ∀ x, foldedSetIterable iter X.env x = pure x := by intro _; rfl) :
    JS X K b L E (.For tg iter body [] pos :: rest) tl (mi >>= fun xs => forT f s0 xs >>= thenT mr wr) post := by
  obtain ⟨g, dg, pg⟩ := hg.ex
  refine ⟨fun σ Hi H en D ht hz => PSs.wp (pss_cons (ps_for hp hc pi_wp (dg ()) pss_wp hs) pss_wp) ?_⟩
  refine hi.go σ Hi H en _ ((PZ.bind en hz).imp fun xs Hi1 H1 n1 q J it => ?_)
  refine for_core (f := f) (s0 := s0) (Lf := Lf) (u := u) it ((en.nx n1).wk w) pg (fun F s x σ Hi H en D hD hz => (hb F s x).go σ Hi H en D (fun σ H h => by rw [hD]; exact h) hz) (q.bindz.imp fun z hz2 => ?_)
  cases z with
  | inl s => exact fun σ' Hi' H' en' => (hr s).go σ' Hi' H' en' D ht hz2
  | inr r => exact hw r D hz2
theorem j1_forB {f : S → α → M (Tl S No)} (hi : JI X K b L E tg iter mi) (hg : JG (fun _ : Unit => X) K tg sl u) (w : Wk L (Lf s0))
    (hb : ∀ (F : Hp) (s : S) (x : α), JS X K (b.fl F) (u x (Lf s)) E body tlLp (f s x) (pTl K (b.fl F) Lf)) (hp : PassesOwn (model X.prog X.w) X.A X.env X.xe) (hc : X.calm = true := by rfl) (hs : ∀ x, foldedSetIterable iter X.env x = pure x := by intro _; rfl) :
    J1 X K b L E (.For tg iter body [] pos) (mi >>= fun xs => forB f s0 xs) Lf := by
  obtain ⟨g, dg, pg⟩ := hg.ex
  refine ⟨fun σ Hi H en D hz => PS.wp (ps_for hp hc pi_wp (dg ()) pss_wp hs) ?_⟩
  refine hi.go σ Hi H en _ ((PZ.bind en hz).imp fun xs Hi1 H1 n1 q J it => ?_)
  rw [← forB_T (R := No)] at q
  refine for_core (f := f) (s0 := s0) (Lf := Lf) (u := u) it ((en.nx n1).wk w) pg (fun F s x σ Hi H en D hD hz => (hb F s x).go σ Hi H en D (fun σ H h => by rw [hD]; exact h) hz) (q.bindz.imp fun z hz2 => ?_)
  cases z with
  | inl s => exact hz2
  | inr r => exact nomatch r
theorem j1_forP {f : S → α → M S} (hi : JI X K b L E tg iter mi) (hg : JG (fun _ : Unit => X) K tg sl u) (w : Wk L (Lf s0))
    (hb : ∀ (F : Hp) (s : S) (x : α), JS X K (b.fl F) (u x (Lf s)) E body tlAny (f s x) (pNx (b.fl F) Lf)) (hp : PassesOwn (model X.prog X.w) X.A X.env X.xe) (hc : X.calm = true := by rfl) (hs : ∀ x, foldedSetIterable iter X.env x = pure x := by intro _; rfl) :
    J1 X K b L E (.For tg iter body [] pos) (mi >>= fun xs => forP f s0 xs) Lf := by
  obtain ⟨g, dg, pg⟩ := hg.ex
  refine ⟨fun σ Hi H en D hz => PS.wp (ps_for hp hc pi_wp (dg ()) pss_wp hs) ?_⟩
  refine hi.go σ Hi H en _ ((PZ.bind en hz).imp fun xs Hi1 H1 n1 q J it => ?_)
  refine for_core (R := No) (f := fun s x => f s x >>= fun s' => pure (.ct s')) (s0 := s0) (Lf := Lf) (u := u) it ((en.nx n1).wk w) pg (fun F s x σ Hi H en D hD hz => (hb F s x).go σ Hi H en D trivial (hz.bindz.imp fun s' h σ2 Hi2 H2 en2 => ?_)) ?_
  · rw [hD]; exact (show ∀ σ' Hi' H', EnvOk (b.fl F) (Lf s') σ' Hi' H' → D.ct σ' H' from h) σ2 Hi2 H2 en2
  · rw [forP_T]
    cases hm : forP f s0 xs with
    | ok a => rw [hm] at q; exact q
    | error z => rw [hm] at q; cases z <;> exact q

theorem wh_core {c : S → M Bool} {f : S → M (Tl S R)} {tc : TT} {tb : TS} {D : Ends} {σ0 : L2.St} {Hi0 H0 : Hp} {n : Nat} (en0 : EnvOk b (Lf s0) σ0 Hi0 H0)
    (hc : ∀ (s : S) σ Hi H, EnvOk b (Lf s) σ Hi H → ∀ Q : Bool → Hp → Prop, PX K E (c s) Hi H (fun a _ H' => Q a H') → tc σ H Q)
    (hb : ∀ (s : S) σ Hi H, EnvOk b (Lf s) σ Hi H → ∀ D : Ends, D.nx = D.ct → PZ K E b (f s) (fun t => pTl K b Lf t D) → tb D σ H)
    (hz : PZ K E b (whT c f n s0) (fun z => pEnd K b Lf z D)) : tWhile tc tb D σ0 H0 := by
  refine ⟨fun m σ H => ∃ (s : S) (Hi : Hp), EnvOk b (Lf s) σ Hi H ∧ PZ K E b (whT c f m s) (fun z => pEnd K b Lf z D), ⟨n, s0, Hi0, en0, hz⟩, ?_⟩
  rintro m σ H ⟨s, Hi, en, hq⟩
  cases m with
  | zero => exact hq.elim
  | succ m =>
    refine hc s σ Hi H en _ ((PZ.bind en hq).imp fun t Hi1 H1 n1 q => ?_)
    cases t with
    | false =>
      rw [if_neg Bool.false_ne_true] at q ⊢
      exact (show pNx b Lf s D from q) σ Hi1 H1 (en.nx n1)
    | true =>
      rw [if_pos rfl] at q ⊢
      refine ⟨fun σ' H' => ∃ (s : S) (Hi : Hp), EnvOk b (Lf s) σ' Hi H' ∧ PZ K E b (whT c f m s) (fun z => pEnd K b Lf z D), fun σ' H' w => ⟨m, Nat.lt_succ_self _, w⟩, ?_⟩
      refine hb s σ Hi1 H1 (en.nx n1) _ rfl (q.bindz.imp fun t q2 => ?_)
      cases t with
      | ct s' => exact fun σ3 Hi3 H3 en3 => ⟨s', Hi3, en3, q2⟩
      | bk s' => exact q2
      | rt r => exact q2
variable {c : Expr} {mc : S → M Bool}
theorem js_whR {β : Type} {post : β → Ends → Prop} {tl : Ends → Prop} {f : S → M (Tl S R)} {mr : S → M β} (n : Nat) (wr : R → β) (hw : ∀ r D, post (wr r) D → pRt K b r D) (w : Wk L (Lf s0)) (hc : ∀ s, JT X K b (Lf s) E c (mc s))
    (hb : ∀ (s : S), JS X K b (Lf s) E body tlLp (f s) (pTl K b Lf)) (hr : ∀ s, JS X K b (Lf s) E rest tl (mr s) post) (hp : PassesOwn (model X.prog X.w) X.A X.env X.xe) :
    JS X K b L E (.While c body [] pos :: rest) tl (whT mc f n s0 >>= thenT mr wr) post := by
  refine ⟨fun σ Hi H en D ht hz => PSs.wp (pss_cons (ps_while hp pt_wp pss_wp) pss_wp) ?_⟩
  refine wh_core (c := mc) (f := f) (n := n) (en.wk w) (fun s => (hc s).go) (fun s σ Hi H en D hD hz => (hb s).go σ Hi H en D (fun σ H h => by rw [hD]; exact h) hz) (hz.bindz.imp fun z hz2 => ?_)
  cases z with
  | inl s => exact fun σ' Hi' H' en' => (hr s).go σ' Hi' H' en' D ht hz2
  | inr r => exact hw r D hz2
theorem j1_whB {f : S → M (Tl S No)} (n : Nat) (w : Wk L (Lf s0)) (hc : ∀ s, JT X K b (Lf s) E c (mc s)) (hb : ∀ (s : S), JS X K b (Lf s) E body tlLp (f s) (pTl K b Lf)) (hp : PassesOwn (model X.prog X.w) X.A X.env X.xe) : J1 X K b L E (.While c body [] pos) (whB mc f n s0) Lf := by
  refine ⟨fun σ Hi H en D hz => PS.wp (ps_while hp pt_wp pss_wp) ?_⟩
  rw [← whB_T] at hz
  refine wh_core (c := mc) (f := f) (n := n) (en.wk w) (fun s => (hc s).go) (fun s σ Hi H en D hD hz => (hb s).go σ Hi H en D (fun σ H h => by rw [hD]; exact h) hz) (hz.bindz.imp fun z hz2 => ?_)
  cases z with
  | inl s => exact hz2
  | inr r => exact nomatch r
theorem j1_whP {f : S → M S} (n : Nat) (w : Wk L (Lf s0)) (hc : ∀ s, JT X K b (Lf s) E c (mc s)) (hb : ∀ (s : S), JS X K b (Lf s) E body tlAny (f s) (pNx b Lf)) (hp : PassesOwn (model X.prog X.w) X.A X.env X.xe) : J1 X K b L E (.While c body [] pos) (whP mc f n s0) Lf := by
  refine ⟨fun σ Hi H en D hz => PS.wp (ps_while hp pt_wp pss_wp) ?_⟩
  refine wh_core (R := No) (c := mc) (f := fun s => f s >>= fun s' => pure (.ct s')) (n := n) (en.wk w) (fun s => (hc s).go) (fun s σ Hi H en D hD hz => (hb s).go σ Hi H en D trivial (hz.bindz.imp fun s' h σ2 Hi2 H2 en2 => ?_)) ?_
  · rw [hD]; exact (show ∀ σ' Hi' H', EnvOk b (Lf s') σ' Hi' H' → D.ct σ' H' from h) σ2 Hi2 H2 en2
  · rw [whP_T]
    cases hm : whP mc f n s0 with
    | ok a => rw [hm] at hz; exact hz
    | error z => rw [hm] at hz; cases z <;> exact hz
end
end G

set_option Elab.async false
set_option linter.all false
set_option maxRecDepth 100000
set_option maxHeartbeats 2000000
namespace G
open PySem L2 TL
abbrev FUEL : Nat := 1000000000000
theorem bt_len : bootBuiltins "len" = some (.builtin "len") := by decide +kernel
theorem bt_isinstance : bootBuiltins "isinstance" = some (.builtin "isinstance") := by decide +kernel
theorem bt_sorted : bootBuiltins "sorted" = some (.builtin "sorted") := by decide +kernel
theorem bt_max : bootBuiltins "max" = some (.builtin "max") := by decide +kernel
theorem bt_min : bootBuiltins "min" = some (.builtin "min") := by decide +kernel
theorem bt_sum : bootBuiltins "sum" = some (.builtin "sum") := by decide +kernel
theorem bt_all : bootBuiltins "all" = some (.builtin "all") := by decide +kernel
theorem bt_any : bootBuiltins "any" = some (.builtin "any") := by decide +kernel
theorem bt_abs : bootBuiltins "abs" = some (.builtin "abs") := by decide +kernel
theorem bt_bool : bootBuiltins "bool" = some (.type "bool") := by decide +kernel
theorem bt_int : bootBuiltins "int" = some (.type "int") := by decide +kernel
theorem bt_str : bootBuiltins "str" = some (.type "str") := by decide +kernel
theorem bt_list : bootBuiltins "list" = some (.type "list") := by decide +kernel
theorem bt_tuple : bootBuiltins "tuple" = some (.type "tuple") := by decide +kernel
theorem bt_dict : bootBuiltins "dict" = some (.type "dict") := by decide +kernel
theorem bt_set : bootBuiltins "set" = some (.type "set") := by decide +kernel
theorem bt_range : bootBuiltins "range" = some (.type "range") := by decide +kernel
theorem bt_enumerate : bootBuiltins "enumerate" = some (.type "enumerate") := by decide +kernel
theorem bt_zip : bootBuiltins "zip" = some (.type "zip") := by decide +kernel
theorem bt_reversed : bootBuiltins "reversed" = some (.type "reversed") := by decide +kernel
section
variable {P : Program} {w : World} {K : Fg} {mg : Str → Option Value} {base : Heap} {N : List Str} {qual : Str} {sc : Scope} {f : Addr} {cdv : Value} {A : Around} {outer : List Env} {s : Shared} {H : Hp} {E : XK}
theorem takF : Takes (cxOf (L2.CX P w) P w K mg base N qual sc f cdv A outer s H E) (fun cls d _ H => E cls d H) := takes_of rfl rfl rfl rfl
theorem pasF : Passes (L2.CX P w) (cxOf (L2.CX P w) P w K mg base N qual sc f cdv A outer s H E) E := passes_call takF (fun _ _ _ _ h => h)
theorem pasO : PassesOwn (model P w) (cxOf (L2.CX P w) P w K mg base N qual sc f cdv A outer s H E).A (cxOf (L2.CX P w) P w K mg base N qual sc f cdv A outer s H E).env (cxOf (L2.CX P w) P w K mg base N qual sc f cdv A outer s H E).xe := passes_of rfl
end
theorem cx_false {P : Program} {w : World} {l : List Env} {H : Hp} {s : Shared} {e : Value} {s' : Shared} (h : L2.CX P w l H s (fun _ _ _ => False) e s') : False := by
  obtain ⟨_, _, _, _, _, _, _, _, _, _, _, _, z⟩ := h
  exact z
theorem walkE {l : PySem.W.OpenLaw} {n k : Nat} {q : Program} {loose : List Str} {XP : (Str → Option Value) → Heap → Prop} {YP : World → Heap → Prop} {d : DefRec} {CX : World → CXT} {x : Str}
    (hn : l.most = some n) (hn2 : n ≤ sizeLine) (hdf : d.params.defaults = []) (hr : Room k callerA)
    (F : ∀ (w : World) (mg : Str → Option Value) (fa : Addr) (h : Heap), YP w h → h.Ns mainGlobals mg → mg d.name = some (.ref fa) →
      ∃ (K : PySem.W.Frag) (fd : FuncData) (sp : Sp), K.In h ∧ (∀ (s : Shared) (u : Value), BindsTo s fd ⟨[u], []⟩ [(x, u)]) ∧
        (∀ (H : Hp) (a : Addr) (ns : List Int), ns.length ≤ n → Only H → SqL K H a (ns.map V.int) → sp [.ref a] H (fun v _ => v = .bl true) fun _ _ _ => False) ∧
        ∀ base : Heap, K.In base → base.Ns mainGlobals mg → FnOk l.prog w K mg base (CX w) k fa fd [x] sp)
    (hCX : ∀ (w : World) (H : Hp) (s : Shared) (e : Value) (s' : Shared), CX w [] H s (fun _ _ _ => False) e s' → False) :
    PySem.W.WalkO q loose XP YP l.row.toRowW d [] (fun f vs => PySem.call f vs) := by
  refine Att.attach_call hn hdf fun w s₀ s₁ mg mb fa o pm cd doc a vs ns G Y ho hd hcd hmg hobj hints hlen hg => ?_
  obtain ⟨K, fd, sp, KX, hb, hsp, hF⟩ := F w mg fa _ Y G.T.g hmg
  exact law_call KX G.T.g G.T.b G.T.builtins G.T.nolimit hg hobj hints (Nat.le_trans hlen hn2) hr hF hb (fun H hO hS => hsp H a ns hlen hO hS) fun H e s' => hCX w H s₁ e s'
theorem fnok_same {P : Program} {w : World} {K : Fg} {mg : Str → Option Value} {base : Heap} {CX : CXT} {k : Nat} {f : Addr} {fd fd' : FuncData} {ps ps' : List Str} {sp : Sp} {x qual : Str} {params : Arguments} {body : List Stmt} {scope : Scope} {dvs : List V} {kws : List (Str × V)}
    (F : FunD K x qual params body scope dvs kws f fd) (g : FnOk P w K mg base CX k f fd' ps' sp) : FnOk P w K mg base CX k f fd' ps' sp := g
section
variable {X : Cx} {K : Fg} {mg : Str → Option Value} {b : Bs} {L : List En} {E : XK} {e : Expr} {rest : List Stmt} {α β γ : Type} {pos p2 p3 p4 : Pos} {tl : Ends → Prop} {post : α → Ends → Prop}
theorem js_stuck : JS X K b L E rest tl (stuck : M α) post := ⟨fun _ _ _ _ _ _ h => h.elim⟩
/-- isinstance of a value whose type is known, a built-in class -/
def TyxOk (K : Fg) (α : Type) [Py α] (tn : String) : Prop := ∀ (H : Hp) (a : α) (v : V), Py.rep K H a v → TyX K H v (.type tn)
theorem tyx_bool : TyxOk K Bool "bool" := fun _ _ _ h => h ▸ .base (.bl _)
theorem tyx_int : TyxOk K Int "int" := fun _ _ _ h => h ▸ .base (.int _)
theorem tyx_str : TyxOk K Tx "str" := fun _ _ _ h => h ▸ .base (.str _)
theorem tyx_sql {H : Hp} {p : Addr} {vs : List V} (h : SqL K H p vs) : TyX K H (.ref p) (.type "list") := by
  rcases h with (h | ⟨o, h⟩) | ⟨o, its, n, h1, h2, _⟩
  · exact .base (.lst h)
  · exact .base (.frz h)
  · exact .kList h1 h2
theorem tyx_sqt {H : Hp} {p : Addr} {vs : List V} (h : SqT K H p vs) : TyX K H (.ref p) (.type "tuple") := by
  rcases h with (h | ⟨o, h⟩) | ⟨o, its, n, h1, h2, _⟩
  · exact .base (.tup h)
  · exact .fTuple h
  · exact .kTuple h1 h2
theorem tyx_L [Py α] : TyxOk K (List α) "list" := fun _ _ _ h => by
  obtain ⟨p, vs, rfl, h, _⟩ := h
  exact tyx_sql h
theorem tyx_U [Py α] : TyxOk K (Tup α) "tuple" := fun _ _ _ h => by
  obtain ⟨p, vs, rfl, h, _⟩ := h
  exact tyx_sqt h
theorem tyx_P [Py α] [Py β] : TyxOk K (α × β) "tuple" := fun _ _ _ h => by
  obtain ⟨p, _, _, rfl, h, _⟩ := h
  exact tyx_sqt h
theorem tyx_T3 [Py α] [Py β] [Py γ] : TyxOk K (T3 α β γ) "tuple" := fun _ _ _ h => by
  obtain ⟨p, _, _, _, rfl, h, _⟩ := h
  exact tyx_sqt h
theorem je_isiB [Py α] {m : M α} {tn T : String} {r : Bool} (ht : TyxOk K α tn) (hk : kitB tn T = some r) (hm : mg "isinstance" = none) (hm2 : mg (Str.ofString T) = none) (hv : bootBuiltins (Str.ofString T) = some (.type T)) (h : JE X K b L E e m)
    (hK : X.K = K := by rfl) (hM : X.mg = mg := by rfl) (hg : Gl X "isinstance" := by rfl) (hg2 : Gl X (Str.ofString T) := by rfl) (hn : Str.ofString T ≠ "__name__" := by decide) (hd : (Str.ofString T == ("__debug__" : Str)) = false := by decide)
    (he : starEach [e, .Name (Str.ofString T) p2] X.env = (false, eval e X.env) :: starEach [.Name (Str.ofString T) p2] X.env := by rfl) (he2 : starEach [.Name (Str.ofString T) p2] X.env = (false, eval (.Name (Str.ofString T) p2) X.env) :: starEach [] X.env := by rfl)
    (hpl : (backTo pos (starEach [.Name (Str.ofString T) p2] X.env)).any (·.1) = false := by rfl) : JE X K b L E (.Call (.Name "isinstance" p3) [e, .Name (Str.ofString T) p2] [] pos) (m >>= fun _ => (pure r : M Bool)) := by
  subst hK
  refine .of ⟨_, pe_callB call_isi hg (by rw [hM]; exact hm) bt_isinstance (pa_cons pe_wp (pa_cons (pe_bltn (v := .ty T) hg2 (by rw [hM]; exact hm2) hv rfl hn hd) pa_nil he2) he) (by decide) (by decide) he hpl, fun σ Hi H en Q hq => h.go σ Hi H en _ (hq.bind.imp fun a Hi1 H1 n1 q v rv => ?_)⟩
  exact ⟨v, .ty T, .type tn, .type T, r, rfl, .ty T, ht H1 a v (Py.mono n1.sub rv), kit_ty hk, q.here n1.sub _ rfl⟩
end
end G

set_option Elab.async false
set_option linter.all false
set_option maxRecDepth 100000
set_option maxHeartbeats 2000000
namespace G
open PySem L2 TL

/-! ### == of data -/
class PyE (α : Type) [Py α] [DecidableEq α] where
  dep : Nat
  inj : ∀ {X : Cx} {pins : List (Addr × Obj)} {σ : L2.St} {H : Hp} {s : Shared}, Inv X pins σ H s → ∀ {a b : α} {x : V}, Py.rep X.K H a x → Py.rep X.K H b x → a = b
  eq : ∀ {X : Cx} {pins : List (Addr × Obj)} {σ : L2.St} {H : Hp} {s : Shared}, Inv X pins σ H s → ∀ (A : Around) (a b : α) (x y : V) (v u : Value), A.units + dep < cLine → Py.rep X.K H a x → Py.rep X.K H b y → RelV x v → RelV y u → SeqAt.EqAt A s v u (decide (a = b))
  rc : ∀ {X : Cx} {pins : List (Addr × Obj)} {σ : L2.St} {H : Hp} {s : Shared}, Inv X pins σ H s → ∀ (A : Around) (a b : α) (x y : V) (v u : Value), A.units + dep < cLine → Py.rep X.K H a x → Py.rep X.K H b y → RelV x v → RelV y u → SeqAt.RcAt A s v u (decide (a = b))
  ne : ∀ {X : Cx} {pins : List (Addr × Obj)} {σ : L2.St} {H : Hp} {s : Shared}, Inv X pins σ H s → ∀ (A : Around) (a b : α) (x y : V) (v u : Value), A.units + dep < cLine → Py.rep X.K H a x → Py.rep X.K H b y → RelV x v → RelV y u → SeqAt.RcNeAt A s v u (!decide (a = b))
theorem dec_S' (a b : Tx) : (S a == S b) = decide (a = b) := by
  by_cases h : a = b
  · subst h; simp
  · rw [decide_eq_false h]
    exact beq_eq_false_iff_ne.mpr fun z => h (S_inj z)
instance : PyE Int where
  dep := 0
  inj := fun {X pins σ H s} _ {a b x} h1 h2 => V.int.inj (h1.symm.trans h2)
  eq := fun _ A a b x y v u _ r1 r2 q1 q2 => by
    have e1 : x = .int a := r1
    have e2 : y = .int b := r2
    subst e1 e2
    obtain ⟨t, rfl⟩ := q1
    obtain ⟨t', rfl⟩ := q2
    exact SeqAt.EqAt.int_int a t b t'
  rc := fun _ A a b x y v u _ r1 r2 q1 q2 => by
    have e1 : x = .int a := r1
    have e2 : y = .int b := r2
    subst e1 e2
    obtain ⟨t, rfl⟩ := q1
    obtain ⟨t', rfl⟩ := q2
    exact SeqAt.RcAt.int_int a t b t'
  ne := fun _ A a b x y v u _ r1 r2 q1 q2 => by
    have e1 : x = .int a := r1
    have e2 : y = .int b := r2
    subst e1 e2
    obtain ⟨t, rfl⟩ := q1
    obtain ⟨t', rfl⟩ := q2
    exact SeqAt.RcNeAt.int_int a t b t'
instance : PyE Bool where
  dep := 0
  inj := fun {X pins σ H s} _ {a b x} h1 h2 => V.bl.inj (h1.symm.trans h2)
  eq := fun _ A a b x y v u _ r1 r2 q1 q2 => by
    have e1 : x = .bl a := r1
    have e2 : y = .bl b := r2
    subst e1 e2
    cases q1
    cases q2
    have := SeqAt.EqAt.bool_bool (A := A) (s := by assumption) a b
    rw [Bool.beq_eq_decide_eq] at this
    exact this
  rc := fun _ A a b x y v u _ r1 r2 q1 q2 => by
    have e1 : x = .bl a := r1
    have e2 : y = .bl b := r2
    subst e1 e2
    cases q1
    cases q2
    have := SeqAt.RcAt.bool_bool (A := A) (s := by assumption) a b
    rw [Bool.beq_eq_decide_eq] at this
    exact this
  ne := fun _ A a b x y v u _ r1 r2 q1 q2 => by
    have e1 : x = .bl a := r1
    have e2 : y = .bl b := r2
    subst e1 e2
    cases q1
    cases q2
    have := SeqAt.RcNeAt.bool_bool (A := A) (s := by assumption) a b
    have e : (!(a == b)) = !decide (a = b) := by cases a <;> cases b <;> rfl
    rw [e] at this
    exact this
instance instPyETx : PyE Tx where
  dep := 0
  inj := fun {X pins σ H s} _ {a b x} h1 h2 => S_inj (V.str.inj (h1.symm.trans h2))
  eq := fun _ A a b x y v u _ r1 r2 q1 q2 => by
    have e1 : x = .str (S a) := r1
    have e2 : y = .str (S b) := r2
    subst e1 e2
    obtain ⟨t, rfl⟩ := q1
    obtain ⟨t', rfl⟩ := q2
    rw [← dec_S']
    exact SeqAt.EqAt.str_str _ t _ t'
  rc := fun _ A a b x y v u _ r1 r2 q1 q2 => by
    have e1 : x = .str (S a) := r1
    have e2 : y = .str (S b) := r2
    subst e1 e2
    obtain ⟨t, rfl⟩ := q1
    obtain ⟨t', rfl⟩ := q2
    rw [← dec_S']
    exact SeqAt.RcAt.str_str _ t _ t'
  ne := fun _ A a b x y v u _ r1 r2 q1 q2 => by
    have e1 : x = .str (S a) := r1
    have e2 : y = .str (S b) := r2
    subst e1 e2
    obtain ⟨t, rfl⟩ := q1
    obtain ⟨t', rfl⟩ := q2
    rw [← dec_S']
    exact SeqAt.RcNeAt.str_str _ t _ t'
section
variable {α β γ δ : Type} [Py α] [DecidableEq α] [PyE α] [Py β] [DecidableEq β] [PyE β] [Py γ] [DecidableEq γ] [PyE γ] [Py δ] [DecidableEq δ] [PyE δ] {X : Cx} {pins : List (Addr × Obj)} {σ : L2.St} {H : Hp} {s : Shared}
theorem rl_inj (I : Inv X pins σ H s) : ∀ {xs ys : List α} {vs : List V}, Rl X.K H xs vs → Rl X.K H ys vs → xs = ys
  | _, _, _, .nil, .nil => rfl
  | _, _, _, .cons r t, .cons r' t' => by rw [PyE.inj I r r', rl_inj I t t']
def eAt (xs ys : List α) (j : Nat) : Bool := match xs[j]?, ys[j]? with
  | some a, some b => decide (a = b)
  | _, _ => false
theorem items_eq (I : Inv X pins σ H s) (A : Around) (hu : A.units + PyE.dep (α := α) < cLine) : ∀ {xs ys : List α} {vs ws : List V} {us ts : List Value}, Rl X.K H xs vs → Rl X.K H ys ws → Vals vs us → Vals ws ts →
    ∀ j (h1 : j < us.length) (h2 : j < ts.length), SeqAt.EqAt A s us[j] ts[j] (eAt xs ys j)
  | _, _, _, _, _, _, .nil, _, .nil, _, j, h1, _ => absurd h1 (Nat.not_lt_zero _)
  | _, _, _, _, _, _, .cons _ _, .nil, .cons _ _, .nil, j, _, h2 => absurd h2 (Nat.not_lt_zero _)
  | _, _, _, _, _, _, .cons r t, .cons r' t', .cons q k, .cons q' k', 0, _, _ => PyE.eq I A _ _ _ _ _ _ hu r r' q q'
  | _, _, _, _, _, _, .cons r t, .cons r' t', .cons q k, .cons q' k', j + 1, h1, h2 => items_eq I A hu t t' k k' j (Nat.lt_of_succ_lt_succ h1) (Nat.lt_of_succ_lt_succ h2)
theorem all_range_succ (n : Nat) (e : Nat → Bool) : (List.range (n + 1)).all e = (e 0 && (List.range n).all fun j => e (j + 1)) := by
  rw [List.range_succ_eq_map, List.all_cons, List.all_map]
  rfl
theorem eAt_all : ∀ xs ys : List α, xs.length = ys.length → (List.range xs.length).all (eAt xs ys) = decide (xs = ys)
  | [], [], _ => by simp
  | [], _ :: _, h => nomatch h
  | _ :: _, [], h => nomatch h
  | x :: xs, y :: ys, h => by
    rw [List.length_cons, all_range_succ]
    have ih := eAt_all xs ys (by simpa using h)
    have e1 : (fun j => eAt (x :: xs) (y :: ys) (j + 1)) = eAt xs ys := funext fun j => rfl
    rw [e1, ih]
    show (decide (x = y) && decide (xs = ys)) = decide (x :: xs = y :: ys)
    by_cases h1 : x = y <;> by_cases h2 : xs = ys <;> simp [h1, h2]
theorem eAt_allT (xs ys : List α) : ((List.range (min xs.length ys.length)).all (eAt xs ys) && xs.length == ys.length) = decide (xs = ys) := by
  by_cases h : xs.length = ys.length
  · rw [h, Nat.min_self, ← h, eAt_all xs ys h]
    simp
  · have : xs ≠ ys := fun e => h (by rw [e])
    rw [decide_eq_false this, beq_eq_false_iff_ne.mpr h, Bool.and_false]
instance instPyEList : PyE (List α) where
  dep := PyE.dep (α := α) + 1
  inj := fun {X pins σ H s} I {a b x} h1 h2 => by
    obtain ⟨p, vs, rfl, g1, g2⟩ := h1
    obtain ⟨p', vs', e, k1, k2⟩ := h2
    cases e
    have := I.list_inj g1 k1
    subst this
    exact rl_inj I g2 k2
  eq := fun {X pins σ H s} I A a b x y v u hu h1 h2 q1 q2 => by
    obtain ⟨p, vs, rfl, g1, g2⟩ := h1
    obtain ⟨p', vs', rfl, k1, k2⟩ := h2
    cases q1
    cases q2
    by_cases hp : p = p'
    · subst hp
      have := I.list_inj g1 k1
      subst this
      have := rl_inj I g2 k2
      subst this
      rw [decide_eq_true rfl]
      exact SeqAt.EqAt.same _
    · obtain ⟨us, r1, pl1, _⟩ := I.list g1
      obtain ⟨ts, r2, pl2, _⟩ := I.list k1
      have l1 : us.toArray.size = a.length := by rw [List.size_toArray, ← r1.length, g2.length]
      have l2 : ts.toArray.size = b.length := by rw [List.size_toArray, ← r2.length, k2.length]
      by_cases hsz : a.length = b.length
      · have := SeqAt.RcAt.lists (A := A) (e := eAt a b) pl1.isList pl2.isList (by rw [l1, l2, hsz]) (by omega) (fun j j1 j2 => by
          have := items_eq I A.in1 (by show A.units + 1 + _ < cLine; omega) g2 k2 r1 r2 j (by simpa using j1) (by simpa using j2)
          simpa using this)
        rw [l1, eAt_all a b hsz] at this
        exact SeqAt.EqAt.of_refs hp this
      · rw [decide_eq_false (fun e => hsz (by rw [e]))]
        exact SeqAt.EqAt.of_refs hp (SeqAt.RcAt.lists_lengths pl1.isList pl2.isList (by rw [l1, l2]; simpa using hsz) (by omega))
  rc := fun {X pins σ H s} I A a b x y v u hu h1 h2 q1 q2 => by
    obtain ⟨p, vs, rfl, g1, g2⟩ := h1
    obtain ⟨p', vs', rfl, k1, k2⟩ := h2
    cases q1
    cases q2
    obtain ⟨us, r1, pl1, _⟩ := I.list g1
    obtain ⟨ts, r2, pl2, _⟩ := I.list k1
    have l1 : us.toArray.size = a.length := by rw [List.size_toArray, ← r1.length, g2.length]
    have l2 : ts.toArray.size = b.length := by rw [List.size_toArray, ← r2.length, k2.length]
    by_cases hsz : a.length = b.length
    · have := SeqAt.RcAt.lists (A := A) (e := eAt a b) pl1.isList pl2.isList (by rw [l1, l2, hsz]) (by omega) (fun j j1 j2 => by
        have := items_eq I A.in1 (by show A.units + 1 + _ < cLine; omega) g2 k2 r1 r2 j (by simpa using j1) (by simpa using j2)
        simpa using this)
      rw [l1, eAt_all a b hsz] at this
      exact this
    · rw [decide_eq_false (fun e => hsz (by rw [e]))]
      exact SeqAt.RcAt.lists_lengths pl1.isList pl2.isList (by rw [l1, l2]; simpa using hsz) (by omega)
  ne := fun {X pins σ H s} I A a b x y v u hu h1 h2 q1 q2 => by
    obtain ⟨p, vs, rfl, g1, g2⟩ := h1
    obtain ⟨p', vs', rfl, k1, k2⟩ := h2
    cases q1
    cases q2
    obtain ⟨us, r1, pl1, _⟩ := I.list g1
    obtain ⟨ts, r2, pl2, _⟩ := I.list k1
    have l1 : us.toArray.size = a.length := by rw [List.size_toArray, ← r1.length, g2.length]
    have l2 : ts.toArray.size = b.length := by rw [List.size_toArray, ← r2.length, k2.length]
    by_cases hsz : a.length = b.length
    · have := SeqAt.RcNeAt.lists (A := A) (e := eAt a b) pl1.isList pl2.isList (by rw [l1, l2, hsz]) (by omega) (fun j j1 j2 => by
        have := items_eq I A.in1 (by show A.units + 1 + _ < cLine; omega) g2 k2 r1 r2 j (by simpa using j1) (by simpa using j2)
        simpa using this)
      rw [l1, eAt_all a b hsz] at this
      exact this
    · rw [decide_eq_false (fun e => hsz (by rw [e]))]
      exact SeqAt.RcNeAt.lists_lengths pl1.isList pl2.isList (by rw [l1, l2]; simpa using hsz) (by omega)
theorem tu_rc (I : Inv X pins σ H s) {A : Around} {xs ys : List α} {p p' : Addr} {vs vs' : List V} (g1 : SqT X.K H p vs) (g2 : Rl X.K H xs vs) (k1 : SqT X.K H p' vs') (k2 : Rl X.K H ys vs') (hu : A.units + (PyE.dep (α := α) + 1) < cLine) : SeqAt.RcAt A s (.ref p) (.ref p') (decide (xs = ys)) := by
  obtain ⟨us, r1, pl1, _⟩ := I.tuple g1
  obtain ⟨ts, r2, pl2, _⟩ := I.tuple k1
  have l1 : us.toArray.size = xs.length := by rw [List.size_toArray, ← r1.length, g2.length]
  have l2 : ts.toArray.size = ys.length := by rw [List.size_toArray, ← r2.length, k2.length]
  have := SeqAt.RcAt.tuples (A := A) (e := eAt xs ys) (show s.heap.IsTuple p us.toArray from pl1) (show s.heap.IsTuple p' ts.toArray from pl2) (by omega) (fun j j1 j2 => by
      have := items_eq I A.in1 (by show A.units + 1 + _ < cLine; omega) g2 k2 r1 r2 j (by simpa using j1) (by simpa using j2)
      simpa using this)
  rw [l1, l2, eAt_allT] at this
  exact this
theorem tu_ne (I : Inv X pins σ H s) {A : Around} {xs ys : List α} {p p' : Addr} {vs vs' : List V} (g1 : SqT X.K H p vs) (g2 : Rl X.K H xs vs) (k1 : SqT X.K H p' vs') (k2 : Rl X.K H ys vs') (hu : A.units + (PyE.dep (α := α) + 1) < cLine) : SeqAt.RcNeAt A s (.ref p) (.ref p') (!decide (xs = ys)) := by
  obtain ⟨us, r1, pl1, _⟩ := I.tuple g1
  obtain ⟨ts, r2, pl2, _⟩ := I.tuple k1
  have l1 : us.toArray.size = xs.length := by rw [List.size_toArray, ← r1.length, g2.length]
  have l2 : ts.toArray.size = ys.length := by rw [List.size_toArray, ← r2.length, k2.length]
  have := SeqAt.RcNeAt.tuples (A := A) (e := eAt xs ys) (show s.heap.IsTuple p us.toArray from pl1) (show s.heap.IsTuple p' ts.toArray from pl2) (by omega) (fun j j1 j2 => by
      have := items_eq I A.in1 (by show A.units + 1 + _ < cLine; omega) g2 k2 r1 r2 j (by simpa using j1) (by simpa using j2)
      simpa using this)
  rw [l1, l2, eAt_allT] at this
  exact this
theorem tu_eq (I : Inv X pins σ H s) {A : Around} {xs ys : List α} {p p' : Addr} {vs vs' : List V} (g1 : SqT X.K H p vs) (g2 : Rl X.K H xs vs) (k1 : SqT X.K H p' vs') (k2 : Rl X.K H ys vs') (hu : A.units + (PyE.dep (α := α) + 1) < cLine) : SeqAt.EqAt A s (.ref p) (.ref p') (decide (xs = ys)) := by
  by_cases hp : p = p'
  · subst hp
    have := I.tuple_inj g1 k1
    subst this
    have := rl_inj I g2 k2
    subst this
    rw [decide_eq_true rfl]
    exact SeqAt.EqAt.same _
  · exact SeqAt.EqAt.of_refs hp (tu_rc I g1 g2 k1 k2 hu)
instance instDecTup {α : Type} [h : DecidableEq α] : DecidableEq (Tup α) := (inferInstance : DecidableEq (List α))
instance instPyETup : PyE (Tup α) where
  dep := PyE.dep (α := α) + 1
  inj := fun {X pins σ H s} I {a b x} h1 h2 => by
    obtain ⟨p, vs, rfl, g1, g2⟩ := h1
    obtain ⟨p', vs', e, k1, k2⟩ := h2
    cases e
    have := I.tuple_inj g1 k1
    subst this
    exact rl_inj I g2 k2
  eq := fun {X pins σ H s} I A a b x y v u hu h1 h2 q1 q2 => by
    obtain ⟨p, vs, rfl, g1, g2⟩ := h1
    obtain ⟨p', vs', rfl, k1, k2⟩ := h2
    cases q1
    cases q2
    exact tu_eq I g1 g2 k1 k2 hu
  rc := fun {X pins σ H s} I A a b x y v u hu h1 h2 q1 q2 => by
    obtain ⟨p, vs, rfl, g1, g2⟩ := h1
    obtain ⟨p', vs', rfl, k1, k2⟩ := h2
    cases q1
    cases q2
    exact tu_rc I g1 g2 k1 k2 hu
  ne := fun {X pins σ H s} I A a b x y v u hu h1 h2 q1 q2 => by
    obtain ⟨p, vs, rfl, g1, g2⟩ := h1
    obtain ⟨p', vs', rfl, k1, k2⟩ := h2
    cases q1
    cases q2
    exact tu_ne I g1 g2 k1 k2 hu
/-- tuples of a written number of items -/
def FixEq (X : Cx) (H : Hp) (s : Shared) (n d : Nat) (vs ws : List V) (e : Nat → Bool) : Prop :=
  vs.length = n ∧ ws.length = n ∧ ∀ (A : Around), A.units + d < cLine → ∀ us ts, Vals vs us → Vals ws ts → ∀ j (h1 : j < us.length) (h2 : j < ts.length), SeqAt.EqAt A s us[j] ts[j] (e j)
theorem fix_rc (I : Inv X pins σ H s) {n d : Nat} {vs ws : List V} {e : Nat → Bool} {p p' : Addr} {A : Around} (f : FixEq X H s n d vs ws e) (g1 : SqT X.K H p vs) (k1 : SqT X.K H p' ws) (hu : A.units + (d + 1) < cLine) : SeqAt.RcAt A s (.ref p) (.ref p') ((List.range n).all e) := by
  obtain ⟨us, r1, pl1, _⟩ := I.tuple g1
  obtain ⟨ts, r2, pl2, _⟩ := I.tuple k1
  have l1 : us.toArray.size = n := by rw [List.size_toArray, ← r1.length, f.1]
  have l2 : ts.toArray.size = n := by rw [List.size_toArray, ← r2.length, f.2.1]
  have := SeqAt.RcAt.tuples (A := A) (e := e) (show s.heap.IsTuple p us.toArray from pl1) (show s.heap.IsTuple p' ts.toArray from pl2) (by omega) (fun j j1 j2 => by
      have := f.2.2 A.in1 (by show A.units + 1 + _ < cLine; omega) us ts r1 r2 j (by simpa using j1) (by simpa using j2)
      simpa using this)
  rw [l1, l2, Nat.min_self, beq_self_eq_true, Bool.and_true] at this
  exact this
theorem fix_ne (I : Inv X pins σ H s) {n d : Nat} {vs ws : List V} {e : Nat → Bool} {p p' : Addr} {A : Around} (f : FixEq X H s n d vs ws e) (g1 : SqT X.K H p vs) (k1 : SqT X.K H p' ws) (hu : A.units + (d + 1) < cLine) : SeqAt.RcNeAt A s (.ref p) (.ref p') (!(List.range n).all e) := by
  obtain ⟨us, r1, pl1, _⟩ := I.tuple g1
  obtain ⟨ts, r2, pl2, _⟩ := I.tuple k1
  have l1 : us.toArray.size = n := by rw [List.size_toArray, ← r1.length, f.1]
  have l2 : ts.toArray.size = n := by rw [List.size_toArray, ← r2.length, f.2.1]
  have := SeqAt.RcNeAt.tuples (A := A) (e := e) (show s.heap.IsTuple p us.toArray from pl1) (show s.heap.IsTuple p' ts.toArray from pl2) (by omega) (fun j j1 j2 => by
      have := f.2.2 A.in1 (by show A.units + 1 + _ < cLine; omega) us ts r1 r2 j (by simpa using j1) (by simpa using j2)
      simpa using this)
  rw [l1, l2, Nat.min_self, beq_self_eq_true, Bool.and_true] at this
  exact this
theorem fix_nil : FixEq X H s 0 0 [] [] (fun _ => false) := ⟨rfl, rfl, fun _ _ us ts r1 _ j h1 _ => by cases r1; exact absurd h1 (Nat.not_lt_zero _)⟩
theorem fix_cons (I : Inv X pins σ H s) {n d : Nat} {vs ws : List V} {e : Nat → Bool} {a b : α} {x y : V} (r1 : Py.rep X.K H a x) (r2 : Py.rep X.K H b y) (f : FixEq X H s n d vs ws e) : FixEq X H s (n + 1) (max (PyE.dep (α := α)) d) (x :: vs) (y :: ws) (fun j => match j with
    | 0 => decide (a = b)
    | j + 1 => e j) := by
  refine ⟨by rw [List.length_cons, f.1], by rw [List.length_cons, f.2.1], fun A hu us ts q1 q2 j h1 h2 => ?_⟩
  cases q1 with
  | cons s1 t1 =>
    cases q2 with
    | cons s2 t2 =>
      cases j with
      | zero => exact PyE.eq I A _ _ _ _ _ _ (by omega) r1 r2 s1 s2
      | succ j => exact f.2.2 A (by omega) _ _ t1 t2 j (Nat.lt_of_succ_lt_succ h1) (Nat.lt_of_succ_lt_succ h2)
theorem fix2 (I : Inv X pins σ H s) {a a' : α} {b b' : β} {x y x' y' : V} (h1 : Py.rep X.K H a x) (h2 : Py.rep X.K H b y) (h1' : Py.rep X.K H a' x') (h2' : Py.rep X.K H b' y') :
    ∃ e, FixEq X H s 2 (max (PyE.dep (α := α)) (max (PyE.dep (α := β)) 0)) [x, y] [x', y'] e ∧ (List.range 2).all e = decide ((a, b) = (a', b')) := by
  refine ⟨_, fix_cons I h1 h1' (fix_cons I h2 h2' fix_nil), ?_⟩
  show (decide (a = a') && (decide (b = b') && true)) = _
  by_cases e1 : a = a' <;> by_cases e2 : b = b' <;> simp [e1, e2]
theorem fix3 (I : Inv X pins σ H s) {a a' : α} {b b' : β} {c c' : γ} {x y z x' y' z' : V} (h1 : Py.rep X.K H a x) (h2 : Py.rep X.K H b y) (h3 : Py.rep X.K H c z) (h1' : Py.rep X.K H a' x') (h2' : Py.rep X.K H b' y') (h3' : Py.rep X.K H c' z') :
    ∃ e, FixEq X H s 3 (max (PyE.dep (α := α)) (max (PyE.dep (α := β)) (max (PyE.dep (α := γ)) 0))) [x, y, z] [x', y', z'] e ∧ (List.range 3).all e = decide ((T3.mk a b c) = (T3.mk a' b' c')) := by
  refine ⟨_, fix_cons I h1 h1' (fix_cons I h2 h2' (fix_cons I h3 h3' fix_nil)), ?_⟩
  show (decide (a = a') && (decide (b = b') && (decide (c = c') && true))) = _
  by_cases e1 : a = a' <;> by_cases e2 : b = b' <;> by_cases e3 : c = c' <;> simp [e1, e2, e3]
theorem fix4 (I : Inv X pins σ H s) {a a' : α} {b b' : β} {c c' : γ} {d d' : δ} {x y z w x' y' z' w' : V} (h1 : Py.rep X.K H a x) (h2 : Py.rep X.K H b y) (h3 : Py.rep X.K H c z) (h4 : Py.rep X.K H d w) (h1' : Py.rep X.K H a' x') (h2' : Py.rep X.K H b' y') (h3' : Py.rep X.K H c' z') (h4' : Py.rep X.K H d' w') :
    ∃ e, FixEq X H s 4 (max (PyE.dep (α := α)) (max (PyE.dep (α := β)) (max (PyE.dep (α := γ)) (max (PyE.dep (α := δ)) 0)))) [x, y, z, w] [x', y', z', w'] e ∧ (List.range 4).all e = decide ((T4.mk a b c d) = (T4.mk a' b' c' d')) := by
  refine ⟨_, fix_cons I h1 h1' (fix_cons I h2 h2' (fix_cons I h3 h3' (fix_cons I h4 h4' fix_nil))), ?_⟩
  show (decide (a = a') && (decide (b = b') && (decide (c = c') && (decide (d = d') && true)))) = _
  by_cases e1 : a = a' <;> by_cases e2 : b = b' <;> by_cases e3 : c = c' <;> by_cases e4 : d = d' <;> simp [e1, e2, e3, e4]
instance instPyEProd : PyE (α × β) where
  dep := max (PyE.dep (α := α)) (max (PyE.dep (α := β)) 0) + 1
  inj := fun {X pins σ H s} I {a b x} h1 h2 => by
    obtain ⟨p, v1, v2, rfl, g1, g2, g3⟩ := h1
    obtain ⟨p', w1, w2, e, k1, k2, k3⟩ := h2
    cases e
    have := I.tuple_inj g1 k1
    cases this
    exact Prod.ext (PyE.inj I g2 k2) (PyE.inj I g3 k3)
  eq := fun {X pins σ H s} I A a b x y v u hu h1 h2 q1 q2 => by
    obtain ⟨p, v1, v2, rfl, g1, g2, g3⟩ := h1
    obtain ⟨p', w1, w2, rfl, k1, k2, k3⟩ := h2
    cases q1
    cases q2
    obtain ⟨e, f, hf⟩ := fix2 I g2 g3 k2 k3
    by_cases hp : p = p'
    · subst hp
      have := I.tuple_inj g1 k1
      cases this
      have : a = b := Prod.ext (PyE.inj I g2 k2) (PyE.inj I g3 k3)
      subst this
      rw [decide_eq_true rfl]
      exact SeqAt.EqAt.same _
    · exact SeqAt.EqAt.of_refs hp ((show SeqAt.RcAt A s (.ref p) (.ref p') (decide (a = b)) from hf ▸ fix_rc I f g1 k1 hu))
  rc := fun {X pins σ H s} I A a b x y v u hu h1 h2 q1 q2 => by
    obtain ⟨p, v1, v2, rfl, g1, g2, g3⟩ := h1
    obtain ⟨p', w1, w2, rfl, k1, k2, k3⟩ := h2
    cases q1
    cases q2
    obtain ⟨e, f, hf⟩ := fix2 I g2 g3 k2 k3
    exact (show SeqAt.RcAt A s (.ref p) (.ref p') (decide (a = b)) from hf ▸ fix_rc I f g1 k1 hu)
  ne := fun {X pins σ H s} I A a b x y v u hu h1 h2 q1 q2 => by
    obtain ⟨p, v1, v2, rfl, g1, g2, g3⟩ := h1
    obtain ⟨p', w1, w2, rfl, k1, k2, k3⟩ := h2
    cases q1
    cases q2
    obtain ⟨e, f, hf⟩ := fix2 I g2 g3 k2 k3
    exact (show SeqAt.RcNeAt A s (.ref p) (.ref p') (!decide (a = b)) from hf ▸ fix_ne I f g1 k1 hu)
theorem T3.ext' {a b : T3 α β γ} (h1 : a.a = b.a) (h2 : a.b = b.b) (h3 : a.c = b.c) : a = b := by cases a; cases b; cases h1; cases h2; cases h3; rfl
theorem T4.ext' {a b : T4 α β γ δ} (h1 : a.a = b.a) (h2 : a.b = b.b) (h3 : a.c = b.c) (h4 : a.d = b.d) : a = b := by cases a; cases b; cases h1; cases h2; cases h3; cases h4; rfl
instance instPyET3 : PyE (T3 α β γ) where
  dep := max (PyE.dep (α := α)) (max (PyE.dep (α := β)) (max (PyE.dep (α := γ)) 0)) + 1
  inj := fun {X pins σ H s} I {a b x} h1 h2 => by
    obtain ⟨p, v1, v2, v3, rfl, g1, g2, g3, g4⟩ := h1
    obtain ⟨p', w1, w2, w3, e, k1, k2, k3, k4⟩ := h2
    cases e
    have := I.tuple_inj g1 k1
    cases this
    exact T3.ext' (PyE.inj I g2 k2) (PyE.inj I g3 k3) (PyE.inj I g4 k4)
  eq := fun {X pins σ H s} I A a b x y v u hu h1 h2 q1 q2 => by
    obtain ⟨p, v1, v2, v3, rfl, g1, g2, g3, g4⟩ := h1
    obtain ⟨p', w1, w2, w3, rfl, k1, k2, k3, k4⟩ := h2
    cases q1
    cases q2
    obtain ⟨e, f, hf⟩ := fix3 I g2 g3 g4 k2 k3 k4
    by_cases hp : p = p'
    · subst hp
      have := I.tuple_inj g1 k1
      cases this
      have : a = b := T3.ext' (PyE.inj I g2 k2) (PyE.inj I g3 k3) (PyE.inj I g4 k4)
      subst this
      rw [decide_eq_true rfl]
      exact SeqAt.EqAt.same _
    · exact SeqAt.EqAt.of_refs hp ((show SeqAt.RcAt A s (.ref p) (.ref p') (decide (a = b)) from hf ▸ fix_rc I f g1 k1 hu))
  rc := fun {X pins σ H s} I A a b x y v u hu h1 h2 q1 q2 => by
    obtain ⟨p, v1, v2, v3, rfl, g1, g2, g3, g4⟩ := h1
    obtain ⟨p', w1, w2, w3, rfl, k1, k2, k3, k4⟩ := h2
    cases q1
    cases q2
    obtain ⟨e, f, hf⟩ := fix3 I g2 g3 g4 k2 k3 k4
    exact (show SeqAt.RcAt A s (.ref p) (.ref p') (decide (a = b)) from hf ▸ fix_rc I f g1 k1 hu)
  ne := fun {X pins σ H s} I A a b x y v u hu h1 h2 q1 q2 => by
    obtain ⟨p, v1, v2, v3, rfl, g1, g2, g3, g4⟩ := h1
    obtain ⟨p', w1, w2, w3, rfl, k1, k2, k3, k4⟩ := h2
    cases q1
    cases q2
    obtain ⟨e, f, hf⟩ := fix3 I g2 g3 g4 k2 k3 k4
    exact (show SeqAt.RcNeAt A s (.ref p) (.ref p') (!decide (a = b)) from hf ▸ fix_ne I f g1 k1 hu)
instance instPyET4 : PyE (T4 α β γ δ) where
  dep := max (PyE.dep (α := α)) (max (PyE.dep (α := β)) (max (PyE.dep (α := γ)) (max (PyE.dep (α := δ)) 0))) + 1
  inj := fun {X pins σ H s} I {a b x} h1 h2 => by
    obtain ⟨p, v1, v2, v3, v4, rfl, g1, g2, g3, g4, g5⟩ := h1
    obtain ⟨p', w1, w2, w3, w4, e, k1, k2, k3, k4, k5⟩ := h2
    cases e
    have := I.tuple_inj g1 k1
    cases this
    exact T4.ext' (PyE.inj I g2 k2) (PyE.inj I g3 k3) (PyE.inj I g4 k4) (PyE.inj I g5 k5)
  eq := fun {X pins σ H s} I A a b x y v u hu h1 h2 q1 q2 => by
    obtain ⟨p, v1, v2, v3, v4, rfl, g1, g2, g3, g4, g5⟩ := h1
    obtain ⟨p', w1, w2, w3, w4, rfl, k1, k2, k3, k4, k5⟩ := h2
    cases q1
    cases q2
    obtain ⟨e, f, hf⟩ := fix4 I g2 g3 g4 g5 k2 k3 k4 k5
    by_cases hp : p = p'
    · subst hp
      have := I.tuple_inj g1 k1
      cases this
      have : a = b := T4.ext' (PyE.inj I g2 k2) (PyE.inj I g3 k3) (PyE.inj I g4 k4) (PyE.inj I g5 k5)
      subst this
      rw [decide_eq_true rfl]
      exact SeqAt.EqAt.same _
    · exact SeqAt.EqAt.of_refs hp ((show SeqAt.RcAt A s (.ref p) (.ref p') (decide (a = b)) from hf ▸ fix_rc I f g1 k1 hu))
  rc := fun {X pins σ H s} I A a b x y v u hu h1 h2 q1 q2 => by
    obtain ⟨p, v1, v2, v3, v4, rfl, g1, g2, g3, g4, g5⟩ := h1
    obtain ⟨p', w1, w2, w3, w4, rfl, k1, k2, k3, k4, k5⟩ := h2
    cases q1
    cases q2
    obtain ⟨e, f, hf⟩ := fix4 I g2 g3 g4 g5 k2 k3 k4 k5
    exact (show SeqAt.RcAt A s (.ref p) (.ref p') (decide (a = b)) from hf ▸ fix_rc I f g1 k1 hu)
  ne := fun {X pins σ H s} I A a b x y v u hu h1 h2 q1 q2 => by
    obtain ⟨p, v1, v2, v3, v4, rfl, g1, g2, g3, g4, g5⟩ := h1
    obtain ⟨p', w1, w2, w3, w4, rfl, k1, k2, k3, k4, k5⟩ := h2
    cases q1
    cases q2
    obtain ⟨e, f, hf⟩ := fix4 I g2 g3 g4 g5 k2 k3 k4 k5
    exact (show SeqAt.RcNeAt A s (.ref p) (.ref p') (!decide (a = b)) from hf ▸ fix_ne I f g1 k1 hu)
/-- the operators -/
def rEqA (α : Type) [Py α] [DecidableEq α] (K : Fg) : R2 := fun x y H Q => ∃ a b : α, Py.rep K H a x ∧ Py.rep K H b y ∧ Q (.bl (decide (a = b))) H
def rNeA (α : Type) [Py α] [DecidableEq α] (K : Fg) : R2 := fun x y H Q => ∃ a b : α, Py.rep K H a x ∧ Py.rep K H b y ∧ Q (.bl (!decide (a = b))) H
theorem op_eqA (hu : X.A.units + 64 < cLine) (hd : PyE.dep (α := α) ≤ 60 := by decide) : OpR X (compareOp .Eq) (rEqA α X.K) := by
  intro pins s σ H x y v u Q I rx ry h
  obtain ⟨a, b, r1, r2, q⟩ := h
  exact PyE.rc I X.A a b x y v u (by omega) r1 r2 rx ry X.prog X.w _ _ ⟨.bl _, H, I, rfl, q⟩
theorem op_neA (hu : X.A.units + 64 < cLine) (hd : PyE.dep (α := α) ≤ 60 := by decide) : OpR X (compareOp .NotEq) (rNeA α X.K) := by
  intro pins s σ H x y v u Q I rx ry h
  obtain ⟨a, b, r1, r2, q⟩ := h
  exact PyE.ne I X.A a b x y v u (by omega) r1 r2 rx ry X.prog X.w _ _ ⟨.bl _, H, I, rfl, q⟩
theorem ro_eqA {K : Fg} {E : XK} : RO K E (rEqA α K) (fun a b : α => (pure (decide (a = b)) : M Bool)) := by
  rintro a b v w Hi H Q s r1 r2 h
  exact ⟨a, b, Py.mono s r1, Py.mono s r2, h.here s _ rfl⟩
theorem ro_neA {K : Fg} {E : XK} : RO K E (rNeA α K) (fun a b : α => (pure (!decide (a = b)) : M Bool)) := by
  rintro a b v w Hi H Q s r1 r2 h
  exact ⟨a, b, Py.mono s r1, Py.mono s r2, h.here s _ rfl⟩
end
end G

set_option Elab.async false
set_option linter.all false
set_option maxRecDepth 100000
set_option maxHeartbeats 2000000
namespace G
open PySem L2 TL
/-! list + list, whoever holds them -/
def rCatQ (K : Fg) : R2 := fun x y H Q => ∃ a b xs ys, x = .ref a ∧ y = .ref b ∧ SqL K H a xs ∧ SqL K H b ys ∧ xs.length + ys.length ≤ sizeLine ∧ ∀ p, H p = none → Q (.ref p) (upd H p (.lst (xs ++ ys)))
theorem op_catQ {X : Cx} {K : Fg} (hK : X.K = K := by rfl) : OpR X (binaryOp .Add) (rCatQ K) := by
  subst hK
  intro pins s σ H x y v u Q I rx ry h
  obtain ⟨a, b, xs, ys, rfl, rfl, hx, hy, hz, q⟩ := h
  cases rx
  cases ry
  obtain ⟨its, r, pl, _⟩ := I.list hx
  obtain ⟨its2, r2, pl2, _⟩ := I.list hy
  obtain ⟨⟨cls, dd, data, sl⟩, ho, hc, n, hd⟩ := pl.isList
  obtain ⟨⟨cls2, dd2, data2, sl2⟩, ho2, hc2, n2, hd2⟩ := pl2.isList
  simp only at hc hd hc2 hd2
  subst hc hd hc2 hd2
  refine PySem.concat_meets ⟨_, ho, rfl⟩ ⟨_, ho2, rfl⟩ noFill_list_add seq_list_add PySem.F.slot_list_add PySem.F.entry_list_add (PySem.F.args_list_add_2 _ _) (PyProof.Rows.list_addW a b its.toArray its2.toArray n n2 dd dd2 sl sl2 (by rw [List.size_toArray, List.size_toArray, ← r.length, ← r2.length]; exact hz)) ⟨ho, ho2, ?_⟩
  have ea : its.toArray ++ its2.toArray = (its ++ its2).toArray := by simp
  rw [ea]
  exact ⟨.ref _, _, I.lnew (t' := s.toks) (r.append r2) (by rw [List.length_append]; exact hz), rfl, q _ I.fresh⟩
def catM {α : Type} (xs ys : List α) : M (List α) := chk (xs.length + ys.length ≤ SZ) >>= fun _ => pure (xs ++ ys)
section
variable {X : Cx} {K : Fg} {mg : Str → Option Value} {b : Bs} {L L' : List En} {E : XK} {e e1 e2 : Expr} {st : Stmt} {rest body a bb : List Stmt} {α β γ S R : Type} {pos p' p2 p3 : Pos} {tl : Ends → Prop} {post : α → Ends → Prop}
theorem ro_catL [Py α] : RO K E (rCatQ K) (fun xs ys : List α => catM xs ys) := by
  rintro xs ys v w Hi H Q s ⟨p, vs, rfl, h1, h2⟩ ⟨q, ws, rfl, g1, g2⟩ h
  obtain ⟨c, h⟩ := PX.chk h
  refine ⟨p, q, vs, ws, rfl, rfl, Same.seq s h1, Same.seq s g1, by rw [← h2.length, ← g2.length]; exact c, fun r hr => h.go (Nx.new s hr) _ ⟨r, _, rfl, .of upd_same, ?_⟩⟩
  exact (h2.app g2).mono (same_new (hi_none s hr))
theorem jf_cat [Py α] {m1 m2 : M (List α)} (h1 : JE X K b L E e1 m1) (h2 : JE X K b L E e2 m2) (hK : X.K = K := by rfl) : JF X K b L E (.BinOp e1 .Add e2 pos) (ctL K) (m1 >>= fun x => m2 >>= fun y => catM x y) :=
  ⟨fun σ Hi H en Q hq => PE.wp (pe_op (op_catQ hK) pe_wp pe_wp) (h1.go σ Hi H en _ (PX.bind hq |>.imp fun xs Hi1 H1 n1 k v rv => h2.go σ Hi1 H1 (en.nx n1) _ (PX.bind k |>.imp fun ys Hi2 H2 n2 k2 w rw => by
    obtain ⟨p, vs, rfl, h1, h2⟩ := Py.mono n2.im rv
    obtain ⟨q, ws, rfl, g1, g2⟩ := rw
    obtain ⟨c, k2⟩ := PX.chk k2
    refine ⟨p, q, vs, ws, rfl, rfl, Same.seq n2.sub h1, Same.seq n2.sub g1, by rw [← h2.length, ← g2.length]; exact c, fun r hr => ?_⟩
    have nr : H r = none := by
      cases z : H r with
      | none => rfl
      | some u => rw [(n1.al.trans n2.al) r u z] at hr; cases hr
    exact (PX.go (a := xs ++ ys) k2 (Nx.temp n2.sub hr)) r _ upd_same nr (hi_none n2.sub hr) ⟨_, rfl, h2.app g2⟩)))⟩
/-- tuple(list) -/
theorem ra_tupL [Py α] (hK : X.K = K := by rfl) : RA1 K E (fun xs H Q => ∃ p ys, xs = [.ref p] ∧ ((SqL X.K H p ys ∧ ∀ l, H l = none → Q (.ref l) (upd H l (.tup ys))) ∨ (SqT X.K H p ys ∧ Q (.ref p) H))) (fun xs : List α => (pure xs : M (Tup α))) := by
  subst hK
  rintro xs v Hi H Q s ⟨p, vs, rfl, h1, h2⟩ h
  exact ⟨p, vs, rfl, .inl ⟨Same.seq s h1, fun r hr => PX.go (α := Tup α) (a := xs) h (Nx.new s hr) _ ⟨r, _, rfl, .of upd_same, h2.mono (same_new (hi_none s hr))⟩⟩⟩
/-- list(xs), a value -/
theorem ra_lstL [Py α] (hK : X.K = K := by rfl) : RA1 K E (fun xs H Q => ∃ p ys, xs = [.ref p] ∧ (SqL X.K H p ys ∨ SqT X.K H p ys) ∧ ∀ l, H l = none → Q (.ref l) (upd H l (.lst ys))) (fun xs : List α => (pure xs : M (List α))) := by
  subst hK
  rintro xs v Hi H Q s ⟨p, vs, rfl, h1, h2⟩ h
  exact ⟨p, vs, rfl, .inl (Same.seq s h1), fun r hr => PX.go (a := xs) h (Nx.new s hr) _ ⟨r, _, rfl, .of upd_same, h2.mono (same_new (hi_none s hr))⟩⟩
theorem ra_lstU [Py α] (hK : X.K = K := by rfl) : RA1 K E (fun xs H Q => ∃ p ys, xs = [.ref p] ∧ (SqL X.K H p ys ∨ SqT X.K H p ys) ∧ ∀ l, H l = none → Q (.ref l) (upd H l (.lst ys))) (fun xs : Tup α => (pure xs : M (List α))) := by
  subst hK
  rintro xs v Hi H Q s ⟨p, vs, rfl, h1, h2⟩ h
  exact ⟨p, vs, rfl, .inr (sqt_mono s h1), fun r hr => PX.go (α := List α) (a := xs) h (Nx.new s hr) _ ⟨r, _, rfl, .of upd_same, h2.mono (same_new (hi_none s hr))⟩⟩
theorem ra_lenP [Py α] [Py β] : RA1 K E (fun xs H Q => ∃ p ys, xs = [.ref p] ∧ (SqL K H p ys ∨ SqT K H p ys) ∧ Q (.int ys.length) H) (fun _ : α × β => (pure 2 : M Int)) := by
  rintro xs v Hi H Q s ⟨p, v1, v2, rfl, h1, h2⟩ h
  exact ⟨p, _, rfl, .inr (sqt_mono s h1), h.here s _ rfl⟩
theorem ra_lenT3 [Py α] [Py β] [Py γ] : RA1 K E (fun xs H Q => ∃ p ys, xs = [.ref p] ∧ (SqL K H p ys ∨ SqT K H p ys) ∧ Q (.int ys.length) H) (fun _ : T3 α β γ => (pure 3 : M Int)) := by
  rintro xs v Hi H Q s ⟨p, v1, v2, v3, rfl, h1, h2⟩ h
  exact ⟨p, _, rfl, .inr (sqt_mono s h1), h.here s _ rfl⟩
/-- a value, or nothing -/
theorem je_some [Py α] {m : M α} (h : JE X K b L E e m) : JE X K b L E e (m >>= fun x => (pure (some x) : M (Option α))) :=
  ⟨fun σ Hi H en Q hq => h.go σ Hi H en Q ((PX.bind hq).imp fun x Hi1 H1 n1 k v rv => PX.here (a := some x) k n1.sub v rv)⟩
/-- list(xs), held -/
theorem jf_list [Py α] {m : M (List α)} (hm : mg "list" = none) (h : JE X K b L E e m) (hK : X.K = K := by rfl) (hM : X.mg = mg := by rfl)
    (hg : Gl X "list" := by rfl) (he : starEach [e] X.env = (false, eval e X.env) :: starEach [] X.env := by rfl) (hpl : (backTo pos (starEach [] X.env)).any (·.1) = false := by rfl) : JF X K b L E (.Call (.Name "list" p2) [e] [] pos) (ctL K) (m >>= fun xs => (pure xs : M (List α))) := by
  subst hK
  exact ⟨fun σ Hi H en Q hq => PE.wp (pe_callTy call_list_of hg (by rw [hM]; exact hm) bt_list (pa_cons pe_wp pa_nil he) (by decide) (by decide) he hpl) (h.go σ Hi H en _ ((PX.bind hq).imp fun xs Hi1 H1 n1 k v rv => by
    obtain ⟨p, vs, rfl, h1, h2⟩ := rv
    refine ⟨p, vs, rfl, .inl (Same.seq n1.sub h1), fun r hr => ?_⟩
    have nr : H r = none := by
      cases z : H r with
      | none => rfl
      | some u => rw [n1.al r u z] at hr; cases hr
    exact (PX.go (a := xs) k (Nx.temp n1.sub hr)) r _ upd_same nr (hi_none n1.sub hr) ⟨_, rfl, h2⟩))⟩
end
end G

set_option Elab.async false
set_option linter.all false
set_option maxRecDepth 100000
set_option maxHeartbeats 2000000
namespace G
open PySem L2 TL
/-! ### own classes: an instance is a class by its place among cs, and its fields by name; it is not changed once made -/
class PyR (α : Type) where
  prl : Fg → α → List Pr
instance : PyR Unit := ⟨fun _ _ => []⟩
instance instPyRP {α β : Type} [Py α] [PyR β] : PyR (α × β) := ⟨fun K x => rp K x.1 :: PyR.prl K x.2⟩
structure Ins (cs fs : List Str) (α : Type) where
  c : Nat
  f : α
def FvOk (H : Hp) (l : List (Str × Pr)) (kvs : List (Str × V)) : Prop := Paired (fun (q : Str × Pr) (kv : Str × V) => kv.1 = q.1 ∧ q.2.r H kv.2) l kvs
theorem FvOk.mono {H H' : Hp} {l : List (Str × Pr)} {kvs : List (Str × V)} (e : Same H H') (h : FvOk H l kvs) : FvOk H' l kvs := Paired.mapP h fun q _ r => ⟨r.1, q.2.m e r.2⟩
theorem FvOk.at {H : Hp} : ∀ {l : List (Str × Pr)} {kvs : List (Str × V)} (_ : FvOk H l kvs) {i : Nat} {f : Str} {p : Pr}, l[i]? = some (f, p) → ∃ v, kvs[i]? = some (f, v) ∧ p.r H v
  | _, _, .nil, i, f, p, e => by simp at e
  | _, kv :: _, .cons r _, 0, f, p, e => by
    simp at e; subst e
    exact ⟨kv.2, (congrArg some (Prod.ext r.1 rfl) : some kv = some (f, kv.2)), r.2⟩
  | _, _, .cons _ t, i + 1, f, p, e => by
    obtain ⟨v, h1, h2⟩ := FvOk.at t (i := i) (f := f) (p := p) (by simpa using e)
    exact ⟨v, by simpa using h1, h2⟩
theorem FvOk.keys {H : Hp} : ∀ {l : List (Str × Pr)} {kvs : List (Str × V)} (_ : FvOk H l kvs), kvs.map (·.1) = l.map (·.1)
  | _, _, .nil => rfl
  | _, _, .cons r t => by rw [List.map_cons, List.map_cons, r.1, FvOk.keys t]
theorem FvOk.length {H : Hp} {l : List (Str × Pr)} {kvs : List (Str × V)} (h : FvOk H l kvs) : l.length = kvs.length := Paired.length h
theorem lookup_at : ∀ {kvs : List (Str × V)}, (kvs.map (·.1)).Nodup → ∀ {i : Nat} {f : Str} {v : V}, kvs[i]? = some (f, v) → kvs.lookup f = some v
  | [], _, i, f, v, e => by simp at e
  | (g, x) :: r, hn, 0, f, v, e => by
    simp at e
    obtain ⟨rfl, rfl⟩ := e
    simp [List.lookup]
  | (g, x) :: r, hn, i + 1, f, v, e => by
    have hn' : g ∉ r.map (·.1) ∧ (r.map (·.1)).Nodup := List.nodup_cons.mp hn
    have e' : r[i]? = some (f, v) := by simpa using e
    have hf : f ∈ r.map (·.1) := List.mem_map.mpr ⟨(f, v), List.mem_of_getElem? e', rfl⟩
    have hne : ¬ f = g := fun z => hn'.1 (z ▸ hf)
    have hb : (f == g) = false := beq_eq_false_iff_ne.mpr hne
    simp only [List.lookup, hb]
    exact lookup_at hn'.2 e'
theorem lookup_no : ∀ {kvs : List (Str × V)} {f : Str}, f ∉ kvs.map (·.1) → kvs.lookup f = none
  | [], f, _ => rfl
  | (g, x) :: r, f, h => by
    have h1 : ¬ f = g := fun z => h (by rw [z]; exact List.mem_cons_self ..)
    have hb : (f == g) = false := beq_eq_false_iff_ne.mpr h1
    simp only [List.lookup, hb]
    exact lookup_no fun z => h (List.mem_cons_of_mem _ z)
theorem putF_new : ∀ {kvs : List (Str × V)} {f : Str} {v : V}, f ∉ kvs.map (·.1) → putF f v kvs = kvs ++ [(f, v)]
  | [], f, v, _ => rfl
  | (g, x) :: r, f, v, h => by
    have h1 : ¬ g = f := fun z => h (by rw [← z]; exact List.mem_cons_self ..)
    show (if g = f then _ else (g, x) :: putF f v r) = _
    rw [if_neg h1, putF_new fun z => h (List.mem_cons_of_mem _ z)]
    rfl
instance instPyIns {cs fs : List Str} {α : Type} [PyR α] : Py (Ins cs fs α) := ⟨fun K H x v => ∃ p nm dx kvs, v = .ref p ∧ cs[x.c]? = some nm ∧ H p = some (.ins (He.ga K nm) dx kvs) ∧ FvOk H (fs.zip (PyR.prl K x.f)) kvs,
  fun e ⟨p, nm, dx, kvs, h1, h2, h3, h4⟩ => ⟨p, nm, dx, kvs, h1, h2, e _ _ h3, h4.mono e⟩⟩
/-- an instance under way -/
def ctO (C : Addr) (l : List (Str × Pr)) : Ct := ⟨fun H o => ∃ dx kvs, o = .ins C dx kvs ∧ FvOk H l kvs, fun e ⟨dx, kvs, h1, h2⟩ => ⟨dx, kvs, h1, h2.mono e⟩⟩
/-- what the top has told of the classes -/
structure ClsF (K : Fg) (cs fs : List Str) : Prop where
  cl : ∀ nm ∈ cs, Cls K (He.ga K nm)
  no : ∀ nm ∈ cs, ∀ f ∈ fs, NoAttr K (He.ga K nm) f
structure OkM (P : Program) (w : World) (K : Fg) (mg : Str → Option Value) (base : Heap) (C : Addr) (m : Str) (k : Nat) (sp : Sp) : Prop where
  ex : ∃ f fd ps, Meth K C m f ∧ FnOk P w K mg base (L2.CX P w) k f fd ps sp ∧ Binds K fd ps []
structure OkN (P : Program) (w : World) (K : Fg) (mg : Str → Option Value) (base : Heap) (x : Str) (k : Nat) (sp : Sp) : Prop where
  g : mg x = some (.ref (He.ga K x))
  ex : ∃ f fd ps, Mk K (He.ga K x) f ∧ FnOk P w K mg base (L2.CX P w) k f fd ps sp ∧ Binds K fd ps []
def noMu' (L : List En) : Prop := ∀ (i : Nat) (w : Bool) (t : Tr), L[i]? ≠ some (.tr w t)
theorem OkM.mono {P : Program} {w : World} {K : Fg} {mg : Str → Option Value} {base : Heap} {C : Addr} {m : Str} {j k : Nat} {sp : Sp} (F : OkM P w K mg base C m j sp) (h : j ≤ k) : OkM P w K mg base C m k sp :=
  let ⟨f, fd, ps, a, b, c⟩ := F.ex
  ⟨f, fd, ps, a, b.mono h, c⟩
theorem noMu_nil : noMu' [] := fun i w c h => by simp at h
theorem noMu_im {p : Pr} {L : List En} (h : noMu' L) : noMu' (.im p :: L) := fun i w c e => by
  cases i with
  | zero => simp at e
  | succ i => exact h i w c (by simpa using e)
theorem noMu_no {L : List En} (h : noMu' L) : noMu' (.no :: L) := fun i w c e => by
  cases i with
  | zero => simp at e
  | succ i => exact h i w c (by simpa using e)
/-- isinstance of own classes -/
structure InsF (K : Fg) (x y : Str) (b : Bool) : Prop where
  ha : PySem.W.findIn K (.ref (He.ga K x)) "__class__" = some (some (.builtin "object.__class__"))
  hn : PySem.W.specialIn K (.builtin "object.__class__") "__get__" = some (some (.builtin "getset_descriptor.__get__"))
  htk : PySem.W.takesIn K (.builtin "object.__class__") = some true
  hm : PySem.W.mroIn K (He.ga K x) (.type "object") = some true
  me : PySem.W.kitOne K (.ref (He.ga K x)) (.ref (He.ga K y)) = some b
theorem insB_ok {K : Fg} {x y : Str} {b : Bool} (h : insB K x y b = true) : InsF K x y b := by
  unfold insB at h
  simp only [Bool.and_eq_true, decide_eq_true_eq] at h
  exact ⟨h.1, h.2.1, h.2.2.1, h.2.2.2.1, h.2.2.2.2⟩
/-! the Hook, widened by facts of one's own -/
theorem fx_at {fx : List (Fg → Bool)} {K : Fg} (h : (fx.all fun f => f K) = true) (i : Nat) {f : Fg → Bool} (e : fx[i]? = some f := by rfl) : f K = true := List.all_eq_true.mp h f (List.mem_of_getElem? e)

section
variable {X : Cx} {K : Fg} {mg : Str → Option Value} {b : Bs} {L : List En} {E : XK} {e : Expr} {st : Stmt} {cs fs : List Str} {α β : Type} [PyR α] [Py β] {pos p2 p3 p' : Pos} {f x : Str}
theorem je_fld {m : M (Ins cs fs α)} (i : Nat) {g : α → β} (c : ClsF K cs fs) (h : JE X K b L E e m) (hi : ∀ a, (fs.zip (PyR.prl K a))[i]? = some (f, rp K (g a)) := by intro _; rfl) (hf : f ∈ fs := by decide +kernel) (hn : fs.Nodup := by decide +kernel)
    (hl : ∀ a, (fs.zip (PyR.prl K (α := α) a)).map (·.1) = fs := by intro _; rfl) (hK : X.K = K := by rfl) (hb : attributeBase e f X.env (eval e X.env) = eval e X.env := by rfl) : JE X K b L E (.Attribute e f pos) (m >>= fun x => pure (g x.f)) := by
  subst hK
  refine .of ⟨_, pe_fld pe_wp hb, fun σ Hi H en Q h1 => h.go σ Hi H en _ (h1.bind.imp fun y Hi1 H1 n1 k v rv => ?_)⟩
  obtain ⟨p, nm, dx, kvs, rfl, h2, h3, h4⟩ := rv
  have hnm := List.mem_of_getElem? h2
  obtain ⟨u, g1, g2⟩ := h4.at (hi y.f)
  exact ⟨p, _, dx, kvs, u, rfl, n1.sub _ _ h3, c.cl nm hnm, c.no nm hnm f hf, lookup_at (by rw [h4.keys, hl]; exact hn) g1, k.here n1.sub _ g2⟩
/-! in __init__: the instance at p is under way, nothing else of the caller's is touched -/
def BsI (b : Bs) (p C : Addr) (l : List (Str × Pr)) : Prop := b.own = [] ∧ ∃ dx kvs, b.H p = some (.ins C dx kvs) ∧ FvOk b.Hi l kvs
def prR (p : Addr) : Pr := ⟨fun _ v => v = .ref p, fun _ h => h⟩
abbrev noMu (L : List En) : Prop := noMu' L
structure JN (X : Cx) (K : Fg) (p C : Addr) (L : List En) (l : List (Str × Pr)) (E : XK) (ss : List Stmt) {ρ : Type} (m : M ρ) (fin : ρ → List (Str × Pr)) : Prop where
  go : ∀ σ b, EnvOk b L σ b.Hi b.H → BsI b p C l → b.Hi p = none → ∀ D : Ends, PZ K E ⟨b.Hi, b.H, [p]⟩ m (fun r => ∀ σ' Hi' H' o', Ok ⟨b.Hi, b.H, [p]⟩ Hi' H' → H' p = some o' → Hi' p = none → (ctO C (fin r)).r Hi' o' → D.nx σ' H') → wpB X ss D σ b.H
theorem EnvOk.rebase {σ : L2.St} {b : Bs} {Hi H : Hp} (en : EnvOk b L σ Hi H) (hm : noMu L) {H2 : Hp} (sm : Same Hi H2) : EnvOk ⟨Hi, H2, []⟩ L σ Hi H2 :=
  ⟨⟨sm, Same.refl _, fun _ _ _ h => h, fun _ h => h, fun _ _ h => h⟩, en.len, en.im, fun _ => [], fun i w c h => absurd h (hm i w c), fun i _ w _ c _ _ h => absurd h (hm i w c)⟩
theorem okP {b : Bs} {p : Addr} {Hi1 H1 Hi' H' : Hp} {u : HO} (ho : b.own = []) (o : Ok b Hi1 H1) (hp : b.H p ≠ none) (o2 : Ok ⟨Hi1, upd H1 p u, [p]⟩ Hi' H') : Ok ⟨b.Hi, b.H, [p]⟩ Hi' H' where
  sub := o2.sub
  base := o.base.trans o2.base
  fr := fun a w n h => by
    have hn : a ≠ p := fun z => n (List.mem_singleton.mpr z)
    exact o2.fr a w n (by show upd H1 p u a = some w; rw [upd_ne hn]; exact o.fr a w (by rw [ho]; simp) h)
  keep := fun a h => o2.keep a (by
    show upd H1 p u a ≠ none
    by_cases hn : a = p
    · subst hn; rw [upd_same]; exact fun z => nomatch z
    · rw [upd_ne hn]; exact o.keep a h)
  cap := fun a h n => o2.cap a (by
    show upd H1 p u a ≠ none
    by_cases hn : a = p
    · subst hn; rw [upd_same]; exact fun z => nomatch z
    · rw [upd_ne hn]; exact o.keep a h) (o.cap a h n)
theorem jn_nil {p C : Addr} {l : List (Str × Pr)} {ρ : Type} {r : ρ} {fin : ρ → List (Str × Pr)} (e : fin r = l := by rfl) : JN X K p C L l E [] (pure r) fin :=
  ⟨fun σ b en ⟨h1, dx, kvs, h2, h3⟩ hp D hz => PSs.wp pss_nil (show D.nx σ b.H from hz σ b.Hi b.H _ ⟨en.ok.sub, Same.refl _, fun _ _ _ h => h, fun _ h => h, fun _ _ h => h⟩ h2 hp ⟨dx, kvs, rfl, by rw [e]; exact h3⟩)⟩
theorem PZ.pxI {ρ δ : Type} {m : M δ} {b : Bs} {p : Addr} {f : δ → M ρ} {post : ρ → Prop} (ho : b.own = []) (h : PZ K E ⟨b.Hi, b.H, [p]⟩ (m >>= f) post) : PX K E m b.Hi b.H fun a _ _ => PZ K E ⟨b.Hi, b.H, [p]⟩ (f a) post := by
  cases m with
  | ok a => exact fun _ _ _ => h
  | error e =>
    cases e with
    | rs c => exact fun Hi' H' n => h Hi' H' ⟨n.sub, n.im, fun a u _ e => n.al a u e, fun a e => some_ne n.al e, n.cap⟩
    | st => exact h
theorem PZ.base {ρ : Type} {m : M ρ} {b b' : Bs} {post post' : ρ → Prop} (k : ∀ Hi' H', Ok b' Hi' H' → Ok b Hi' H') (i : ∀ a, post a → post' a) (h : PZ K E b m post) : PZ K E b' m post' := by
  cases m with
  | ok a => exact i a h
  | error e =>
    cases e with
    | rs c => exact fun Hi' H' o => h Hi' H' (k _ _ o)
    | st => exact h
theorem jn_fld (ks : List Str) {p : Addr} {m1 : M β} {ρ : Type} {m2 : β → M ρ} {fin : ρ → List (Str × Pr)} {nm : Str} {l : List (Str × Pr)} {pn : Pos} {rest : List Stmt} (c : ClsF K cs fs) (hnm : nm ∈ cs) (h : ∀ b, BsI b p (He.ga K nm) l → JE X K b L E e m1)
    (h2 : ∀ a, JN X K p (He.ga K nm) L (l ++ [(f, rp K a)]) E rest (m2 a) fin) (hm : noMu L) (hL : L[0]? = some (.im (prR p)) := by rfl) (hks : l.map (·.1) = ks := by rfl) (hf : f ∈ fs := by decide +kernel) (hno' : f ∉ ks := by decide +kernel) (hlen' : ks.length < 100 := by decide)
    (hN : X.N[0]? = some x := by rfl) (hv : Vis X.env.scope x := by first | exact Or.inl rfl | exact Or.inr (Or.inl rfl) | exact Or.inr (Or.inr rfl)) (hK : X.K = K := by rfl) (hd : (x == ("__debug__" : Str)) = false := by decide) (hcd : (x == ("__classdict__" : Str)) = false := by decide)
    (hs : swapsWith e (some (.Attribute (.Name x pn) f p')) pos.line X.env = pure false := by rfl) : JN X K p (He.ga K nm) L l E (.Assign [.Attribute (.Name x pn) f p'] e pos :: rest) (m1 >>= fun a => m2 a) fin := by
  subst hK
  have hno : f ∉ l.map (·.1) := by rw [hks]; exact hno'
  have hlen : l.length < 100 := by rw [← List.length_map (f := fun q : Str × Pr => q.1), hks]; exact hlen'
  refine ⟨fun σ b en hb hp D hz => ?_⟩
  obtain ⟨ho, dx, kvs, h3, h4⟩ := id hb
  refine PSs.wp (pss_cons (ps_fld (pe_var hN hv hd hcd) pe_wp hs) pss_wp) ((h b hb).go σ b.Hi b.H en _ ((PZ.pxI ho hz).imp fun a Hi1 H1 n1 q v rv => ?_))
  have en1 := en.nx n1
  obtain ⟨v0, e0, e1⟩ := en.im 0 _ hL
  have e1 : v0 = V.ref p := e1
  subst e1
  have hH1 := n1.al _ _ h3
  have hp1 : Hi1 p = none := n1.cap p (by rw [h3]; exact fun z => nomatch z) hp
  refine ⟨_, e0, p, _, dx, kvs, rfl, hH1, c.cl nm hnm, c.no nm hnm f hf, by rw [← h4.length]; omega, ?_⟩
  have app : ∀ {l : List (Str × Pr)} {kvs : List (Str × V)}, FvOk Hi1 l kvs → FvOk Hi1 (l ++ [(f, rp X.K a)]) (kvs ++ [(f, v)]) := by
    intro l kvs h
    induction h with
    | nil => exact .cons ⟨rfl, rv⟩ .nil
    | cons r _ ih => exact .cons r ih
  have sm : Same Hi1 (upd H1 p (.ins (He.ga X.K nm) dx (putF f v kvs))) := fun a w e => by
    rw [upd_ne (ne_of_none e hp1)]; exact n1.sub a w e
  have hpn : b.H p ≠ none := by rw [h3]; exact fun z => nomatch z
  refine (h2 a).go σ ⟨Hi1, _, []⟩ (en1.rebase hm sm) ⟨rfl, dx, _, upd_same, ?_⟩ hp1 _ (PZ.base (fun Hi' H' o => okP ho en1.ok hpn o) (fun r z σ' Hi' H' o' o g1 g2 g3 => z σ' Hi' H' o' (okP ho en1.ok hpn o) g1 g2 g3) q)
  rw [putF_new (by rw [h4.keys]; exact hno)]
  exact app (h4.mono n1.im)
/-- self.f, in __init__ -/
theorem je_self (ks : List Str) {p : Addr} {nm : Str} {l : List (Str × Pr)} {a : β} {pn : Pos} (i : Nat) (c : ClsF K cs fs) (hnm : nm ∈ cs) (hb : BsI b p (He.ga K nm) l) (hi : l[i]? = some (f, rp K a) := by rfl) (hL : L[0]? = some (.im (prR p)) := by rfl) (hks : l.map (·.1) = ks := by rfl) (hf : f ∈ fs := by decide +kernel) (hn' : ks.Nodup := by decide +kernel)
    (hN : X.N[0]? = some x := by rfl) (hv : Vis X.env.scope x := by first | exact Or.inl rfl | exact Or.inr (Or.inl rfl) | exact Or.inr (Or.inr rfl)) (hK : X.K = K := by rfl) (hd : (x == ("__debug__" : Str)) = false := by decide) (hcd : (x == ("__classdict__" : Str)) = false := by decide)
    (hba : attributeBase (.Name x pn) f X.env (eval (.Name x pn) X.env) = eval (.Name x pn) X.env := by rfl) : JE X K b L E (.Attribute (.Name x pn) f pos) (pure a : M β) := by
  subst hK
  have hn : (l.map (·.1)).Nodup := by rw [hks]; exact hn'
  obtain ⟨ho, dx, kvs, h3, h4⟩ := hb
  refine .of ⟨_, pe_fld (pe_var hN hv hd hcd) hba, fun σ Hi H en Q h => ?_⟩
  obtain ⟨v0, e0, e1⟩ := en.im 0 _ hL
  have e1 : v0 = V.ref p := e1
  subst e1
  obtain ⟨u, g1, g2⟩ := h4.at hi
  exact ⟨_, e0, p, _, dx, kvs, u, rfl, en.ok.fr _ _ (by rw [ho]; simp) h3, c.cl nm hnm, c.no nm hnm f hf, lookup_at (by rw [h4.keys]; exact hn) g1, h.here en.sub u ((rp X.K a).m en.ok.base g2)⟩
theorem jn_st {p C : Addr} {S ρ : Type} {m1 : M S} {Lf : S → List En} {m2 : S → M ρ} {fin : ρ → List (Str × Pr)} {l : List (Str × Pr)} {st : Stmt} {rest : List Stmt} (h : ∀ b, BsI b p C l → J1 X K b L E st m1 Lf) (h2 : ∀ s, JN X K p C (Lf s) l E rest (m2 s) fin) (hm : ∀ s, noMu (Lf s)) :
    JN X K p C L l E (st :: rest) (m1 >>= fun s => m2 s) fin := by
  refine ⟨fun σ b en hb hp D hz => ?_⟩
  obtain ⟨ho, dx, kvs, h3, h4⟩ := id hb
  have hpn : b.H p ≠ none := by rw [h3]; exact fun z => nomatch z
  have lift : ∀ {Hi' H' : Hp}, Ok b Hi' H' → Ok ⟨b.Hi, b.H, [p]⟩ Hi' H' := fun {Hi' H'} o => ⟨o.sub, o.base, fun a u _ e => o.fr a u (by rw [ho]; simp) e, o.keep, o.cap⟩
  refine PSs.wp (pss_cons ps_wp pss_wp) ((h b hb).go σ b.Hi b.H en _ (PZ.base (fun Hi' H' o => lift o) (fun s q σ' Hi' H' en' => ?_) (PZ.bindz hz)))
  have hp1 : Hi' p = none := en'.ok.cap p hpn hp
  have hH : H' p = some (.ins C dx kvs) := en'.ok.fr p _ (by rw [ho]; simp) h3
  have e2 : upd H' p (.ins C dx kvs) = H' := funext fun a => by
    by_cases z : a = p
    · subst z; rw [upd_same]; exact hH.symm
    · rw [upd_ne z]
  have lift2 : ∀ {Hi2 H2 : Hp}, Ok ⟨Hi', H', [p]⟩ Hi2 H2 → Ok ⟨b.Hi, b.H, [p]⟩ Hi2 H2 := fun {Hi2 H2} o => okP (u := .ins C dx kvs) ho en'.ok hpn (by rw [e2]; exact o)
  exact (h2 s).go σ' ⟨Hi', H', []⟩ (en'.rebase (hm s) en'.ok.sub) ⟨rfl, dx, kvs, hH, h4.mono en'.ok.base⟩ hp1 D (PZ.base (fun _ _ o => lift2 o) (fun r z σ2 Hi2 H2 o' o g1 g2 g3 => z σ2 Hi2 H2 o' (lift2 o) g1 g2 g3) q)
theorem je_isiC {m : M (Ins cs fs α)} {y : Str} {bs : List Bool} (c : ClsF K cs fs) (hc : ∀ (j : Nat) (nm : Str), cs[j]? = some nm → InsF K nm y (bs.getD j false)) (hm : mg "isinstance" = none) (hm2 : mg y = some (.ref (He.ga K y))) (h : JE X K b L E e m)
    (hK : X.K = K := by rfl) (hM : X.mg = mg := by rfl) (hg : Gl X "isinstance" := by rfl) (hg2 : Gl X y := by rfl) (hd : (y == ("__debug__" : Str)) = false := by decide)
    (he : starEach [e, .Name y p2] X.env = (false, eval e X.env) :: starEach [.Name y p2] X.env := by rfl) (he2 : starEach [.Name y p2] X.env = (false, eval (.Name y p2) X.env) :: starEach [] X.env := by rfl)
    (hpl : (backTo pos (starEach [.Name y p2] X.env)).any (·.1) = false := by rfl) : JE X K b L E (.Call (.Name "isinstance" p3) [e, .Name y p2] [] pos) (m >>= fun x => (pure (bs.getD x.c false) : M Bool)) := by
  subst hK
  refine .of ⟨_, pe_callB call_isi hg (by rw [hM]; exact hm) bt_isinstance (pa_cons pe_wp (pa_cons (pe_glob (v := .ref (He.ga X.K y)) hg2 (by rw [hM]; exact hm2) rfl hd) pa_nil he2) he) (by decide) (by decide) he hpl, fun σ Hi H en Q hq => h.go σ Hi H en _ (hq.bind.imp fun a Hi1 H1 n1 q v rv => ?_)⟩
  obtain ⟨p, nm, dx, kvs, rfl, h2, h3, h4⟩ := rv
  have i := hc a.c nm h2
  exact ⟨.ref p, .ref (He.ga X.K y), .ref (He.ga X.K nm), .ref (He.ga X.K y), _, rfl, .own _, .base (.ins (n1.sub _ _ h3) (c.cl nm (List.mem_of_getElem? h2)) i.ha i.hn i.htk i.hm), i.me, q.here n1.sub _ rfl⟩
/-- isinstance of a value that is none of the own class -/
theorem rm_isupper : RM0 K E (fun x xs H Q => ∃ a, x = .str a ∧ xs = [] ∧ True ∧ Q (.bl (Txt.isupper a)) H) (fun x : Tx => (pure (Txt.isupper (S x)) : M Bool)) := by
  rintro x v Hi H Q s rfl h
  exact ⟨S x, rfl, rfl, trivial, h.here s _ rfl⟩
end
theorem nxI {Hi H0 H Hi' H' : Hp} {p : Addr} (hp0 : H0 p = none) (al : Same H0 H) (hp : H p ≠ none) (sm : Same Hi H0) (o : Ok ⟨Hi, H, [p]⟩ Hi' H') : Nx Hi H0 Hi' H' where
  im := o.base
  al := fun a u h => o.fr a u (by
    intro z
    rw [List.mem_singleton.mp z] at h
    rw [hp0] at h; cases h) (al a u h)
  sub := o.sub
  cap := fun a h n => o.cap a (some_ne al h) n
theorem nxI2 {Hi H0 H Hi' H' : Hp} {p : Addr} {u : HO} (hp0 : H0 p = none) (al : Same H0 H) (hp : H p ≠ none) (sm : Same Hi H0) (o : Ok ⟨Hi, H, [p]⟩ Hi' H') (h : H' p = some u) : Nx Hi H0 (upd Hi' p u) H' := by
  have n := nxI hp0 al hp sm o
  have hpi : Hi p = none := hi_none sm hp0
  have hpi' : Hi' p = none := o.cap p hp hpi
  refine ⟨fun a w e => ?_, n.al, fun a w e => ?_, fun a e z => ?_⟩
  · rw [upd_ne (ne_of_none e hpi)]; exact n.im a w e
  · by_cases hd : a = p
    · subst hd; rw [upd_same] at e; cases e; exact h
    · rw [upd_ne hd] at e; exact n.sub a w e
  · have hd : a ≠ p := fun y => e (by rw [y]; exact hp0)
    rw [upd_ne hd]; exact n.cap a e z
theorem mkM1 {α0 ρ : Type} [Py α0] [Py ρ] {P : Program} {w : World} {K : Fg} {mg : Str → Option Value} {base : Heap} {x q : Str} {fa : Addr} {N : List Str} {p0 : Str} {args : Arguments} {body : List Stmt} {sc : Scope} {k : Nat} {f : α0 → M ρ} {fd : FuncData} (F : FunD K x q args body sc [] [] fa fd) (S : FnScope N [p0] sc)
    (h : ∀ (cdv : Value) (A : Around) (outer : List Env) (s : Shared) (H : Hp) (E : XK), Room k (cxOf (L2.CX P w) P w K mg base N q sc fa cdv A outer s H E).A → ∀ (a0 : α0) (b : Bs), b.own = [] → JS (cxOf (L2.CX P w) P w K mg base N q sc fa cdv A outer s H E) K b ([.im (rp K a0)] ++ List.replicate (N.length - 1) .no) E body tlFn (f a0) (pRt K b)) : FnOk P w K mg base (L2.CX P w) (k + 1) fa fd [p0] (sp1 K f) := by
  refine F.ok S (fun vs H Q E hh => ?_) (fun cdv A outer s H vs Q E hr hh => ?_)
  · obtain ⟨a0, v0, Hi, rfl, _⟩ := hh
    rfl
  · obtain ⟨a0, v0, Hi, rfl, sm, r0, q⟩ := hh
    refine ⟨_, pss_wp, (h cdv A outer s H E hr a0 ⟨Hi, H, []⟩ rfl).go _ Hi H ?_ _ (fun σ' H' z => z) ?_⟩
    · exact EnvOk.start (ps := [rp K a0]) sm rfl (Paired.cons r0 Paired.nil)
    · exact PZ.of_fn q
theorem mkM2 {α0 α1 ρ : Type} [Py α0] [Py α1] [Py ρ] {P : Program} {w : World} {K : Fg} {mg : Str → Option Value} {base : Heap} {x q : Str} {fa : Addr} {N : List Str} {p0 p1 : Str} {args : Arguments} {body : List Stmt} {sc : Scope} {k : Nat} {f : α0 → α1 → M ρ} {fd : FuncData} (F : FunD K x q args body sc [] [] fa fd) (S : FnScope N [p0, p1] sc)
    (h : ∀ (cdv : Value) (A : Around) (outer : List Env) (s : Shared) (H : Hp) (E : XK), Room k (cxOf (L2.CX P w) P w K mg base N q sc fa cdv A outer s H E).A → ∀ (a0 : α0) (a1 : α1) (b : Bs), b.own = [] → JS (cxOf (L2.CX P w) P w K mg base N q sc fa cdv A outer s H E) K b ([.im (rp K a0), .im (rp K a1)] ++ List.replicate (N.length - 2) .no) E body tlFn (f a0 a1) (pRt K b)) : FnOk P w K mg base (L2.CX P w) (k + 1) fa fd [p0, p1] (sp2 K f) := by
  refine F.ok S (fun vs H Q E hh => ?_) (fun cdv A outer s H vs Q E hr hh => ?_)
  · obtain ⟨a0, a1, v0, v1, Hi, rfl, _⟩ := hh
    rfl
  · obtain ⟨a0, a1, v0, v1, Hi, rfl, sm, r0, r1, q⟩ := hh
    refine ⟨_, pss_wp, (h cdv A outer s H E hr a0 a1 ⟨Hi, H, []⟩ rfl).go _ Hi H ?_ _ (fun σ' H' z => z) ?_⟩
    · exact EnvOk.start (ps := [rp K a0, rp K a1]) sm rfl (Paired.cons r0 (Paired.cons r1 Paired.nil))
    · exact PZ.of_fn q
theorem mkM3 {α0 α1 α2 ρ : Type} [Py α0] [Py α1] [Py α2] [Py ρ] {P : Program} {w : World} {K : Fg} {mg : Str → Option Value} {base : Heap} {x q : Str} {fa : Addr} {N : List Str} {p0 p1 p2 : Str} {args : Arguments} {body : List Stmt} {sc : Scope} {k : Nat} {f : α0 → α1 → α2 → M ρ} {fd : FuncData} (F : FunD K x q args body sc [] [] fa fd) (S : FnScope N [p0, p1, p2] sc)
    (h : ∀ (cdv : Value) (A : Around) (outer : List Env) (s : Shared) (H : Hp) (E : XK), Room k (cxOf (L2.CX P w) P w K mg base N q sc fa cdv A outer s H E).A → ∀ (a0 : α0) (a1 : α1) (a2 : α2) (b : Bs), b.own = [] → JS (cxOf (L2.CX P w) P w K mg base N q sc fa cdv A outer s H E) K b ([.im (rp K a0), .im (rp K a1), .im (rp K a2)] ++ List.replicate (N.length - 3) .no) E body tlFn (f a0 a1 a2) (pRt K b)) : FnOk P w K mg base (L2.CX P w) (k + 1) fa fd [p0, p1, p2] (sp3 K f) := by
  refine F.ok S (fun vs H Q E hh => ?_) (fun cdv A outer s H vs Q E hr hh => ?_)
  · obtain ⟨a0, a1, a2, v0, v1, v2, Hi, rfl, _⟩ := hh
    rfl
  · obtain ⟨a0, a1, a2, v0, v1, v2, Hi, rfl, sm, r0, r1, r2, q⟩ := hh
    refine ⟨_, pss_wp, (h cdv A outer s H E hr a0 a1 a2 ⟨Hi, H, []⟩ rfl).go _ Hi H ?_ _ (fun σ' H' z => z) ?_⟩
    · exact EnvOk.start (ps := [rp K a0, rp K a1, rp K a2]) sm rfl (Paired.cons r0 (Paired.cons r1 (Paired.cons r2 Paired.nil)))
    · exact PZ.of_fn q
theorem mkM4 {α0 α1 α2 α3 ρ : Type} [Py α0] [Py α1] [Py α2] [Py α3] [Py ρ] {P : Program} {w : World} {K : Fg} {mg : Str → Option Value} {base : Heap} {x q : Str} {fa : Addr} {N : List Str} {p0 p1 p2 p3 : Str} {args : Arguments} {body : List Stmt} {sc : Scope} {k : Nat} {f : α0 → α1 → α2 → α3 → M ρ} {fd : FuncData} (F : FunD K x q args body sc [] [] fa fd) (S : FnScope N [p0, p1, p2, p3] sc)
    (h : ∀ (cdv : Value) (A : Around) (outer : List Env) (s : Shared) (H : Hp) (E : XK), Room k (cxOf (L2.CX P w) P w K mg base N q sc fa cdv A outer s H E).A → ∀ (a0 : α0) (a1 : α1) (a2 : α2) (a3 : α3) (b : Bs), b.own = [] → JS (cxOf (L2.CX P w) P w K mg base N q sc fa cdv A outer s H E) K b ([.im (rp K a0), .im (rp K a1), .im (rp K a2), .im (rp K a3)] ++ List.replicate (N.length - 4) .no) E body tlFn (f a0 a1 a2 a3) (pRt K b)) : FnOk P w K mg base (L2.CX P w) (k + 1) fa fd [p0, p1, p2, p3] (sp4 K f) := by
  refine F.ok S (fun vs H Q E hh => ?_) (fun cdv A outer s H vs Q E hr hh => ?_)
  · obtain ⟨a0, a1, a2, a3, v0, v1, v2, v3, Hi, rfl, _⟩ := hh
    rfl
  · obtain ⟨a0, a1, a2, a3, v0, v1, v2, v3, Hi, rfl, sm, r0, r1, r2, r3, q⟩ := hh
    refine ⟨_, pss_wp, (h cdv A outer s H E hr a0 a1 a2 a3 ⟨Hi, H, []⟩ rfl).go _ Hi H ?_ _ (fun σ' H' z => z) ?_⟩
    · exact EnvOk.start (ps := [rp K a0, rp K a1, rp K a2, rp K a3]) sm rfl (Paired.cons r0 (Paired.cons r1 (Paired.cons r2 (Paired.cons r3 Paired.nil))))
    · exact PZ.of_fn q
theorem mkM5 {α0 α1 α2 α3 α4 ρ : Type} [Py α0] [Py α1] [Py α2] [Py α3] [Py α4] [Py ρ] {P : Program} {w : World} {K : Fg} {mg : Str → Option Value} {base : Heap} {x q : Str} {fa : Addr} {N : List Str} {p0 p1 p2 p3 p4 : Str} {args : Arguments} {body : List Stmt} {sc : Scope} {k : Nat} {f : α0 → α1 → α2 → α3 → α4 → M ρ} {fd : FuncData} (F : FunD K x q args body sc [] [] fa fd) (S : FnScope N [p0, p1, p2, p3, p4] sc)
    (h : ∀ (cdv : Value) (A : Around) (outer : List Env) (s : Shared) (H : Hp) (E : XK), Room k (cxOf (L2.CX P w) P w K mg base N q sc fa cdv A outer s H E).A → ∀ (a0 : α0) (a1 : α1) (a2 : α2) (a3 : α3) (a4 : α4) (b : Bs), b.own = [] → JS (cxOf (L2.CX P w) P w K mg base N q sc fa cdv A outer s H E) K b ([.im (rp K a0), .im (rp K a1), .im (rp K a2), .im (rp K a3), .im (rp K a4)] ++ List.replicate (N.length - 5) .no) E body tlFn (f a0 a1 a2 a3 a4) (pRt K b)) : FnOk P w K mg base (L2.CX P w) (k + 1) fa fd [p0, p1, p2, p3, p4] (sp5 K f) := by
  refine F.ok S (fun vs H Q E hh => ?_) (fun cdv A outer s H vs Q E hr hh => ?_)
  · obtain ⟨a0, a1, a2, a3, a4, v0, v1, v2, v3, v4, Hi, rfl, _⟩ := hh
    rfl
  · obtain ⟨a0, a1, a2, a3, a4, v0, v1, v2, v3, v4, Hi, rfl, sm, r0, r1, r2, r3, r4, q⟩ := hh
    refine ⟨_, pss_wp, (h cdv A outer s H E hr a0 a1 a2 a3 a4 ⟨Hi, H, []⟩ rfl).go _ Hi H ?_ _ (fun σ' H' z => z) ?_⟩
    · exact EnvOk.start (ps := [rp K a0, rp K a1, rp K a2, rp K a3, rp K a4]) sm rfl (Paired.cons r0 (Paired.cons r1 (Paired.cons r2 (Paired.cons r3 (Paired.cons r4 Paired.nil)))))
    · exact PZ.of_fn q
theorem mkM6 {α0 α1 α2 α3 α4 α5 ρ : Type} [Py α0] [Py α1] [Py α2] [Py α3] [Py α4] [Py α5] [Py ρ] {P : Program} {w : World} {K : Fg} {mg : Str → Option Value} {base : Heap} {x q : Str} {fa : Addr} {N : List Str} {p0 p1 p2 p3 p4 p5 : Str} {args : Arguments} {body : List Stmt} {sc : Scope} {k : Nat} {f : α0 → α1 → α2 → α3 → α4 → α5 → M ρ} {fd : FuncData} (F : FunD K x q args body sc [] [] fa fd) (S : FnScope N [p0, p1, p2, p3, p4, p5] sc)
    (h : ∀ (cdv : Value) (A : Around) (outer : List Env) (s : Shared) (H : Hp) (E : XK), Room k (cxOf (L2.CX P w) P w K mg base N q sc fa cdv A outer s H E).A → ∀ (a0 : α0) (a1 : α1) (a2 : α2) (a3 : α3) (a4 : α4) (a5 : α5) (b : Bs), b.own = [] → JS (cxOf (L2.CX P w) P w K mg base N q sc fa cdv A outer s H E) K b ([.im (rp K a0), .im (rp K a1), .im (rp K a2), .im (rp K a3), .im (rp K a4), .im (rp K a5)] ++ List.replicate (N.length - 6) .no) E body tlFn (f a0 a1 a2 a3 a4 a5) (pRt K b)) : FnOk P w K mg base (L2.CX P w) (k + 1) fa fd [p0, p1, p2, p3, p4, p5] (sp6 K f) := by
  refine F.ok S (fun vs H Q E hh => ?_) (fun cdv A outer s H vs Q E hr hh => ?_)
  · obtain ⟨a0, a1, a2, a3, a4, a5, v0, v1, v2, v3, v4, v5, Hi, rfl, _⟩ := hh
    rfl
  · obtain ⟨a0, a1, a2, a3, a4, a5, v0, v1, v2, v3, v4, v5, Hi, rfl, sm, r0, r1, r2, r3, r4, r5, q⟩ := hh
    refine ⟨_, pss_wp, (h cdv A outer s H E hr a0 a1 a2 a3 a4 a5 ⟨Hi, H, []⟩ rfl).go _ Hi H ?_ _ (fun σ' H' z => z) ?_⟩
    · exact EnvOk.start (ps := [rp K a0, rp K a1, rp K a2, rp K a3, rp K a4, rp K a5]) sm rfl (Paired.cons r0 (Paired.cons r1 (Paired.cons r2 (Paired.cons r3 (Paired.cons r4 (Paired.cons r5 Paired.nil))))))
    · exact PZ.of_fn q
theorem je_meth0 { ρ α : Type}  [Py ρ] [PyR α] {X : Cx} {K : Fg} {b : Bs} {L : List En} {E : XK} {o  : Expr} {cs fs : List Str} {mo : M (Ins cs fs α)}  {f : Ins cs fs α → M ρ} {m nm0 : Str} {apos pos : Pos} {pl : Sem Bool} {k : Nat} (c : ClsF K cs fs) (hz : cs[0]? = some nm0) (F : ∀ (j : Nat) (nm : Str), cs[j]? = some nm → ∃ g : Ins cs fs α → M ρ, OkM X.prog X.w X.K X.mg X.base (He.ga K nm) m k (sp1 K g) ∧ ∀ x : Ins cs fs α, x.c = j → f x = g x ) (hr : Room k X.A) (hx : Passes (L2.CX X.prog X.w) X E) (ho : JE X K b L E o mo)  (hK : X.K = K := by rfl) (hno : m ∉ fs := by decide +kernel) (hl : ∀ a, (fs.zip (PyR.prl K (α := α) a)).map (·.1) = fs := by intro _; rfl)   (ht : eval (.Call (.Attribute o m apos) [] [] pos) X.env = (do
      let ov ← eval o X.env
      standAt apos.atName
      let (f, first) ← holding [ov] (getMethod ov m pl)
      callWith pos f first (backTo pos (starEach [] X.env)) (backToKw pos (keywordEach [] X.env))) := by rfl) : JE X K b L E (.Call (.Attribute o m apos) [] [] pos) (mo >>= fun x => f x) := by
  subst hK
  refine ⟨fun σ Hi H en Q hq => ?_⟩
  cases hm : mo with
  | error z =>
    obtain ⟨g, ⟨fa, fd, ps, F1, F2, F3⟩, F4⟩ := F 0 nm0 hz
    refine PE.wp (pe_meth0 (m := m) (pl := pl) pe_wp (c.cl nm0 (List.mem_of_getElem? hz)) F1 F2 hr F3 .nil hx ht) (ho.go σ Hi H en _ ?_)
    rw [hm] at hq ⊢
    cases z with
    | rs c => exact hq
    | st => exact hq.elim
  | ok x =>
    rw [hm] at hq
    cases hj : cs[x.c]? with
    | none =>
      obtain ⟨g, ⟨fa, fd, ps, F1, F2, F3⟩, F4⟩ := F 0 nm0 hz
      refine PE.wp (pe_meth0 (m := m) (pl := pl) pe_wp (c.cl nm0 (List.mem_of_getElem? hz)) F1 F2 hr F3 .nil hx ht) (ho.go σ Hi H en _ ?_)
      rw [hm]
      intro Hi0 H0 n0 v' r'
      obtain ⟨p, nm', dx, kvs, rfl, g2, g3, g4⟩ := r'
      rw [hj] at g2; cases g2
    | some nm =>
      obtain ⟨g, ⟨fa, fd, ps, F1, F2, F3⟩, F4⟩ := F x.c nm hj
      refine PE.wp (pe_meth0 (m := m) (pl := pl) pe_wp (c.cl nm (List.mem_of_getElem? hj)) F1 F2 hr F3 .nil hx ht) (ho.go σ Hi H en _ ?_)
      rw [hm]
      intro Hi0 H0 n0 v' r'
      have k0 := PX.nx n0 (show PX X.K E (f x) Hi H _ from hq)
      obtain ⟨p, nm', dx, kvs, rfl, g2, g3, g4⟩ := id r'
      have en0 := en.nx n0
      have e1 : nm' = nm := by rw [hj] at g2; exact (Option.some.inj g2).symm
      subst e1
      refine ⟨p, dx, kvs, rfl, n0.sub _ _ g3, lookup_no (by rw [g4.keys, hl]; exact hno), ?_⟩
      have kk := k0
      rw [F4 x rfl ] at kk
      exact ⟨x, .ref p, _, rfl, n0.sub, r', kk⟩
theorem je_meth1 {α0 ρ α : Type} [Py α0] [Py ρ] [PyR α] {X : Cx} {K : Fg} {b : Bs} {L : List En} {E : XK} {o e0 : Expr} {cs fs : List Str} {mo : M (Ins cs fs α)} {m0 : M α0} {f : Ins cs fs α → α0 → M ρ} {m nm0 : Str} {apos pos : Pos} {pl : Sem Bool} {k : Nat} (c : ClsF K cs fs) (hz : cs[0]? = some nm0) (F : ∀ (j : Nat) (nm : Str), cs[j]? = some nm → ∃ g : Ins cs fs α → α0 → M ρ, OkM X.prog X.w X.K X.mg X.base (He.ga K nm) m k (sp2 K g) ∧ ∀ x : Ins cs fs α, x.c = j → ∀ (a0 : α0), f x a0 = g x a0) (hr : Room k X.A) (hx : Passes (L2.CX X.prog X.w) X E) (ho : JE X K b L E o mo) (h0 : JE X K b L E e0 m0) (hK : X.K = K := by rfl) (hno : m ∉ fs := by decide +kernel) (hl : ∀ a, (fs.zip (PyR.prl K (α := α) a)).map (·.1) = fs := by intro _; rfl) (s0 : starEach [e0] X.env = (false, eval e0 X.env) :: starEach [] X.env := by rfl) (hpl : (backTo pos (starEach [] X.env)).any (·.1) = false := by rfl) (ht : eval (.Call (.Attribute o m apos) [e0] [] pos) X.env = (do
      let ov ← eval o X.env
      standAt apos.atName
      let (f, first) ← holding [ov] (getMethod ov m pl)
      callWith pos f first (backTo pos (starEach [e0] X.env)) (backToKw pos (keywordEach [] X.env))) := by rfl) : JE X K b L E (.Call (.Attribute o m apos) [e0] [] pos) (mo >>= fun x => m0 >>= fun a0 => f x a0) := by
  subst hK
  refine ⟨fun σ Hi H en Q hq => ?_⟩
  cases hm : mo with
  | error z =>
    obtain ⟨g, ⟨fa, fd, ps, F1, F2, F3⟩, F4⟩ := F 0 nm0 hz
    refine PE.wp (pe_meth (m := m) (pl := pl) pe_wp (c.cl nm0 (List.mem_of_getElem? hz)) F1 F2 hr F3 .nil hx (pa_cons pe_wp pa_nil s0) s0 hpl ht) (ho.go σ Hi H en _ ?_)
    rw [hm] at hq ⊢
    cases z with
    | rs c => exact hq
    | st => exact hq.elim
  | ok x =>
    rw [hm] at hq
    cases hj : cs[x.c]? with
    | none =>
      obtain ⟨g, ⟨fa, fd, ps, F1, F2, F3⟩, F4⟩ := F 0 nm0 hz
      refine PE.wp (pe_meth (m := m) (pl := pl) pe_wp (c.cl nm0 (List.mem_of_getElem? hz)) F1 F2 hr F3 .nil hx (pa_cons pe_wp pa_nil s0) s0 hpl ht) (ho.go σ Hi H en _ ?_)
      rw [hm]
      intro Hi0 H0 n0 v' r'
      obtain ⟨p, nm', dx, kvs, rfl, g2, g3, g4⟩ := r'
      rw [hj] at g2; cases g2
    | some nm =>
      obtain ⟨g, ⟨fa, fd, ps, F1, F2, F3⟩, F4⟩ := F x.c nm hj
      refine PE.wp (pe_meth (m := m) (pl := pl) pe_wp (c.cl nm (List.mem_of_getElem? hj)) F1 F2 hr F3 .nil hx (pa_cons pe_wp pa_nil s0) s0 hpl ht) (ho.go σ Hi H en _ ?_)
      rw [hm]
      intro Hi0 H0 n0 v' r'
      have k0 := PX.nx n0 (show PX X.K E (m0 >>= fun a0 => f x a0) Hi H _ from hq)
      obtain ⟨p, nm', dx, kvs, rfl, g2, g3, g4⟩ := id r'
      have en0 := en.nx n0
      have e1 : nm' = nm := by rw [hj] at g2; exact (Option.some.inj g2).symm
      subst e1
      refine ⟨p, dx, kvs, rfl, n0.sub _ _ g3, lookup_no (by rw [g4.keys, hl]; exact hno), ?_⟩
      refine h0.go σ Hi0 H0 en0 _ (PX.imp (PX.bind k0) fun a0 Hi1 H1 n1 k1 v0 r0 => ?_)
      have kk := k1
      rw [F4 x rfl a0] at kk
      exact ⟨x, a0, .ref p, v0, _, rfl, n1.sub, (Py.mono n1.im r'), r0, kk⟩
theorem je_meth2 {α0 α1 ρ α : Type} [Py α0] [Py α1] [Py ρ] [PyR α] {X : Cx} {K : Fg} {b : Bs} {L : List En} {E : XK} {o e0 e1 : Expr} {cs fs : List Str} {mo : M (Ins cs fs α)} {m0 : M α0} {m1 : M α1} {f : Ins cs fs α → α0 → α1 → M ρ} {m nm0 : Str} {apos pos : Pos} {pl : Sem Bool} {k : Nat} (c : ClsF K cs fs) (hz : cs[0]? = some nm0) (F : ∀ (j : Nat) (nm : Str), cs[j]? = some nm → ∃ g : Ins cs fs α → α0 → α1 → M ρ, OkM X.prog X.w X.K X.mg X.base (He.ga K nm) m k (sp3 K g) ∧ ∀ x : Ins cs fs α, x.c = j → ∀ (a0 : α0) (a1 : α1), f x a0 a1 = g x a0 a1) (hr : Room k X.A) (hx : Passes (L2.CX X.prog X.w) X E) (ho : JE X K b L E o mo) (h0 : JE X K b L E e0 m0) (h1 : JE X K b L E e1 m1) (hK : X.K = K := by rfl) (hno : m ∉ fs := by decide +kernel) (hl : ∀ a, (fs.zip (PyR.prl K (α := α) a)).map (·.1) = fs := by intro _; rfl) (s0 : starEach [e0, e1] X.env = (false, eval e0 X.env) :: starEach [e1] X.env := by rfl) (s1 : starEach [e1] X.env = (false, eval e1 X.env) :: starEach [] X.env := by rfl) (hpl : (backTo pos (starEach [e1] X.env)).any (·.1) = false := by rfl) (ht : eval (.Call (.Attribute o m apos) [e0, e1] [] pos) X.env = (do
      let ov ← eval o X.env
      standAt apos.atName
      let (f, first) ← holding [ov] (getMethod ov m pl)
      callWith pos f first (backTo pos (starEach [e0, e1] X.env)) (backToKw pos (keywordEach [] X.env))) := by rfl) : JE X K b L E (.Call (.Attribute o m apos) [e0, e1] [] pos) (mo >>= fun x => m0 >>= fun a0 => m1 >>= fun a1 => f x a0 a1) := by
  subst hK
  refine ⟨fun σ Hi H en Q hq => ?_⟩
  cases hm : mo with
  | error z =>
    obtain ⟨g, ⟨fa, fd, ps, F1, F2, F3⟩, F4⟩ := F 0 nm0 hz
    refine PE.wp (pe_meth (m := m) (pl := pl) pe_wp (c.cl nm0 (List.mem_of_getElem? hz)) F1 F2 hr F3 .nil hx (pa_cons pe_wp (pa_cons pe_wp pa_nil s1) s0) s0 hpl ht) (ho.go σ Hi H en _ ?_)
    rw [hm] at hq ⊢
    cases z with
    | rs c => exact hq
    | st => exact hq.elim
  | ok x =>
    rw [hm] at hq
    cases hj : cs[x.c]? with
    | none =>
      obtain ⟨g, ⟨fa, fd, ps, F1, F2, F3⟩, F4⟩ := F 0 nm0 hz
      refine PE.wp (pe_meth (m := m) (pl := pl) pe_wp (c.cl nm0 (List.mem_of_getElem? hz)) F1 F2 hr F3 .nil hx (pa_cons pe_wp (pa_cons pe_wp pa_nil s1) s0) s0 hpl ht) (ho.go σ Hi H en _ ?_)
      rw [hm]
      intro Hi0 H0 n0 v' r'
      obtain ⟨p, nm', dx, kvs, rfl, g2, g3, g4⟩ := r'
      rw [hj] at g2; cases g2
    | some nm =>
      obtain ⟨g, ⟨fa, fd, ps, F1, F2, F3⟩, F4⟩ := F x.c nm hj
      refine PE.wp (pe_meth (m := m) (pl := pl) pe_wp (c.cl nm (List.mem_of_getElem? hj)) F1 F2 hr F3 .nil hx (pa_cons pe_wp (pa_cons pe_wp pa_nil s1) s0) s0 hpl ht) (ho.go σ Hi H en _ ?_)
      rw [hm]
      intro Hi0 H0 n0 v' r'
      have k0 := PX.nx n0 (show PX X.K E (m0 >>= fun a0 => m1 >>= fun a1 => f x a0 a1) Hi H _ from hq)
      obtain ⟨p, nm', dx, kvs, rfl, g2, g3, g4⟩ := id r'
      have en0 := en.nx n0
      have e1 : nm' = nm := by rw [hj] at g2; exact (Option.some.inj g2).symm
      subst e1
      refine ⟨p, dx, kvs, rfl, n0.sub _ _ g3, lookup_no (by rw [g4.keys, hl]; exact hno), ?_⟩
      refine h0.go σ Hi0 H0 en0 _ (PX.imp (PX.bind k0) fun a0 Hi1 H1 n1 k1 v0 r0 => ?_)
      refine h1.go σ Hi1 H1 (en0.nx n1) _ (PX.imp (PX.bind k1) fun a1 Hi2 H2 n2 k2 v1 r1 => ?_)
      have kk := k2
      rw [F4 x rfl a0 a1] at kk
      exact ⟨x, a0, a1, .ref p, v0, v1, _, rfl, n2.sub, (Py.mono n2.im (Py.mono n1.im r')), (Py.mono n2.im r0), r1, kk⟩
theorem je_meth3 {α0 α1 α2 ρ α : Type} [Py α0] [Py α1] [Py α2] [Py ρ] [PyR α] {X : Cx} {K : Fg} {b : Bs} {L : List En} {E : XK} {o e0 e1 e2 : Expr} {cs fs : List Str} {mo : M (Ins cs fs α)} {m0 : M α0} {m1 : M α1} {m2 : M α2} {f : Ins cs fs α → α0 → α1 → α2 → M ρ} {m nm0 : Str} {apos pos : Pos} {pl : Sem Bool} {k : Nat} (c : ClsF K cs fs) (hz : cs[0]? = some nm0) (F : ∀ (j : Nat) (nm : Str), cs[j]? = some nm → ∃ g : Ins cs fs α → α0 → α1 → α2 → M ρ, OkM X.prog X.w X.K X.mg X.base (He.ga K nm) m k (sp4 K g) ∧ ∀ x : Ins cs fs α, x.c = j → ∀ (a0 : α0) (a1 : α1) (a2 : α2), f x a0 a1 a2 = g x a0 a1 a2) (hr : Room k X.A) (hx : Passes (L2.CX X.prog X.w) X E) (ho : JE X K b L E o mo) (h0 : JE X K b L E e0 m0) (h1 : JE X K b L E e1 m1) (h2 : JE X K b L E e2 m2) (hK : X.K = K := by rfl) (hno : m ∉ fs := by decide +kernel) (hl : ∀ a, (fs.zip (PyR.prl K (α := α) a)).map (·.1) = fs := by intro _; rfl) (s0 : starEach [e0, e1, e2] X.env = (false, eval e0 X.env) :: starEach [e1, e2] X.env := by rfl) (s1 : starEach [e1, e2] X.env = (false, eval e1 X.env) :: starEach [e2] X.env := by rfl) (s2 : starEach [e2] X.env = (false, eval e2 X.env) :: starEach [] X.env := by rfl) (hpl : (backTo pos (starEach [e1, e2] X.env)).any (·.1) = false := by rfl) (ht : eval (.Call (.Attribute o m apos) [e0, e1, e2] [] pos) X.env = (do
      let ov ← eval o X.env
      standAt apos.atName
      let (f, first) ← holding [ov] (getMethod ov m pl)
      callWith pos f first (backTo pos (starEach [e0, e1, e2] X.env)) (backToKw pos (keywordEach [] X.env))) := by rfl) : JE X K b L E (.Call (.Attribute o m apos) [e0, e1, e2] [] pos) (mo >>= fun x => m0 >>= fun a0 => m1 >>= fun a1 => m2 >>= fun a2 => f x a0 a1 a2) := by
  subst hK
  refine ⟨fun σ Hi H en Q hq => ?_⟩
  cases hm : mo with
  | error z =>
    obtain ⟨g, ⟨fa, fd, ps, F1, F2, F3⟩, F4⟩ := F 0 nm0 hz
    refine PE.wp (pe_meth (m := m) (pl := pl) pe_wp (c.cl nm0 (List.mem_of_getElem? hz)) F1 F2 hr F3 .nil hx (pa_cons pe_wp (pa_cons pe_wp (pa_cons pe_wp pa_nil s2) s1) s0) s0 hpl ht) (ho.go σ Hi H en _ ?_)
    rw [hm] at hq ⊢
    cases z with
    | rs c => exact hq
    | st => exact hq.elim
  | ok x =>
    rw [hm] at hq
    cases hj : cs[x.c]? with
    | none =>
      obtain ⟨g, ⟨fa, fd, ps, F1, F2, F3⟩, F4⟩ := F 0 nm0 hz
      refine PE.wp (pe_meth (m := m) (pl := pl) pe_wp (c.cl nm0 (List.mem_of_getElem? hz)) F1 F2 hr F3 .nil hx (pa_cons pe_wp (pa_cons pe_wp (pa_cons pe_wp pa_nil s2) s1) s0) s0 hpl ht) (ho.go σ Hi H en _ ?_)
      rw [hm]
      intro Hi0 H0 n0 v' r'
      obtain ⟨p, nm', dx, kvs, rfl, g2, g3, g4⟩ := r'
      rw [hj] at g2; cases g2
    | some nm =>
      obtain ⟨g, ⟨fa, fd, ps, F1, F2, F3⟩, F4⟩ := F x.c nm hj
      refine PE.wp (pe_meth (m := m) (pl := pl) pe_wp (c.cl nm (List.mem_of_getElem? hj)) F1 F2 hr F3 .nil hx (pa_cons pe_wp (pa_cons pe_wp (pa_cons pe_wp pa_nil s2) s1) s0) s0 hpl ht) (ho.go σ Hi H en _ ?_)
      rw [hm]
      intro Hi0 H0 n0 v' r'
      have k0 := PX.nx n0 (show PX X.K E (m0 >>= fun a0 => m1 >>= fun a1 => m2 >>= fun a2 => f x a0 a1 a2) Hi H _ from hq)
      obtain ⟨p, nm', dx, kvs, rfl, g2, g3, g4⟩ := id r'
      have en0 := en.nx n0
      have e1 : nm' = nm := by rw [hj] at g2; exact (Option.some.inj g2).symm
      subst e1
      refine ⟨p, dx, kvs, rfl, n0.sub _ _ g3, lookup_no (by rw [g4.keys, hl]; exact hno), ?_⟩
      refine h0.go σ Hi0 H0 en0 _ (PX.imp (PX.bind k0) fun a0 Hi1 H1 n1 k1 v0 r0 => ?_)
      refine h1.go σ Hi1 H1 (en0.nx n1) _ (PX.imp (PX.bind k1) fun a1 Hi2 H2 n2 k2 v1 r1 => ?_)
      refine h2.go σ Hi2 H2 ((en0.nx n1).nx n2) _ (PX.imp (PX.bind k2) fun a2 Hi3 H3 n3 k3 v2 r2 => ?_)
      have kk := k3
      rw [F4 x rfl a0 a1 a2] at kk
      exact ⟨x, a0, a1, a2, .ref p, v0, v1, v2, _, rfl, n3.sub, (Py.mono n3.im (Py.mono n2.im (Py.mono n1.im r'))), (Py.mono n3.im (Py.mono n2.im r0)), (Py.mono n3.im r1), r2, kk⟩
def spI1 (K : Fg) {α0 ρ : Type} [Py α0] [PyR ρ] (cs fs : List Str) (f : α0 → M ρ) : Sp := fun vs H Q E => ∃ (a0 : α0) (v0 : V) (Hi : Hp) (p dx : Addr) (nm : Str), vs = [.ref p, v0] ∧ Same Hi H ∧ Hi p = none ∧ nm ∈ cs ∧ H p = some (.ins (He.ga K nm) dx []) ∧ Py.rep K Hi a0 v0 ∧ PZ K E ⟨Hi, H, [p]⟩ (f a0) (fun r => ∀ Hi' H' o', Ok ⟨Hi, H, [p]⟩ Hi' H' → H' p = some o' → Hi' p = none → (ctO (He.ga K nm) (fs.zip (PyR.prl K r))).r Hi' o' → Q .non H')
theorem mkI1 {α0 ρ : Type} [Py α0] [PyR ρ] {P : Program} {w : World} {K : Fg} {mg : Str → Option Value} {base : Heap} {x q : Str} {fa : Addr} {N : List Str} {p0 p1 : Str} {args : Arguments} {body : List Stmt} {sc : Scope} {k : Nat} {cs fs : List Str} {f : α0 → M ρ} {fd : FuncData} (F : FunD K x q args body sc [] [] fa fd) (S : FnScope N [p0, p1] sc)
    (h : ∀ (cdv : Value) (A : Around) (outer : List Env) (s : Shared) (H : Hp) (E : XK), Room k (cxOf (L2.CX P w) P w K mg base N q sc fa cdv A outer s H E).A → ∀ (nm : Str) (p : Addr), nm ∈ cs → ∀ (a0 : α0), JN (cxOf (L2.CX P w) P w K mg base N q sc fa cdv A outer s H E) K p (He.ga K nm) ([.im (prR p), .im (rp K a0)] ++ List.replicate (N.length - 2) .no) [] E body (f a0) (fun r => fs.zip (PyR.prl K r))) : FnOk P w K mg base (L2.CX P w) (k + 1) fa fd [p0, p1] (spI1 K cs fs f) := by
  refine F.ok S (fun vs H Q E hh => ?_) (fun cdv A outer s H vs Q E hr hh => ?_)
  · obtain ⟨a0, v0, Hi, p, dx, nm, rfl, _⟩ := hh
    rfl
  · obtain ⟨a0, v0, Hi, p, dx, nm, rfl, sm, hp0, hnm, hp, r0, q⟩ := hh
    exact ⟨_, pss_wp, (h cdv A outer s H E hr nm p hnm a0).go _ ⟨Hi, H, []⟩ (EnvOk.start (ps := [prR p, rp K a0]) sm rfl (Paired.cons rfl (Paired.cons r0 Paired.nil))) ⟨rfl, dx, [], hp, .nil⟩ hp0 _ (PZ.imp q fun r z σ' Hi' H' o' g1 g2 g3 g4 => z Hi' H' o' g1 g2 g3 g4)⟩
theorem je_new1 {α0 ρ : Type} [Py α0] [PyR ρ] {X : Cx} {K : Fg} {b : Bs} {L : List En} {E : XK} {e0 : Expr} {cs fs : List Str} {m0 : M α0} {f : α0 → M ρ} {x : Str} {p pos : Pos} {k : Nat} (j : Nat) (hj : cs[j]? = some x) (F : OkN X.prog X.w X.K X.mg X.base x k (spI1 K cs fs f)) (hr : Room (k + 1) X.A) (hx : Passes (L2.CX X.prog X.w) X E) (h0 : JE X K b L E e0 m0) (hK : X.K = K := by rfl) (hg : Gl X x := by rfl) (hdb : (x == ("__debug__" : Str)) = false := by decide) (s0 : starEach [e0] X.env = (false, eval e0 X.env) :: starEach [] X.env := by rfl) (hpl : (backTo pos (starEach [] X.env)).any (·.1) = false := by rfl) : JE X K b L E (.Call (.Name x p) [e0] [] pos) (m0 >>= fun a0 => f a0 >>= fun r => (pure ⟨j, r⟩ : M (Ins cs fs ρ))) := by
  subst hK
  obtain ⟨fa, fd, ps, F1, F2, F3⟩ := F.ex
  refine ⟨fun σ Hi H en Q hq => PE.wp (pe_make F1 F2 hr hg F.g F3 .nil hx (pa_cons pe_wp pa_nil s0) hdb s0 hpl) ?_⟩
  refine h0.go σ Hi H en _ (PX.imp (PX.bind hq) fun a0 Hi1 H1 n1 k1 v0 r0 => ?_)
  intro y dx hy hdx hne
  have sm := n1.sub
  have al : Same H1 (upd (upd H1 dx (.own y)) y (.ins (He.ga X.K x) dx [])) := (same_new hdx).trans (same_new (by rw [upd_ne (Ne.symm hne)]; exact hy))
  refine ⟨a0, v0, Hi1, y, dx, x, rfl, sm.trans al, hi_none sm hy, List.mem_of_getElem? hj, upd_same, r0, ?_⟩
  have hpn : (upd (upd H1 dx (.own y)) y (.ins (He.ga X.K x) dx [])) y ≠ none := by rw [upd_same]; exact fun z => nomatch z
  have kk := k1
  cases hf : f a0 with
  | error z =>
    rw [hf] at kk
    cases z with
    | rs c => exact fun Hi' H' o => kk Hi' H' (nxI hy al hpn sm o)
    | st => exact kk.elim
  | ok r =>
    rw [hf] at kk
    intro Hi' H' o' o g1 g2 g3
    obtain ⟨dx', kvs, rfl, g4⟩ := g3
    exact ⟨rfl, kk _ H' (nxI2 hy al hpn sm o g1) (.ref y) ⟨y, x, dx', kvs, rfl, hj, upd_same, g4.mono (same_new g2)⟩⟩
def spI2 (K : Fg) {α0 α1 ρ : Type} [Py α0] [Py α1] [PyR ρ] (cs fs : List Str) (f : α0 → α1 → M ρ) : Sp := fun vs H Q E => ∃ (a0 : α0) (a1 : α1) (v0 v1 : V) (Hi : Hp) (p dx : Addr) (nm : Str), vs = [.ref p, v0, v1] ∧ Same Hi H ∧ Hi p = none ∧ nm ∈ cs ∧ H p = some (.ins (He.ga K nm) dx []) ∧ Py.rep K Hi a0 v0 ∧ Py.rep K Hi a1 v1 ∧ PZ K E ⟨Hi, H, [p]⟩ (f a0 a1) (fun r => ∀ Hi' H' o', Ok ⟨Hi, H, [p]⟩ Hi' H' → H' p = some o' → Hi' p = none → (ctO (He.ga K nm) (fs.zip (PyR.prl K r))).r Hi' o' → Q .non H')
theorem mkI2 {α0 α1 ρ : Type} [Py α0] [Py α1] [PyR ρ] {P : Program} {w : World} {K : Fg} {mg : Str → Option Value} {base : Heap} {x q : Str} {fa : Addr} {N : List Str} {p0 p1 p2 : Str} {args : Arguments} {body : List Stmt} {sc : Scope} {k : Nat} {cs fs : List Str} {f : α0 → α1 → M ρ} {fd : FuncData} (F : FunD K x q args body sc [] [] fa fd) (S : FnScope N [p0, p1, p2] sc)
    (h : ∀ (cdv : Value) (A : Around) (outer : List Env) (s : Shared) (H : Hp) (E : XK), Room k (cxOf (L2.CX P w) P w K mg base N q sc fa cdv A outer s H E).A → ∀ (nm : Str) (p : Addr), nm ∈ cs → ∀ (a0 : α0) (a1 : α1), JN (cxOf (L2.CX P w) P w K mg base N q sc fa cdv A outer s H E) K p (He.ga K nm) ([.im (prR p), .im (rp K a0), .im (rp K a1)] ++ List.replicate (N.length - 3) .no) [] E body (f a0 a1) (fun r => fs.zip (PyR.prl K r))) : FnOk P w K mg base (L2.CX P w) (k + 1) fa fd [p0, p1, p2] (spI2 K cs fs f) := by
  refine F.ok S (fun vs H Q E hh => ?_) (fun cdv A outer s H vs Q E hr hh => ?_)
  · obtain ⟨a0, a1, v0, v1, Hi, p, dx, nm, rfl, _⟩ := hh
    rfl
  · obtain ⟨a0, a1, v0, v1, Hi, p, dx, nm, rfl, sm, hp0, hnm, hp, r0, r1, q⟩ := hh
    exact ⟨_, pss_wp, (h cdv A outer s H E hr nm p hnm a0 a1).go _ ⟨Hi, H, []⟩ (EnvOk.start (ps := [prR p, rp K a0, rp K a1]) sm rfl (Paired.cons rfl (Paired.cons r0 (Paired.cons r1 Paired.nil)))) ⟨rfl, dx, [], hp, .nil⟩ hp0 _ (PZ.imp q fun r z σ' Hi' H' o' g1 g2 g3 g4 => z Hi' H' o' g1 g2 g3 g4)⟩
theorem je_new2 {α0 α1 ρ : Type} [Py α0] [Py α1] [PyR ρ] {X : Cx} {K : Fg} {b : Bs} {L : List En} {E : XK} {e0 e1 : Expr} {cs fs : List Str} {m0 : M α0} {m1 : M α1} {f : α0 → α1 → M ρ} {x : Str} {p pos : Pos} {k : Nat} (j : Nat) (hj : cs[j]? = some x) (F : OkN X.prog X.w X.K X.mg X.base x k (spI2 K cs fs f)) (hr : Room (k + 1) X.A) (hx : Passes (L2.CX X.prog X.w) X E) (h0 : JE X K b L E e0 m0) (h1 : JE X K b L E e1 m1) (hK : X.K = K := by rfl) (hg : Gl X x := by rfl) (hdb : (x == ("__debug__" : Str)) = false := by decide) (s0 : starEach [e0, e1] X.env = (false, eval e0 X.env) :: starEach [e1] X.env := by rfl) (s1 : starEach [e1] X.env = (false, eval e1 X.env) :: starEach [] X.env := by rfl) (hpl : (backTo pos (starEach [e1] X.env)).any (·.1) = false := by rfl) : JE X K b L E (.Call (.Name x p) [e0, e1] [] pos) (m0 >>= fun a0 => m1 >>= fun a1 => f a0 a1 >>= fun r => (pure ⟨j, r⟩ : M (Ins cs fs ρ))) := by
  subst hK
  obtain ⟨fa, fd, ps, F1, F2, F3⟩ := F.ex
  refine ⟨fun σ Hi H en Q hq => PE.wp (pe_make F1 F2 hr hg F.g F3 .nil hx (pa_cons pe_wp (pa_cons pe_wp pa_nil s1) s0) hdb s0 hpl) ?_⟩
  refine h0.go σ Hi H en _ (PX.imp (PX.bind hq) fun a0 Hi1 H1 n1 k1 v0 r0 => ?_)
  refine h1.go σ Hi1 H1 (en.nx n1) _ (PX.imp (PX.bind k1) fun a1 Hi2 H2 n2 k2 v1 r1 => ?_)
  intro y dx hy hdx hne
  have sm := n2.sub
  have al : Same H2 (upd (upd H2 dx (.own y)) y (.ins (He.ga X.K x) dx [])) := (same_new hdx).trans (same_new (by rw [upd_ne (Ne.symm hne)]; exact hy))
  refine ⟨a0, a1, v0, v1, Hi2, y, dx, x, rfl, sm.trans al, hi_none sm hy, List.mem_of_getElem? hj, upd_same, (Py.mono n2.im r0), r1, ?_⟩
  have hpn : (upd (upd H2 dx (.own y)) y (.ins (He.ga X.K x) dx [])) y ≠ none := by rw [upd_same]; exact fun z => nomatch z
  have kk := k2
  cases hf : f a0 a1 with
  | error z =>
    rw [hf] at kk
    cases z with
    | rs c => exact fun Hi' H' o => kk Hi' H' (nxI hy al hpn sm o)
    | st => exact kk.elim
  | ok r =>
    rw [hf] at kk
    intro Hi' H' o' o g1 g2 g3
    obtain ⟨dx', kvs, rfl, g4⟩ := g3
    exact ⟨rfl, kk _ H' (nxI2 hy al hpn sm o g1) (.ref y) ⟨y, x, dx', kvs, rfl, hj, upd_same, g4.mono (same_new g2)⟩⟩
def spI3 (K : Fg) {α0 α1 α2 ρ : Type} [Py α0] [Py α1] [Py α2] [PyR ρ] (cs fs : List Str) (f : α0 → α1 → α2 → M ρ) : Sp := fun vs H Q E => ∃ (a0 : α0) (a1 : α1) (a2 : α2) (v0 v1 v2 : V) (Hi : Hp) (p dx : Addr) (nm : Str), vs = [.ref p, v0, v1, v2] ∧ Same Hi H ∧ Hi p = none ∧ nm ∈ cs ∧ H p = some (.ins (He.ga K nm) dx []) ∧ Py.rep K Hi a0 v0 ∧ Py.rep K Hi a1 v1 ∧ Py.rep K Hi a2 v2 ∧ PZ K E ⟨Hi, H, [p]⟩ (f a0 a1 a2) (fun r => ∀ Hi' H' o', Ok ⟨Hi, H, [p]⟩ Hi' H' → H' p = some o' → Hi' p = none → (ctO (He.ga K nm) (fs.zip (PyR.prl K r))).r Hi' o' → Q .non H')
theorem mkI3 {α0 α1 α2 ρ : Type} [Py α0] [Py α1] [Py α2] [PyR ρ] {P : Program} {w : World} {K : Fg} {mg : Str → Option Value} {base : Heap} {x q : Str} {fa : Addr} {N : List Str} {p0 p1 p2 p3 : Str} {args : Arguments} {body : List Stmt} {sc : Scope} {k : Nat} {cs fs : List Str} {f : α0 → α1 → α2 → M ρ} {fd : FuncData} (F : FunD K x q args body sc [] [] fa fd) (S : FnScope N [p0, p1, p2, p3] sc)
    (h : ∀ (cdv : Value) (A : Around) (outer : List Env) (s : Shared) (H : Hp) (E : XK), Room k (cxOf (L2.CX P w) P w K mg base N q sc fa cdv A outer s H E).A → ∀ (nm : Str) (p : Addr), nm ∈ cs → ∀ (a0 : α0) (a1 : α1) (a2 : α2), JN (cxOf (L2.CX P w) P w K mg base N q sc fa cdv A outer s H E) K p (He.ga K nm) ([.im (prR p), .im (rp K a0), .im (rp K a1), .im (rp K a2)] ++ List.replicate (N.length - 4) .no) [] E body (f a0 a1 a2) (fun r => fs.zip (PyR.prl K r))) : FnOk P w K mg base (L2.CX P w) (k + 1) fa fd [p0, p1, p2, p3] (spI3 K cs fs f) := by
  refine F.ok S (fun vs H Q E hh => ?_) (fun cdv A outer s H vs Q E hr hh => ?_)
  · obtain ⟨a0, a1, a2, v0, v1, v2, Hi, p, dx, nm, rfl, _⟩ := hh
    rfl
  · obtain ⟨a0, a1, a2, v0, v1, v2, Hi, p, dx, nm, rfl, sm, hp0, hnm, hp, r0, r1, r2, q⟩ := hh
    exact ⟨_, pss_wp, (h cdv A outer s H E hr nm p hnm a0 a1 a2).go _ ⟨Hi, H, []⟩ (EnvOk.start (ps := [prR p, rp K a0, rp K a1, rp K a2]) sm rfl (Paired.cons rfl (Paired.cons r0 (Paired.cons r1 (Paired.cons r2 Paired.nil))))) ⟨rfl, dx, [], hp, .nil⟩ hp0 _ (PZ.imp q fun r z σ' Hi' H' o' g1 g2 g3 g4 => z Hi' H' o' g1 g2 g3 g4)⟩
theorem je_new3 {α0 α1 α2 ρ : Type} [Py α0] [Py α1] [Py α2] [PyR ρ] {X : Cx} {K : Fg} {b : Bs} {L : List En} {E : XK} {e0 e1 e2 : Expr} {cs fs : List Str} {m0 : M α0} {m1 : M α1} {m2 : M α2} {f : α0 → α1 → α2 → M ρ} {x : Str} {p pos : Pos} {k : Nat} (j : Nat) (hj : cs[j]? = some x) (F : OkN X.prog X.w X.K X.mg X.base x k (spI3 K cs fs f)) (hr : Room (k + 1) X.A) (hx : Passes (L2.CX X.prog X.w) X E) (h0 : JE X K b L E e0 m0) (h1 : JE X K b L E e1 m1) (h2 : JE X K b L E e2 m2) (hK : X.K = K := by rfl) (hg : Gl X x := by rfl) (hdb : (x == ("__debug__" : Str)) = false := by decide) (s0 : starEach [e0, e1, e2] X.env = (false, eval e0 X.env) :: starEach [e1, e2] X.env := by rfl) (s1 : starEach [e1, e2] X.env = (false, eval e1 X.env) :: starEach [e2] X.env := by rfl) (s2 : starEach [e2] X.env = (false, eval e2 X.env) :: starEach [] X.env := by rfl) (hpl : (backTo pos (starEach [e1, e2] X.env)).any (·.1) = false := by rfl) : JE X K b L E (.Call (.Name x p) [e0, e1, e2] [] pos) (m0 >>= fun a0 => m1 >>= fun a1 => m2 >>= fun a2 => f a0 a1 a2 >>= fun r => (pure ⟨j, r⟩ : M (Ins cs fs ρ))) := by
  subst hK
  obtain ⟨fa, fd, ps, F1, F2, F3⟩ := F.ex
  refine ⟨fun σ Hi H en Q hq => PE.wp (pe_make F1 F2 hr hg F.g F3 .nil hx (pa_cons pe_wp (pa_cons pe_wp (pa_cons pe_wp pa_nil s2) s1) s0) hdb s0 hpl) ?_⟩
  refine h0.go σ Hi H en _ (PX.imp (PX.bind hq) fun a0 Hi1 H1 n1 k1 v0 r0 => ?_)
  refine h1.go σ Hi1 H1 (en.nx n1) _ (PX.imp (PX.bind k1) fun a1 Hi2 H2 n2 k2 v1 r1 => ?_)
  refine h2.go σ Hi2 H2 ((en.nx n1).nx n2) _ (PX.imp (PX.bind k2) fun a2 Hi3 H3 n3 k3 v2 r2 => ?_)
  intro y dx hy hdx hne
  have sm := n3.sub
  have al : Same H3 (upd (upd H3 dx (.own y)) y (.ins (He.ga X.K x) dx [])) := (same_new hdx).trans (same_new (by rw [upd_ne (Ne.symm hne)]; exact hy))
  refine ⟨a0, a1, a2, v0, v1, v2, Hi3, y, dx, x, rfl, sm.trans al, hi_none sm hy, List.mem_of_getElem? hj, upd_same, (Py.mono n3.im (Py.mono n2.im r0)), (Py.mono n3.im r1), r2, ?_⟩
  have hpn : (upd (upd H3 dx (.own y)) y (.ins (He.ga X.K x) dx [])) y ≠ none := by rw [upd_same]; exact fun z => nomatch z
  have kk := k3
  cases hf : f a0 a1 a2 with
  | error z =>
    rw [hf] at kk
    cases z with
    | rs c => exact fun Hi' H' o => kk Hi' H' (nxI hy al hpn sm o)
    | st => exact kk.elim
  | ok r =>
    rw [hf] at kk
    intro Hi' H' o' o g1 g2 g3
    obtain ⟨dx', kvs, rfl, g4⟩ := g3
    exact ⟨rfl, kk _ H' (nxI2 hy al hpn sm o g1) (.ref y) ⟨y, x, dx', kvs, rfl, hj, upd_same, g4.mono (same_new g2)⟩⟩
def spI4 (K : Fg) {α0 α1 α2 α3 ρ : Type} [Py α0] [Py α1] [Py α2] [Py α3] [PyR ρ] (cs fs : List Str) (f : α0 → α1 → α2 → α3 → M ρ) : Sp := fun vs H Q E => ∃ (a0 : α0) (a1 : α1) (a2 : α2) (a3 : α3) (v0 v1 v2 v3 : V) (Hi : Hp) (p dx : Addr) (nm : Str), vs = [.ref p, v0, v1, v2, v3] ∧ Same Hi H ∧ Hi p = none ∧ nm ∈ cs ∧ H p = some (.ins (He.ga K nm) dx []) ∧ Py.rep K Hi a0 v0 ∧ Py.rep K Hi a1 v1 ∧ Py.rep K Hi a2 v2 ∧ Py.rep K Hi a3 v3 ∧ PZ K E ⟨Hi, H, [p]⟩ (f a0 a1 a2 a3) (fun r => ∀ Hi' H' o', Ok ⟨Hi, H, [p]⟩ Hi' H' → H' p = some o' → Hi' p = none → (ctO (He.ga K nm) (fs.zip (PyR.prl K r))).r Hi' o' → Q .non H')
theorem mkI4 {α0 α1 α2 α3 ρ : Type} [Py α0] [Py α1] [Py α2] [Py α3] [PyR ρ] {P : Program} {w : World} {K : Fg} {mg : Str → Option Value} {base : Heap} {x q : Str} {fa : Addr} {N : List Str} {p0 p1 p2 p3 p4 : Str} {args : Arguments} {body : List Stmt} {sc : Scope} {k : Nat} {cs fs : List Str} {f : α0 → α1 → α2 → α3 → M ρ} {fd : FuncData} (F : FunD K x q args body sc [] [] fa fd) (S : FnScope N [p0, p1, p2, p3, p4] sc)
    (h : ∀ (cdv : Value) (A : Around) (outer : List Env) (s : Shared) (H : Hp) (E : XK), Room k (cxOf (L2.CX P w) P w K mg base N q sc fa cdv A outer s H E).A → ∀ (nm : Str) (p : Addr), nm ∈ cs → ∀ (a0 : α0) (a1 : α1) (a2 : α2) (a3 : α3), JN (cxOf (L2.CX P w) P w K mg base N q sc fa cdv A outer s H E) K p (He.ga K nm) ([.im (prR p), .im (rp K a0), .im (rp K a1), .im (rp K a2), .im (rp K a3)] ++ List.replicate (N.length - 5) .no) [] E body (f a0 a1 a2 a3) (fun r => fs.zip (PyR.prl K r))) : FnOk P w K mg base (L2.CX P w) (k + 1) fa fd [p0, p1, p2, p3, p4] (spI4 K cs fs f) := by
  refine F.ok S (fun vs H Q E hh => ?_) (fun cdv A outer s H vs Q E hr hh => ?_)
  · obtain ⟨a0, a1, a2, a3, v0, v1, v2, v3, Hi, p, dx, nm, rfl, _⟩ := hh
    rfl
  · obtain ⟨a0, a1, a2, a3, v0, v1, v2, v3, Hi, p, dx, nm, rfl, sm, hp0, hnm, hp, r0, r1, r2, r3, q⟩ := hh
    exact ⟨_, pss_wp, (h cdv A outer s H E hr nm p hnm a0 a1 a2 a3).go _ ⟨Hi, H, []⟩ (EnvOk.start (ps := [prR p, rp K a0, rp K a1, rp K a2, rp K a3]) sm rfl (Paired.cons rfl (Paired.cons r0 (Paired.cons r1 (Paired.cons r2 (Paired.cons r3 Paired.nil)))))) ⟨rfl, dx, [], hp, .nil⟩ hp0 _ (PZ.imp q fun r z σ' Hi' H' o' g1 g2 g3 g4 => z Hi' H' o' g1 g2 g3 g4)⟩
theorem je_new4 {α0 α1 α2 α3 ρ : Type} [Py α0] [Py α1] [Py α2] [Py α3] [PyR ρ] {X : Cx} {K : Fg} {b : Bs} {L : List En} {E : XK} {e0 e1 e2 e3 : Expr} {cs fs : List Str} {m0 : M α0} {m1 : M α1} {m2 : M α2} {m3 : M α3} {f : α0 → α1 → α2 → α3 → M ρ} {x : Str} {p pos : Pos} {k : Nat} (j : Nat) (hj : cs[j]? = some x) (F : OkN X.prog X.w X.K X.mg X.base x k (spI4 K cs fs f)) (hr : Room (k + 1) X.A) (hx : Passes (L2.CX X.prog X.w) X E) (h0 : JE X K b L E e0 m0) (h1 : JE X K b L E e1 m1) (h2 : JE X K b L E e2 m2) (h3 : JE X K b L E e3 m3) (hK : X.K = K := by rfl) (hg : Gl X x := by rfl) (hdb : (x == ("__debug__" : Str)) = false := by decide) (s0 : starEach [e0, e1, e2, e3] X.env = (false, eval e0 X.env) :: starEach [e1, e2, e3] X.env := by rfl) (s1 : starEach [e1, e2, e3] X.env = (false, eval e1 X.env) :: starEach [e2, e3] X.env := by rfl) (s2 : starEach [e2, e3] X.env = (false, eval e2 X.env) :: starEach [e3] X.env := by rfl) (s3 : starEach [e3] X.env = (false, eval e3 X.env) :: starEach [] X.env := by rfl) (hpl : (backTo pos (starEach [e1, e2, e3] X.env)).any (·.1) = false := by rfl) : JE X K b L E (.Call (.Name x p) [e0, e1, e2, e3] [] pos) (m0 >>= fun a0 => m1 >>= fun a1 => m2 >>= fun a2 => m3 >>= fun a3 => f a0 a1 a2 a3 >>= fun r => (pure ⟨j, r⟩ : M (Ins cs fs ρ))) := by
  subst hK
  obtain ⟨fa, fd, ps, F1, F2, F3⟩ := F.ex
  refine ⟨fun σ Hi H en Q hq => PE.wp (pe_make F1 F2 hr hg F.g F3 .nil hx (pa_cons pe_wp (pa_cons pe_wp (pa_cons pe_wp (pa_cons pe_wp pa_nil s3) s2) s1) s0) hdb s0 hpl) ?_⟩
  refine h0.go σ Hi H en _ (PX.imp (PX.bind hq) fun a0 Hi1 H1 n1 k1 v0 r0 => ?_)
  refine h1.go σ Hi1 H1 (en.nx n1) _ (PX.imp (PX.bind k1) fun a1 Hi2 H2 n2 k2 v1 r1 => ?_)
  refine h2.go σ Hi2 H2 ((en.nx n1).nx n2) _ (PX.imp (PX.bind k2) fun a2 Hi3 H3 n3 k3 v2 r2 => ?_)
  refine h3.go σ Hi3 H3 (((en.nx n1).nx n2).nx n3) _ (PX.imp (PX.bind k3) fun a3 Hi4 H4 n4 k4 v3 r3 => ?_)
  intro y dx hy hdx hne
  have sm := n4.sub
  have al : Same H4 (upd (upd H4 dx (.own y)) y (.ins (He.ga X.K x) dx [])) := (same_new hdx).trans (same_new (by rw [upd_ne (Ne.symm hne)]; exact hy))
  refine ⟨a0, a1, a2, a3, v0, v1, v2, v3, Hi4, y, dx, x, rfl, sm.trans al, hi_none sm hy, List.mem_of_getElem? hj, upd_same, (Py.mono n4.im (Py.mono n3.im (Py.mono n2.im r0))), (Py.mono n4.im (Py.mono n3.im r1)), (Py.mono n4.im r2), r3, ?_⟩
  have hpn : (upd (upd H4 dx (.own y)) y (.ins (He.ga X.K x) dx [])) y ≠ none := by rw [upd_same]; exact fun z => nomatch z
  have kk := k4
  cases hf : f a0 a1 a2 a3 with
  | error z =>
    rw [hf] at kk
    cases z with
    | rs c => exact fun Hi' H' o => kk Hi' H' (nxI hy al hpn sm o)
    | st => exact kk.elim
  | ok r =>
    rw [hf] at kk
    intro Hi' H' o' o g1 g2 g3
    obtain ⟨dx', kvs, rfl, g4⟩ := g3
    exact ⟨rfl, kk _ H' (nxI2 hy al hpn sm o g1) (.ref y) ⟨y, x, dx', kvs, rfl, hj, upd_same, g4.mono (same_new g2)⟩⟩
end G

set_option Elab.async false
set_option linter.all false
set_option maxRecDepth 100000
set_option maxHeartbeats 2000000
namespace G
open PySem L2 TL
section
variable {X : Cx} {K : Fg} {mg : Str → Option Value} {b : Bs} {L L' : List En} {E : XK} {e e1 e2 : Expr} {st : Stmt} {rest body a bb : List Stmt} {α β γ S R : Type} {pos p' p2 p3 p4 : Pos} {tl : Ends → Prop} {post : α → Ends → Prop}
/-! what a name holds alone, read for a while -/
theorem nx_thaw {Hi Hi1 H Hi' H' : Hp} (s : Same Hi Hi1) (n : Nx Hi1 H Hi' H') : Nx Hi H Hi H' := ⟨Same.refl _, n.al, (s.trans n.im).trans n.sub, fun _ _ h => h⟩
theorem PX.thaw {k : α → Hp → Prop} {m : M α} {Hi Hi1 H : Hp} (s : Same Hi Hi1) (h : PX K E m Hi H fun a _ H' => k a H') : PX K E m Hi1 H fun a _ H' => k a H' := by
  cases m with
  | ok a => exact fun Hi' H' n => h Hi H' (nx_thaw s n)
  | error z =>
    cases z with
    | rs c => exact fun Hi' H' n => h Hi H' (nx_thaw s n)
    | st => exact h
theorem tells_L [Py α] {xs : List α} : Tells (one (ctL K xs)) (rp K xs) := tells_one fun Hi a Hi' o sm hr ha => by
  obtain ⟨vs, rfl, r⟩ := hr
  exact ⟨a, vs, rfl, .of ha, r.mono sm⟩
theorem EnvOk.frz' [Py α] {σ : L2.St} {Hi H : Hp} (en : EnvOk b L σ Hi H) (i : Nat) {xs : List α} (hL : L[i]? = some (.mu (ctL K xs))) : ∃ Hi', Same Hi Hi' ∧ EnvOk b (L.set i (.im (rp K xs))) σ Hi' H := en.frzT hL tells_L
theorem jt_thaw [Py α] {m : M Bool} (i : Nat) {xs : List α} (h : JT X K b (L.set i (.im (rp K xs))) E e m) (hL : L[i]? = some (.mu (ctL K xs)) := by rfl) : JT X K b L E e m :=
  ⟨fun σ Hi H en Q hq => by
    obtain ⟨Hi', s, en'⟩ := en.frz' i hL
    exact h.go σ Hi' H en' Q (hq.thaw (k := Q) s)⟩
theorem je_thawB [Py α] {m : M Bool} (i : Nat) {xs : List α} (h : JE X K b (L.set i (.im (rp K xs))) E e m) (hL : L[i]? = some (.mu (ctL K xs)) := by rfl) : JE X K b L E e m :=
  ⟨fun σ Hi H en Q hq => by
    obtain ⟨Hi', s, en'⟩ := en.frz' i hL
    exact h.go σ Hi' H en' Q (PX.thaw (k := fun a H' => ∀ v, v = V.bl a → Q v H') s hq)⟩
theorem je_thawI [Py α] {m : M Int} (i : Nat) {xs : List α} (h : JE X K b (L.set i (.im (rp K xs))) E e m) (hL : L[i]? = some (.mu (ctL K xs)) := by rfl) : JE X K b L E e m :=
  ⟨fun σ Hi H en Q hq => by
    obtain ⟨Hi', s, en'⟩ := en.frz' i hL
    exact h.go σ Hi' H en' Q (PX.thaw (k := fun a H' => ∀ v, v = V.int a → Q v H') s hq)⟩
theorem je_thawT [Py α] {m : M Tx} (i : Nat) {xs : List α} (h : JE X K b (L.set i (.im (rp K xs))) E e m) (hL : L[i]? = some (.mu (ctL K xs)) := by rfl) : JE X K b L E e m :=
  ⟨fun σ Hi H en Q hq => by
    obtain ⟨Hi', s, en'⟩ := en.frz' i hL
    exact h.go σ Hi' H en' Q (PX.thaw (k := fun a H' => ∀ v, v = V.str (G.S a) → Q v H') s hq)⟩
/-- a part of it, a new list -/
theorem je_slM [Py α] {lo hi : Option Expr} {ml mh : M (Option Int)} (i : Nat) {x : Str} {xs : List α} {pn : Pos} (hl : JO X K b L E lo ml) (hh : JO X K b L E hi mh) (hL : L[i]? = some (.mu (ctL K xs)) := by rfl) (hN : X.N[i]? = some x := by rfl) (hK : X.K = K := by rfl) (hv : Vis X.env.scope x := by first | exact Or.inl rfl | exact Or.inr (Or.inl rfl) | exact Or.inr (Or.inr rfl))
    (hd : (x == ("__debug__" : Str)) = false := by decide) (hcd : (x == ("__classdict__" : Str)) = false := by decide) :
    JE X K b L E (.Subscript (.Name x pn) (.Slice lo hi none p2) pos) (ml >>= fun l => mh >>= fun u => pure (cut xs l u)) :=
  ⟨fun σ Hi H en Q h => by
    subst hK
    obtain ⟨p, vs, h1, h2, r⟩ := en.muL hL
    obtain ⟨t1, d1, p1⟩ := hl.ex
    obtain ⟨t2, d2, p2⟩ := hh.ex
    refine PE.wp (pe_slice sl_list (pe_var hN hv hd hcd) d1 d2) ⟨_, h1, p1 σ Hi H en _ (h.bind.imp fun l Hi2 H2 n2 k2 => p2 σ Hi2 H2 (en.nx n2) _ (k2.bind.imp fun u Hi3 H3 n3 k3 => ?_))⟩
    have s3 := (n2.im.trans n3.im)
    refine ⟨p, vs, rfl, SqL.of ((n2.al.trans n3.al) _ _ h2), fun r' hr => k3.go (Nx.new n3.sub hr) _ ⟨r', _, rfl, .of upd_same, ?_⟩⟩
    exact ((r.mono s3).cut l u).mono (same_new (hi_none n3.sub hr))⟩
/-! a value or nothing -/
theorem je_get [Py α] {m : M (Option α)} (h : JE X K b L E e m) : JE X K b L E e (m >>= fun x => ofO x) :=
  ⟨fun σ Hi H en Q hq => h.go σ Hi H en Q ((PX.bind hq).imp fun x Hi1 H1 n1 k v rv => by
    obtain ⟨a, e, k⟩ := PX.ofO1 k
    subst e
    exact k.here n1.sub v rv)⟩
/-- what is never None -/
class NoNon (α : Type) [Py α] : Prop where
  ne : ∀ {K : Fg} {H : Hp} {a : α} {v : V}, Py.rep K H a v → v ≠ .non
instance : NoNon Int := ⟨fun h => by rw [show _ = _ from h]; exact fun z => nomatch z⟩
instance : NoNon Bool := ⟨fun h => by rw [show _ = _ from h]; exact fun z => nomatch z⟩
instance : NoNon Tx := ⟨fun h => by rw [show _ = V.str _ from h]; exact fun z => nomatch z⟩
instance [Py α] : NoNon (List α) := ⟨fun ⟨p, vs, h, _⟩ => by rw [h]; exact fun z => nomatch z⟩
instance [Py α] : NoNon (Tup α) := ⟨fun ⟨p, vs, h, _⟩ => by rw [h]; exact fun z => nomatch z⟩
instance [Py α] [Py β] : NoNon (α × β) := ⟨fun ⟨p, _, _, h, _⟩ => by rw [h]; exact fun z => nomatch z⟩
instance [Py α] [Py β] [Py γ] : NoNon (T3 α β γ) := ⟨fun ⟨p, _, _, _, h, _⟩ => by rw [h]; exact fun z => nomatch z⟩
instance [PyR α] {cs fs : List Str} : NoNon (Ins cs fs α) := ⟨fun ⟨p, _, _, _, h, _⟩ => by rw [h]; exact fun z => nomatch z⟩
theorem isn_dec [Py α] [NoNon α] {H : Hp} {x : Option α} {v : V} (h : Py.rep K H x v) : decide (v = V.non) = x.isNone := by
  cases x with
  | none => rw [show v = V.non from h]; rfl
  | some a => exact decide_eq_false (NoNon.ne (α := α) (K := K) (H := H) (a := a) h)
theorem ro_isN [Py α] [NoNon α] : RO K E (fun x y H Q => y = .non ∧ Q (.bl (decide (x = .non))) H) (fun (x : Option α) (_ : Unit) => (pure x.isNone : M Bool)) := by
  rintro x y v w Hi H Q s hx rfl h
  exact ⟨rfl, h.here s _ (congrArg V.bl (isn_dec hx))⟩
theorem ro_notN [Py α] [NoNon α] : RO K E (fun x y H Q => y = .non ∧ Q (.bl (!decide (x = .non))) H) (fun (x : Option α) (_ : Unit) => (pure (!x.isNone) : M Bool)) := by
  rintro x y v w Hi H Q s hx rfl h
  exact ⟨rfl, h.here s _ (by rw [isn_dec hx]; rfl)⟩
/-- isinstance of a value or nothing, a built-in class -/
theorem je_isiO [Py α] {m : M (Option α)} {tn T : String} {r : Bool} (ht : TyxOk K α tn) (hk : kitB tn T = some r) (hk0 : kitB "NoneType" T = some false) (hm : mg "isinstance" = none) (hm2 : mg (Str.ofString T) = none) (hv : bootBuiltins (Str.ofString T) = some (.type T)) (h : JE X K b L E e m)
    (hK : X.K = K := by rfl) (hM : X.mg = mg := by rfl) (hg : Gl X "isinstance" := by rfl) (hg2 : Gl X (Str.ofString T) := by rfl) (hn : Str.ofString T ≠ "__name__" := by decide) (hd : (Str.ofString T == ("__debug__" : Str)) = false := by decide)
    (he : starEach [e, .Name (Str.ofString T) p2] X.env = (false, eval e X.env) :: starEach [.Name (Str.ofString T) p2] X.env := by rfl) (he2 : starEach [.Name (Str.ofString T) p2] X.env = (false, eval (.Name (Str.ofString T) p2) X.env) :: starEach [] X.env := by rfl)
    (hpl : (backTo pos (starEach [.Name (Str.ofString T) p2] X.env)).any (·.1) = false := by rfl) : JE X K b L E (.Call (.Name "isinstance" p3) [e, .Name (Str.ofString T) p2] [] pos) (m >>= fun x => (pure (x.isSome && r) : M Bool)) := by
  subst hK
  refine .of ⟨_, pe_callB call_isi hg (by rw [hM]; exact hm) bt_isinstance (pa_cons pe_wp (pa_cons (pe_bltn (v := .ty T) hg2 (by rw [hM]; exact hm2) hv rfl hn hd) pa_nil he2) he) (by decide) (by decide) he hpl, fun σ Hi H en Q hq => h.go σ Hi H en _ (hq.bind.imp fun a Hi1 H1 n1 q v rv => ?_)⟩
  cases a with
  | none => exact ⟨v, .ty T, .type "NoneType", .type T, false, rfl, .ty T, by rw [show v = V.non from rv]; exact .base .non, kit_ty hk0, q.here n1.sub _ rfl⟩
  | some a => exact ⟨v, .ty T, .type tn, .type T, r, rfl, .ty T, ht H1 a v (Py.mono (α := α) n1.sub rv), kit_ty hk, q.here n1.sub _ rfl⟩
/-! an if that ends in part -/
def pPt (K : Fg) (b : Bs) {S R : Type} [Rt R] (Lf : S → List En) (t : Tl S R) (D : Ends) : Prop := match t with
  | .ct s => ∀ σ' Hi' H', EnvOk b (Lf s) σ' Hi' H' → D.nx σ' H'
  | .bk _ => False
  | .rt r => pRt K b r D
theorem js_nilQ [Rt R] {Lf : S → List En} {s : S} (w : Wk L (Lf s)) : JS X K b L E [] tl (pure (.ct s) : M (Tl S R)) (pPt K b Lf) :=
  ⟨fun σ Hi H en D _ hz => PSs.wp pss_nil (show D.nx σ H from (show ∀ σ' Hi' H', EnvOk b (Lf s) σ' Hi' H' → D.nx σ' H' from hz) σ Hi H (en.wk w))⟩
theorem js_retQ [Py R] {m : M R} {Lf : S → List En} (h : JE X K b L E e m) : JS X K b L E (.Return (some e) pos :: rest) tl (m >>= fun r => pure (.rt r) : M (Tl S R)) (pPt K b Lf) :=
  ⟨fun σ Hi H en D _ hz => PSs.wp (pss_cons (ps_ret pe_wp) pss_wp) (h.go σ Hi H en D.rt (PZ.ret en (hz.bindz.imp fun r q => q)))⟩
def partT {β : Type} (mr : S → M β) (wr : R → β) : Tl S R → M β
  | .ct s => mr s
  | .rt r => pure (wr r)
  | .bk _ => stuck
theorem js_ifT [Rt R] {c : Expr} {mc : M Bool} {ma mb : M (Tl S R)} {Lf : S → List En} {mr : S → M α} {wr : R → α} (hw : ∀ r D, post (wr r) D → pRt K b r D) (h : JT X K b L E c mc) (h1 : JS X K b L E a tlAny ma (pPt K b Lf)) (h2 : JS X K b L E bb tlAny mb (pPt K b Lf)) (h3 : ∀ s, JS X K b (Lf s) E rest tl (mr s) post) :
    JS X K b L E (.If c a bb pos :: rest) tl ((mc >>= fun t => if t = true then ma else mb) >>= partT mr wr) post :=
  ⟨fun σ Hi H en D ht hz => by
    have fin : ∀ {m : M (Tl S R)} {σ' Hi' H'}, EnvOk b L σ' Hi' H' → ∀ ss, JS X K b L E ss tlAny m (pPt K b Lf) → PZ K E b (m >>= partT mr wr) (fun a => post a D) → wpB X ss { D with nx := fun σ H => wpB X rest D σ H } σ' H' := fun {m σ' Hi' H'} en' ss hj hq =>
      hj.go σ' Hi' H' en' _ trivial (hq.bindz.imp fun z k => by
        cases z with
        | ct s => exact fun σ2 Hi2 H2 en2 => (h3 s).go σ2 Hi2 H2 en2 D ht k
        | bk s => exact k.elim
        | rt r => exact hw r D k)
    rw [bind_assoc] at hz
    exact PSs.wp (pss_cons (ps_if pt_wp pss_wp pss_wp) pss_wp) (h.go σ Hi H en _ ((PZ.bind en hz).imp fun t Hi' H' x q => by
      cases t with
      | true => exact fin (en.nx x) _ h1 q
      | false => exact fin (en.nx x) _ h2 q))⟩
/-! try .. except X as e, the body one call -/
structure JC (X : Cx) (K : Fg) (b : Bs) (L : List En) (e : Expr) {α : Type} [Py α] (m : M α) : Prop where
  go : ∀ (W : WX), Takes X W → ∀ σ Hi H, EnvOk b L σ Hi H → ∀ Q : VK, PV K (WE W σ) m Hi H Q → wpE X e σ H Q
/-- the raising way: known classes, by the handler -/
def tryM {α S : Type} (cs : List Str) (sOk : α → S) (h : Str → M S) (m : M α) : M S := match m with
  | .ok a => pure (sOk a)
  | .error (.rs c) => if c ∈ cs then nr (h c) else stuck
  | .error .st => stuck
abbrev E0 : XK := fun _ _ _ => False
theorem pz_nr {m : M S} {post : S → Prop} (h : PZ K E b (nr m) post) : PZ K E0 b m post := by
  cases m with
  | ok a => exact h
  | error z => exact h.elim
theorem j1_try_core [Py α] {body1 : Stmt} {m : M α} {sOk : α → S} {hh : Str → M S} {cs : List Str} {Lf : S → List En} (ie : Nat) {n C : Str} {b₀ : Stmt} {suite : List Stmt} {Lb : α → List En}
    (hb : ∀ pn xe (W : WX), Takes (X.tr pn xe) W → ∀ σ Hi H, EnvOk b L σ Hi H → ∀ D : Ends, PX K (WE W σ) m Hi H (fun a Hi' H' => ∀ σ', EnvOk b (Lb a) σ' Hi' H' → D.nx σ' H') → wpB (X.tr pn xe) [body1] D σ H) (hw : ∀ a, Wk (Lb a) (Lf (sOk a)))
    (hx : ∀ c ∈ cs, (He.Fa.exm c C true).ok K = true)
    (hs : ∀ c ∈ cs, ∀ (a : Addr) (oe : Obj) (pn : List (Addr × Obj)), Zc (.ref (He.ga K c)) none oe → (∃ vs, oe.data = .fields vs) → JS (X.suite a ((a, oe) :: pn)) K b (L.set ie (.im (prR a))) E0 (b₀ :: suite) tlAny (hh c) (pNx b Lf))
    (gC : X.mg C = some (.ref (He.ga K C))) (hN : X.N.Nodup) (hE : ∀ s, (Lf s).set ie .no = Lf s := by intro _; rfl) (hi : X.N[ie]? = some n := by rfl) (hln : X.env.kindOf n = some .local := by rfl) (hK : X.K = K := by rfl) (hst : X.stack = X.env :: X.outer := by rfl) (hf : X.env.frame = some X.env.locals := by rfl) (hg : Gl X C := by rfl) (hd : (C == ("__debug__" : Str)) = false := by decide) :
    J1 X K b L E (.Try [body1] [.ExceptHandler (some (.Name C p2)) (some n) (b₀ :: suite) p3] [] [] pos) (tryM cs sOk hh m) Lf := by
  subst hK
  refine ⟨fun σ Hi H en D hz => PS.wp (ps_try_as (i := ie) (tb := fun W D σ H => ∀ pn xe, Takes (X.tr pn xe) W → wpB (X.tr pn xe) [body1] D σ H)
    (ts := fun a cls d D σ H => ∀ oe pn, Zc cls d oe → (∃ vs, oe.data = .fields vs) → wpB (X.suite a ((a, oe) :: pn)) (b₀ :: suite) D σ H) hst hf hN hi hln ⟨hg, hd, .inl gC⟩ takes0
    (fun W pn xe tk _ => ⟨fun pins s σ H D I h => h pn xe tk pins s I⟩) (fun a oe cls d pn hz hv => ⟨fun pins s σ H D I h => h oe pn hz hv pins s I⟩)) ?_⟩
  intro pn xe tk
  refine hb pn xe _ tk σ Hi H en D ?_
  cases m with
  | ok a => exact fun Hi' H' n σ' en' => hz σ' Hi' H' (en'.wk (hw a))
  | error z =>
    cases z with
    | st => exact hz.elim
    | rs c =>
      have hz : PZ X.K E b (if c ∈ cs then nr (hh c) else stuck) _ := hz
      by_cases hc : c ∈ cs
      · rw [if_pos hc] at hz
        intro Hi' H' nx
        refine ⟨true, He.exm_ok (hx c hc), fun _ a ha => ?_, fun q => nomatch q⟩
        intro oe pn' z1 z2
        have en1 := (en.nx nx).set (i := ie) (p := prR a) (v := .ref a) rfl
        refine (hs c hc a oe pn' z1 z2).go _ Hi' H' en1 _ trivial ((pz_nr hz).imp fun s k σ2 Hi2 H2 en2 => ?_)
        have := en2.unset (i := ie)
        rw [hE s] at this
        exact k _ Hi2 H2 this
      · rw [if_neg hc] at hz; exact hz.elim
theorem j1_tryE [Py α] {m : M α} {sOk : α → S} {hh : Str → M S} {cs : List Str} {Lf : S → List En} (ie : Nat) {n C : Str} {b₀ : Stmt} {suite : List Stmt}
    (hb : ∀ pn xe, JC (X.tr pn xe) K b L e m) (hw : ∀ a, Wk L (Lf (sOk a))) (hx : ∀ c ∈ cs, (He.Fa.exm c C true).ok K = true)
    (hs : ∀ c ∈ cs, ∀ (a : Addr) (oe : Obj) (pn : List (Addr × Obj)), Zc (.ref (He.ga K c)) none oe → (∃ vs, oe.data = .fields vs) → JS (X.suite a ((a, oe) :: pn)) K b (L.set ie (.im (prR a))) E0 (b₀ :: suite) tlAny (hh c) (pNx b Lf))
    (gC : X.mg C = some (.ref (He.ga K C))) (hN : X.N.Nodup) (hE : ∀ s, (Lf s).set ie .no = Lf s := by intro _; rfl) (hi : X.N[ie]? = some n := by rfl) (hln : X.env.kindOf n = some .local := by rfl) (hK : X.K = K := by rfl) (hst : X.stack = X.env :: X.outer := by rfl) (hf : X.env.frame = some X.env.locals := by rfl) (hg : Gl X C := by rfl) (hd : (C == ("__debug__" : Str)) = false := by decide)
    (hsw : ∀ pn xe, swapsWith e none p'.line (X.tr pn xe).env = pure false := by intro _ _; rfl) :
    J1 X K b L E (.Try [.Expr e p'] [.ExceptHandler (some (.Name C p2)) (some n) (b₀ :: suite) p3] [] [] pos) (tryM cs sOk hh m) Lf :=
  j1_try_core (Lb := fun _ => L) ie (fun pn xe W tk σ Hi H en D hq => PSs.wp (pss_one (ps_expr pe_wp (hsw pn xe))) ((hb pn xe).go W tk σ Hi H en _ (hq.imp fun a Hi' H' x q v rv => q σ (en.nx x)))) hw hx hs gC hN hE hi hln hK hst hf hg hd
theorem j1_tryS [Py α] {m : M α} {sOk : α → S} {hh : Str → M S} {cs : List Str} {Lf : S → List En} (i ie : Nat) {x n C : Str} {b₀ : Stmt} {suite : List Stmt}
    (hb : ∀ pn xe, JC (X.tr pn xe) K b L e m) (hw : ∀ a, Wk (L.set i (.im (rp K a))) (Lf (sOk a))) (hx : ∀ c ∈ cs, (He.Fa.exm c C true).ok K = true)
    (hs : ∀ c ∈ cs, ∀ (a : Addr) (oe : Obj) (pn : List (Addr × Obj)), Zc (.ref (He.ga K c)) none oe → (∃ vs, oe.data = .fields vs) → JS (X.suite a ((a, oe) :: pn)) K b (L.set ie (.im (prR a))) E0 (b₀ :: suite) tlAny (hh c) (pNx b Lf))
    (gC : X.mg C = some (.ref (He.ga K C))) (hN : X.N.Nodup) (hE : ∀ s, (Lf s).set ie .no = Lf s := by intro _; rfl) (hi : X.N[ie]? = some n := by rfl) (hln : X.env.kindOf n = some .local := by rfl) (hK : X.K = K := by rfl) (hst : X.stack = X.env :: X.outer := by rfl) (hf : X.env.frame = some X.env.locals := by rfl) (hg : Gl X C := by rfl) (hd : (C == ("__debug__" : Str)) = false := by decide)
    (hi2 : X.N[i]? = some x := by rfl) (hlx : Loc X.env.scope x := by first | exact Or.inl rfl | exact Or.inr rfl) (hsw : ∀ pn xe, swapsWith e (some (.Name x p4)) p'.line (X.tr pn xe).env = pure false := by intro _ _; rfl) (hfx : X.fn x = true ∨ X.env.scope.names.lookup x = some .local := by first | exact .inl rfl | exact .inr rfl) :
    J1 X K b L E (.Try [.Assign [.Name x p4] e p'] [.ExceptHandler (some (.Name C p2)) (some n) (b₀ :: suite) p3] [] [] pos) (tryM cs sOk hh m) Lf :=
  j1_try_core (Lb := fun a => L.set i (.im (rp K a))) ie (fun pn xe W tk σ Hi H en D hq => PSs.wp (pss_one (ps_set (X := X.tr pn xe) hN hi2 hlx pe_wp (hsw pn xe) hfx)) ((hb pn xe).go W tk σ Hi H en _ (hq.imp fun a Hi' H' y q v rv => q _ ((en.nx y).set (p := rp K a) rv)))) hw hx hs gC hN hE hi hln hK hst hf hg hd
theorem jc_call1 {α0 ρ : Type} [Py α0] [Py ρ] {e0 : Expr} {m0 : M α0} {f : α0 → M ρ} {x : Str} {p : Pos} {k : Nat} (F : OkF X.prog X.w X.K X.mg X.base x k (sp1 K f)) (hr : Room k X.A) (h0 : ∀ E, JE X K b L E e0 m0) (hg : Gl X x := by rfl) (hdb : (x == ("__debug__" : Str)) = false := by decide) (s0 : starEach [e0] X.env = (false, eval e0 X.env) :: starEach [] X.env := by rfl) (hpl : (backTo pos (starEach [] X.env)).any (·.1) = false := by rfl) : JC X K b L (.Call (.Name x p) [e0] [] pos) (m0 >>= fun a0 => f a0) := by
  obtain ⟨fa, fd, ps, F1, F2, F3, F4⟩ := F.ex
  refine ⟨fun W tk σ Hi H en Q h => PE.wp (pe_callS F3 hr hg F1 F2 F4 (fun σ => passAt tk σ) (pa_cons pe_wp pa_nil s0) hdb s0 hpl) ?_⟩
  refine (h0 (WE W σ)).go σ Hi H en _ (PX.imp (PX.bind h) fun a0 Hi1 H1 n1 k1 v0 r0 => ?_)
  exact ⟨a0, v0, _, rfl, n1.sub, r0, k1⟩
/-- isinstance of the error that the suite holds -/
theorem excB_ok {c : Str} (h : excB K c = true) : ExcC K (He.ga K c) := by
  unfold excB at h
  simp only [Bool.and_eq_true, decide_eq_true_eq] at h
  obtain ⟨h1, h2, h3, h4, h5, h6, h7, h8⟩ := h
  exact ⟨h1, h2, h3, h4, h5, h6, h7, h8⟩
theorem je_isE {a : Addr} {oe : Obj} {pn : List (Addr × Obj)} {c y n : Str} {r : Bool} (ie : Nat) (C : excB K c = true) (hz : Zc (.ref (He.ga K c)) none oe) (hv : ∃ vs, oe.data = .fields vs) (hk : kitOwnB K c y r = true) (hm : mg "isinstance" = none) (hm2 : mg y = some (.ref (He.ga K y)))
    (hL : L[ie]? = some (.im (prR a)) := by rfl) (hN : X.N[ie]? = some n := by rfl) (hvs : Vis X.env.scope n := by first | exact Or.inl rfl | exact Or.inr (Or.inl rfl) | exact Or.inr (Or.inr rfl)) (hdn : (n == ("__debug__" : Str)) = false := by decide) (hcd : (n == ("__classdict__" : Str)) = false := by decide)
    (hK : X.K = K := by rfl) (hM : X.mg = mg := by rfl) (hg : Gl X "isinstance" := by rfl) (hg2 : Gl X y := by rfl) (hd : (y == ("__debug__" : Str)) = false := by decide)
    (he : starEach [.Name n p4, .Name y p2] X.env = (false, eval (.Name n p4) X.env) :: starEach [.Name y p2] X.env := by rfl) (he2 : starEach [.Name y p2] X.env = (false, eval (.Name y p2) X.env) :: starEach [] X.env := by rfl)
    (hpl : (backTo pos (starEach [.Name y p2] X.env)).any (·.1) = false := by rfl) : JE (X.suite a ((a, oe) :: pn)) K b L E0 (.Call (.Name "isinstance" p3) [.Name n p4, .Name y p2] [] pos) (pure r : M Bool) := by
  subst hK
  refine .of ⟨_, pe_callB (call_isE (excB_ok C) hz hv) hg (by rw [hM]; exact hm) bt_isinstance (pa_cons (pe_var hN hvs hdn hcd) (pa_cons (pe_glob (v := .ref (He.ga X.K y)) hg2 (by rw [hM]; exact hm2) rfl hd) pa_nil he2) he) (by decide) (by decide) he hpl, fun σ Hi H en Q hq => ?_⟩
  obtain ⟨v, e0, e1⟩ := en.im ie _ hL
  have e1 : v = V.ref a := e1
  subst e1
  exact ⟨_, e0, .ref (He.ga X.K y), .ref (He.ga X.K y), r, rfl, fun u r => r, of_decide_eq_true hk, hq.here en.sub _ rfl⟩
theorem je_isET {a : Addr} {oe : Obj} {pn : List (Addr × Obj)} {c n : Str} {T : String} {r : Bool} (ie : Nat) (C : excB K c = true) (hz : Zc (.ref (He.ga K c)) none oe) (hv : ∃ vs, oe.data = .fields vs) (hk : kitTyB K c T r = true) (hm : mg "isinstance" = none) (hm2 : mg (Str.ofString T) = none) (hb : bootBuiltins (Str.ofString T) = some (.type T))
    (hL : L[ie]? = some (.im (prR a)) := by rfl) (hN : X.N[ie]? = some n := by rfl) (hvs : Vis X.env.scope n := by first | exact Or.inl rfl | exact Or.inr (Or.inl rfl) | exact Or.inr (Or.inr rfl)) (hdn : (n == ("__debug__" : Str)) = false := by decide) (hcd : (n == ("__classdict__" : Str)) = false := by decide)
    (hK : X.K = K := by rfl) (hM : X.mg = mg := by rfl) (hg : Gl X "isinstance" := by rfl) (hg2 : Gl X (Str.ofString T) := by rfl) (hn : Str.ofString T ≠ "__name__" := by decide) (hd : (Str.ofString T == ("__debug__" : Str)) = false := by decide)
    (he : starEach [.Name n p4, .Name (Str.ofString T) p2] X.env = (false, eval (.Name n p4) X.env) :: starEach [.Name (Str.ofString T) p2] X.env := by rfl) (he2 : starEach [.Name (Str.ofString T) p2] X.env = (false, eval (.Name (Str.ofString T) p2) X.env) :: starEach [] X.env := by rfl)
    (hpl : (backTo pos (starEach [.Name (Str.ofString T) p2] X.env)).any (·.1) = false := by rfl) : JE (X.suite a ((a, oe) :: pn)) K b L E0 (.Call (.Name "isinstance" p3) [.Name n p4, .Name (Str.ofString T) p2] [] pos) (pure r : M Bool) := by
  subst hK
  refine .of ⟨_, pe_callB (call_isE (excB_ok C) hz hv) hg (by rw [hM]; exact hm) bt_isinstance (pa_cons (pe_var hN hvs hdn hcd) (pa_cons (pe_bltn (v := .ty T) hg2 (by rw [hM]; exact hm2) hb rfl hn hd) pa_nil he2) he) (by decide) (by decide) he hpl, fun σ Hi H en Q hq => ?_⟩
  obtain ⟨v, e0, e1⟩ := en.im ie _ hL
  have e1 : v = V.ref a := e1
  subst e1
  exact ⟨_, e0, .ty T, .type T, r, rfl, fun u r => r, of_decide_eq_true hk, hq.here en.sub _ rfl⟩
/-! texts -/
def findT (x y : Tx) : Int := Txt.find (G.S x) (G.S y)
theorem rm_find : RM1 K E (fun x xs H Q => ∃ a b, x = .str a ∧ xs = [.str b] ∧ Q (.int (Txt.find a b)) H) (fun x y : Tx => (pure (findT x y) : M Int)) := by
  rintro x y v w Hi H Q s rfl rfl h
  exact ⟨G.S x, G.S y, rfl, rfl, h.here s _ rfl⟩
def stripT (x y : Tx) : M Tx := chk (x.length ≤ SZ) >>= fun _ => pure (Txt.stripChars (G.S x) (G.S y)).cps.toList
theorem rm_strip : RM1 K E (fun x xs H Q => ∃ a b, x = .str a ∧ xs = [.str b] ∧ a.length ≤ sizeLine ∧ Q (.str (Txt.stripChars a b)) H) stripT := by
  rintro x y v w Hi H Q s rfl rfl h
  obtain ⟨c, h⟩ := PX.chk h
  exact ⟨G.S x, G.S y, rfl, rfl, by rw [S_length]; exact c, h.here s _ rfl⟩
/-- the greatest of a list of numbers -/
def maxL : List Int → M Int
  | [] => stuck
  | x :: xs => pure (xs.foldl (fun a c => if a < c then c else a) x)
theorem foldmax : ∀ (xs : List Int) (x : Int), (xs.foldl (fun a c => if a < c then c else a) x) ∈ x :: xs ∧ ∀ y ∈ x :: xs, y ≤ xs.foldl (fun a c => if a < c then c else a) x
  | [], x => ⟨List.mem_cons_self .., fun y hy => (List.mem_cons.mp hy).elim (fun h => h ▸ Int.le_refl _) fun h => nomatch h⟩
  | z :: xs, x => by
    obtain ⟨h1, h2⟩ := foldmax xs (if x < z then z else x)
    refine ⟨?_, fun y hy => ?_⟩
    · rcases List.mem_cons.mp h1 with h | h
      · show List.foldl _ (if x < z then z else x) xs ∈ _
        rw [h]
        by_cases hz : x < z
        · rw [if_pos hz]; exact List.mem_cons_of_mem _ (List.mem_cons_self ..)
        · rw [if_neg hz]; exact List.mem_cons_self ..
      · exact List.mem_cons_of_mem _ (List.mem_cons_of_mem _ h)
    · have hm := h2 _ (List.mem_cons_self ..)
      show y ≤ List.foldl _ (if x < z then z else x) xs
      rcases List.mem_cons.mp hy with h | h
      · subst h
        by_cases hz : y < z
        · rw [if_pos hz] at hm ⊢; omega
        · rw [if_neg hz] at hm ⊢; exact hm
      · rcases List.mem_cons.mp h with h | h
        · subst h
          by_cases hz : x < y
          · rw [if_pos hz] at hm ⊢; exact hm
          · rw [if_neg hz] at hm ⊢; omega
        · exact h2 y (List.mem_cons_of_mem _ h)
theorem ra_max (hK : X.K = K := by rfl) : RA1 K E (rMax X.K) maxL := by
  subst hK
  rintro xs v Hi H Q s ⟨p, vs, rfl, h1, h2⟩ h
  cases xs with
  | nil => exact h.elim
  | cons x xs =>
    have e := h2.ints
    subst e
    refine ⟨p, x :: xs, rfl, Same.seq s h1, by rw [List.length_cons]; omega, fun m hm hle => ?_⟩
    obtain ⟨g1, g2⟩ := foldmax xs x
    have : m = xs.foldl (fun a c => if a < c then c else a) x := Int.le_antisymm (g2 m hm) (hle _ g1)
    subst this
    exact h.here s _ rfl
end
end G

set_option Elab.async false
set_option linter.all false
set_option maxRecDepth 100000
set_option maxHeartbeats 2000000
namespace G
open PySem L2 TL
theorem bt_ValueError : bootBuiltins "ValueError" = some (.type "ValueError") := by decide +kernel
section
variable {X : Cx} {K : Fg} {mg : Str → Option Value} {b : Bs} {L L' : List En} {E : XK} {e e1 e2 : Expr} {st : Stmt} {rest body a bb : List Stmt} {α β γ S R : Type} {pos p' p2 p3 p4 : Pos} {tl : Ends → Prop} {post : α → Ends → Prop}
theorem js_if1Q [Rt R] {c : Expr} {mc : M Bool} {ma : M R} {mr : M (Tl S R)} {Lf : S → List En} (h : JT X K b L E c mc) (h1 : JS X K b L E a tlAny ma (pRt K b)) (h2 : JS X K b L E rest tl mr (pPt K b Lf)) :
    JS X K b L E (.If c a [] pos :: rest) tl (mc >>= fun t => if t = true then (ma >>= fun r => pure (.rt r)) else mr) (pPt K b Lf) :=
  ⟨fun σ Hi H en D ht hz => PSs.wp (pss_cons (ps_if pt_wp pss_wp pss_nil) pss_wp) (h.go σ Hi H en _ ((PZ.bind en hz).imp fun t Hi' H' x q => by
    cases t with
    | true =>
      rw [if_pos rfl] at q ⊢
      exact h1.go σ Hi' H' (en.nx x) _ trivial (q.bindz.imp fun a h => h)
    | false =>
      rw [if_neg Bool.false_ne_true] at q ⊢
      exact h2.go σ Hi' H' (en.nx x) D ht q))⟩
end
end G

set_option Elab.async false
set_option linter.all false
set_option maxRecDepth 100000
set_option maxHeartbeats 2000000
namespace G
open PySem L2 TL
/-! dicts with text keys: a list of pairs, each key once -/
def Dic (α : Type) := List (Tx × α)
def dgetM {α : Type} : List (Tx × α) → Tx → Option α
  | [], _ => none
  | q :: r, k => if q.1 = k then some q.2 else dgetM r k
def dputM {α : Type} (d : List (Tx × α)) (k : Tx) (a : α) : List (Tx × α) := if (dgetM d k).isSome = true then d.map (fun q => if q.1 = k then (q.1, a) else q) else d ++ [(k, a)]
def kT (k : Tx) : Key := Sum.inr (G.S k)
def KvOk (K : Fg) (H : Hp) {α : Type} [Py α] (d : List (Tx × α)) (kvs : List (Key × V)) : Prop := Paired (fun (q : Tx × α) (kv : Key × V) => kv.1 = kT q.1 ∧ Py.rep K H q.2 kv.2) d kvs
theorem KvOk.mono {K : Fg} {H H' : Hp} {α : Type} [Py α] {d : List (Tx × α)} {kvs : List (Key × V)} (e : Same H H') (h : KvOk K H d kvs) : KvOk K H' d kvs := Paired.mapP h fun _ _ r => ⟨r.1, Py.mono e r.2⟩
theorem kT_inj {a b : Tx} (h : kT a = kT b) : a = b := S_inj (Sum.inr.inj h)
theorem KvOk.get {K : Fg} {H : Hp} {α : Type} [Py α] : ∀ {d : List (Tx × α)} {kvs : List (Key × V)} (_ : KvOk K H d kvs) (k : Tx), (dgetM d k = none ∧ valV kvs (kT k) = none) ∨ ∃ a v, dgetM d k = some a ∧ valV kvs (kT k) = some v ∧ Py.rep K H a v
  | _, _, .nil, k => .inl ⟨rfl, rfl⟩
  | q :: d, kv :: kvs, .cons r t, k => by
    by_cases h : q.1 = k
    · have e : kv.1 = kT k := by rw [r.1, h]
      exact .inr ⟨q.2, kv.2, by unfold dgetM; rw [if_pos h], valV_pos e, r.2⟩
    · have e : ¬ kv.1 = kT k := fun z => h (kT_inj (r.1.symm.trans z))
      rw [valV_neg e]
      unfold dgetM
      rw [if_neg h]
      exact KvOk.get t k
theorem KvOk.some {K : Fg} {H : Hp} {α : Type} [Py α] {d : List (Tx × α)} {kvs : List (Key × V)} (h : KvOk K H d kvs) (k : Tx) : (valV kvs (kT k)).isSome = (dgetM d k).isSome := by
  rcases h.get k with ⟨h1, h2⟩ | ⟨a, v, h1, h2, _⟩ <;> rw [h1, h2] <;> rfl
theorem KvOk.app {K : Fg} {H : Hp} {α : Type} [Py α] {d : List (Tx × α)} {kvs : List (Key × V)} {k : Tx} {a : α} {v : V} (r : Py.rep K H a v) (h : KvOk K H d kvs) : KvOk K H (d ++ [(k, a)]) (kvs ++ [(kT k, v)]) := by
  induction h with
  | nil => exact .cons ⟨rfl, r⟩ .nil
  | cons r' _ ih => exact .cons r' ih
theorem KvOk.map {K : Fg} {H : Hp} {α : Type} [Py α] {d : List (Tx × α)} {kvs : List (Key × V)} {k : Tx} {a : α} {v : V} (r : Py.rep K H a v) (h : KvOk K H d kvs) : KvOk K H (d.map fun q => if q.1 = k then (q.1, a) else q) (kvs.map fun kv => if kv.1 = kT k then (kv.1, v) else kv) := by
  induction h with
  | nil => exact .nil
  | @cons q kv d kvs r' _ ih =>
    refine .cons ?_ ih
    show (if kv.1 = kT k then (kv.1, v) else kv).1 = kT (if q.1 = k then (q.1, a) else q).1 ∧ Py.rep K H (if q.1 = k then (q.1, a) else q).2 (if kv.1 = kT k then (kv.1, v) else kv).2
    by_cases e : q.1 = k
    · rw [if_pos e, if_pos (show kv.1 = kT k by rw [r'.1, e])]
      exact ⟨r'.1, r⟩
    · rw [if_neg e, if_neg (fun z => e (kT_inj (r'.1.symm.trans z)))]
      exact r'
theorem KvOk.put {K : Fg} {H : Hp} {α : Type} [Py α] {d : List (Tx × α)} {kvs : List (Key × V)} {k : Tx} {a : α} {v : V} (r : Py.rep K H a v) (h : KvOk K H d kvs) : KvOk K H (dputM d k a) (putK kvs (kT k) v) := by
  unfold dputM putK
  rw [valV_any, h.some k]
  by_cases e : (dgetM d k).isSome = true
  · rw [if_pos e, if_pos e]; exact h.map r
  · rw [if_neg e, if_neg e]; exact h.app r
theorem KvOk.length {K : Fg} {H : Hp} {α : Type} [Py α] {d : List (Tx × α)} {kvs : List (Key × V)} (h : KvOk K H d kvs) : d.length = kvs.length := Paired.length h
instance instPyDic {α : Type} [Py α] : Py (Dic α) := ⟨fun K H d v => ∃ p kvs, v = .ref p ∧ H p = some (.dK kvs) ∧ KvOk K H (α := α) d kvs, fun e ⟨p, kvs, h1, h2, h3⟩ => ⟨p, kvs, h1, e _ _ h2, h3.mono e⟩⟩
instance {α : Type} [Py α] : NoNon (Dic α) := ⟨fun ⟨p, kvs, h, _⟩ => by rw [h]; exact fun z => nomatch z⟩
def ctD (K : Fg) {α : Type} [Py α] (d : List (Tx × α)) : Ct := ⟨fun H o => ∃ kvs, o = .dK kvs ∧ KvOk K H d kvs, fun e ⟨kvs, h1, h2⟩ => ⟨kvs, h1, h2.mono e⟩⟩
/-- a dict, held or told -/
structure JD (X : Cx) (K : Fg) (b : Bs) (L : List En) (E : XK) (e : Expr) {α : Type} [Py α] (m : M (Dic α)) : Prop where
  go : ∀ σ Hi H, EnvOk b L σ Hi H → ∀ Q : VK, PX K E m Hi H (fun d Hi' H' => ∀ p kvs, H' p = some (.dK kvs) → KvOk K Hi' (α := α) d kvs → Q (.ref p) H') → wpE X e σ H Q
section
variable {X : Cx} {K : Fg} {mg : Str → Option Value} {b : Bs} {L L' : List En} {E : XK} {e e1 e2 : Expr} {st : Stmt} {rest body a bb : List Stmt} {α β γ S R : Type} {pos p' p2 p3 p4 : Pos} {tl : Ends → Prop} {post : α → Ends → Prop}
theorem EnvOk.at_mu {σ : L2.St} {Hi H : Hp} {i : Nat} {c : Ct} (en : EnvOk b L σ Hi H) (hL : L[i]? = some (.mu c)) : ∃ a o, σ[i]? = some (some (V.ref a)) ∧ H a = some o ∧ c.r Hi o := by
  obtain ⟨a, o, h1, h2, _, _, h3⟩ := en.mu i c hL
  exact ⟨a, o, h1, h2, h3⟩
theorem jd_val [Py α] {m : M (Dic α)} (h : JE X K b L E e m) : JD X K b L E e m :=
  ⟨fun σ Hi H en Q hq => h.go σ Hi H en Q (hq.imp fun d Hi' H' n k v ⟨p, kvs, e1, e2, e3⟩ => by subst e1; exact k p kvs (n.sub _ _ e2) e3)⟩
theorem jd_held [Py α] (i : Nat) {x : Str} {d : List (Tx × α)} {pn : Pos} (hL : L[i]? = some (.mu (ctD K d)) := by rfl) (hN : X.N[i]? = some x := by rfl) (hv : Vis X.env.scope x := by first | exact Or.inl rfl | exact Or.inr (Or.inl rfl) | exact Or.inr (Or.inr rfl))
    (hd : (x == ("__debug__" : Str)) = false := by decide) (hcd : (x == ("__classdict__" : Str)) = false := by decide) : JD X K b L E (.Name x pn) (pure d : M (Dic α)) :=
  ⟨fun σ Hi H en Q hq => by
    obtain ⟨p, o, h1, h2, kvs, rfl, h3⟩ := en.at_mu hL
    exact PE.wp (pe_var hN hv hd hcd) ⟨_, h1, PX.here (α := Dic α) (a := d) hq en.sub p kvs h2 h3⟩⟩
theorem je_dget [Py α] {m : M (Dic α)} {mk : M Tx} (hu : X.A.units + 64 < cLine) (h : JD X K b L E e m) (hk : JE X K b L E e1 mk) (hs : NoSl e1 := by exact fun _ _ => rfl) : JE X K b L E (.Subscript e e1 pos) (m >>= fun d => mk >>= fun k => ofO (dgetM (α := α) d k)) :=
  ⟨fun σ Hi H en Q hq => PE.wp (pe_dget (by omega) pe_wp pe_wp hs) (h.go σ Hi H en _ ((PX.bind hq).imp fun d Hi1 H1 n1 k1 p kvs g1 g2 => hk.go σ Hi1 H1 (en.nx n1) _ ((PX.bind k1).imp fun k Hi2 H2 n2 k2 v rv => by
    obtain ⟨x, e, k2⟩ := PX.ofO1 k2
    have rv : v = V.str (G.S k) := rv
    subst rv
    rcases (g2.mono n2.im).get k with ⟨z, _⟩ | ⟨x', u, z1, z2, z3⟩
    · rw [z] at e; cases e
    · rw [z1] at e; cases e
      refine ⟨p, u, rfl, ?_, k2.here n2.sub u z3⟩
      rw [← z2]
      exact DGet.k (k := kT k) (n2.al _ _ g1))))⟩
theorem je_din [Py α] {m : M (Dic α)} {mk : M Tx} (hu : X.A.units + 64 < cLine) (hk : JE X K b L E e1 mk) (h : JD X K b L E e m) (hb : behindInMarks .In e = false := by rfl) : JE X K b L E (.Compare e1 [.In] [e] pos) (mk >>= fun k => m >>= fun d => (pure (dgetM (α := α) d k).isSome : M Bool)) :=
  ⟨fun σ Hi H en Q hq => PE.wp (pe_cmp (pc_din (by omega) pe_wp pe_wp) hb) (hk.go σ Hi H en _ ((PX.bind hq).imp fun k Hi1 H1 n1 k1 v rv => h.go σ Hi1 H1 (en.nx n1) _ ((PX.bind k1).imp fun d Hi2 H2 n2 k2 p kvs g1 g2 => by
    have rv : v = V.str (G.S k) := rv
    subst rv
    exact ⟨p, _, rfl, DGet.k (k := kT k) g1, k2.here n2.sub _ (by rw [g2.some k]; rfl)⟩)))⟩
theorem je_dnotin [Py α] {m : M (Dic α)} {mk : M Tx} (hu : X.A.units + 64 < cLine) (hk : JE X K b L E e1 mk) (h : JD X K b L E e m) (hb : behindInMarks .NotIn e = false := by rfl) : JE X K b L E (.Compare e1 [.NotIn] [e] pos) (mk >>= fun k => m >>= fun d => (pure (!(dgetM (α := α) d k).isSome) : M Bool)) :=
  ⟨fun σ Hi H en Q hq => PE.wp (pe_cmp (pc_dnotin (by omega) pe_wp pe_wp) hb) (hk.go σ Hi H en _ ((PX.bind hq).imp fun k Hi1 H1 n1 k1 v rv => h.go σ Hi1 H1 (en.nx n1) _ ((PX.bind k1).imp fun d Hi2 H2 n2 k2 p kvs g1 g2 => by
    have rv : v = V.str (G.S k) := rv
    subst rv
    exact ⟨p, _, rfl, DGet.k (k := kT k) g1, k2.here n2.sub _ (by rw [g2.some k]; rfl)⟩)))⟩
/-- d.get(k, x) -/
theorem je_dget2 [Py α] {m : M (Dic α)} {mk : M Tx} {md : M α} {apos : Pos} (hu : X.A.units + 64 < cLine) (h : JD X K b L E e m) (hk : JE X K b L E e1 mk) (hd : JE X K b L E e2 md) (hm : M2 X e "get" apos e1 e2 pos := by exact ⟨rfl, rfl, rfl, rfl⟩) :
    JE X K b L E (.Call (.Attribute e "get" apos) [e1, e2] [] pos) (m >>= fun d => mk >>= fun k => md >>= fun x => (pure ((dgetM (α := α) d k).getD x) : M α)) :=
  ⟨fun σ Hi H en Q hq => PE.wp (pe_dget2 (by omega) pe_wp pe_wp pe_wp hm) (h.go σ Hi H en _ ((PX.bind hq).imp fun d Hi1 H1 n1 k1 p kvs g1 g2 => ⟨p, rfl, .inl ⟨kvs, .of g1⟩, hk.go σ Hi1 H1 (en.nx n1) _ ((PX.bind k1).imp fun k Hi2 H2 n2 k2 v rv => hd.go σ Hi2 H2 ((en.nx n1).nx n2) _ ((PX.bind k2).imp fun x Hi3 H3 n3 k3 u ru => by
    have rv : v = V.str (G.S k) := rv
    subst rv
    refine ⟨valV kvs (kT k), DGet.k (k := kT k) (n3.al _ _ (n2.al _ _ g1)), ?_⟩
    rcases (g2.mono (n2.im.trans n3.im)).get k with ⟨z, z0⟩ | ⟨x', u', z1, z2, z3⟩
    · rw [z] at k3; rw [z0]; exact k3.here n3.sub u ru
    · rw [z1] at k3; rw [z2]; exact k3.here n3.sub u' z3))⟩))⟩
/-- d[k] = v, d held -/
theorem j1_dput [Py α] {m : M α} {mk : M Tx} (i : Nat) {x : Str} {d : List (Tx × α)} {pn : Pos} (hu : X.A.units + 64 < cLine) (h : JE X K b L E e m) (hk : JE X K b L E e1 mk) (hL : L[i]? = some (.mu (ctD K d)) := by rfl) (hN : X.N[i]? = some x := by rfl) (hv : Vis X.env.scope x := by first | exact Or.inl rfl | exact Or.inr (Or.inl rfl) | exact Or.inr (Or.inr rfl))
    (hd : (x == ("__debug__" : Str)) = false := by decide) (hcd : (x == ("__classdict__" : Str)) = false := by decide) (hs : swapsWith e (some (.Subscript (.Name x pn) e1 p')) pos.line X.env = pure false := by rfl) :
    J1 X K b L E (.Assign [.Subscript (.Name x pn) e1 p'] e pos) (m >>= fun a => mk >>= fun k => chk (d.length < SZ) >>= fun _ => (pure (dputM d k a) : M (List (Tx × α)))) (fun d' => L.set i (.mu (ctD K d'))) :=
  ⟨fun σ Hi H en D hz => by
    obtain ⟨p, o, h1, h2, kvs, rfl, h3⟩ := en.at_mu hL
    refine PS.wp (ps_dput (by omega) (pe_var hN hv hd hcd) pe_wp pe_wp hs) (h.go σ Hi H en _ ((PZ.bind en hz).imp fun a Hi1 H1 y1 q1 v rv => ⟨_, h1, hk.go σ Hi1 H1 (en.nx y1) _ ((PZ.bind (en.nx y1) q1).imp fun k Hi2 H2 y2 q2 w rw' => ?_)⟩))
    obtain ⟨c, q2⟩ := PZ.chk q2
    have rw' : w = V.str (G.S k) := rw'
    subst rw'
    have en' := (en.nx y1).nx y2
    refine ⟨p, _, rfl, DPut.k (k := kT k) (y2.al _ _ (y1.al _ _ h2)) (by rw [← h3.length]; exact c), ?_⟩
    exact (show ∀ σ' Hi' H', EnvOk b (L.set i (.mu (ctD K (dputM d k a)))) σ' Hi' H' → D.nx σ' H' from q2) _ Hi2 _ (en'.mut (c' := ctD K (dputM d k a)) hL h1 ⟨_, rfl, (h3.mono (y1.im.trans y2.im)).put (Py.mono y2.im rv)⟩)⟩
theorem jf_dnew [Py α] : JF X K b L E (.Dict [] [] pos) (ctD K (α := α)) (pure [] : M (List (Tx × α))) :=
  ⟨fun σ Hi H en Q hq => PE.wp pe_dnewK fun p hp => (PX.go (a := ([] : List (Tx × α))) hq (Nx.temp en.sub hp)) p _ upd_same hp (hi_none en.sub hp) ⟨[], rfl, .nil⟩⟩
/-- told for good -/
theorem js_frzD [Py α] {β : Type} {m : M β} {post : β → Ends → Prop} (i : Nat) {d : List (Tx × α)} (h : JS X K b (L.set i (.im (rp K (α := Dic α) d))) E rest tl m post) (hL : L[i]? = some (.mu (ctD K d)) := by rfl) : JS X K b L E rest tl m post :=
  ⟨fun σ Hi H en D ht hz => by
    obtain ⟨Hi', en'⟩ := en.frz (p := rp K (α := Dic α) d) hL (fun Hi a Hi' o sm hr ha => by
      obtain ⟨kvs, rfl, r⟩ := hr
      exact ⟨a, kvs, rfl, ha, r.mono sm⟩)
    exact h.go σ Hi' H en' D ht hz⟩
/-! a value of one type or another -/
instance instPySum [Py α] [Py β] : Py (α ⊕ β) := ⟨fun K H x v => match x with
    | .inl a => Py.rep K H a v
    | .inr c => Py.rep K H c v, fun {K H H' a v} e h => by
  cases a with
  | inl a => exact Py.mono (α := α) e h
  | inr a => exact Py.mono (α := β) e h⟩
def getL {α β : Type} : α ⊕ β → M α
  | .inl a => pure a
  | .inr _ => stuck
def getR {α β : Type} : α ⊕ β → M β
  | .inl _ => stuck
  | .inr a => pure a
theorem je_inl [Py α] [Py β] {m : M α} (h : JE X K b L E e m) : JE X K b L E e (m >>= fun x => (pure (.inl x) : M (α ⊕ β))) :=
  ⟨fun σ Hi H en Q hq => h.go σ Hi H en Q ((PX.bind hq).imp fun x Hi1 H1 n1 k v rv => PX.here (a := (Sum.inl x : α ⊕ β)) k n1.sub v rv)⟩
theorem je_inr [Py α] [Py β] {m : M β} (h : JE X K b L E e m) : JE X K b L E e (m >>= fun x => (pure (.inr x) : M (α ⊕ β))) :=
  ⟨fun σ Hi H en Q hq => h.go σ Hi H en Q ((PX.bind hq).imp fun x Hi1 H1 n1 k v rv => PX.here (a := (Sum.inr x : α ⊕ β)) k n1.sub v rv)⟩
theorem je_getL [Py α] [Py β] {m : M (α ⊕ β)} (h : JE X K b L E e m) : JE X K b L E e (m >>= fun x => getL x) :=
  ⟨fun σ Hi H en Q hq => h.go σ Hi H en Q ((PX.bind hq).imp fun x Hi1 H1 n1 k v rv => by
    cases x with
    | inl a => exact PX.here (a := a) k n1.sub v rv
    | inr a => exact k.elim)⟩
theorem je_getR [Py α] [Py β] {m : M (α ⊕ β)} (h : JE X K b L E e m) : JE X K b L E e (m >>= fun x => getR x) :=
  ⟨fun σ Hi H en Q hq => h.go σ Hi H en Q ((PX.bind hq).imp fun x Hi1 H1 n1 k v rv => by
    cases x with
    | inl a => exact k.elim
    | inr a => exact PX.here (a := a) k n1.sub v rv)⟩
end
end G

set_option Elab.async false
set_option linter.all false
set_option maxRecDepth 100000
set_option maxHeartbeats 2000000
namespace G
open PySem L2 TL
theorem flat_strs : ∀ ys : List Str, (ys.map V.str).all flatV = true
  | [] => rfl
  | _ :: r => by rw [List.map_cons, List.all_cons, flat_strs r]; rfl
theorem beq_S (a c : Tx) : ((G.S a : Str) == G.S c) = decide (a = c) := by
  by_cases h : a = c
  · subst h; rw [decide_eq_true rfl]; exact beq_self_eq_true _
  · rw [decide_eq_false h]; exact beq_eq_false_iff_ne.mpr fun z => h (S_inj z)
theorem inV_S (x : Tx) : ∀ ys : List Tx, inV (.str (G.S x)) ((ys.map G.S).map V.str) = decide (x ∈ ys)
  | [] => by simp [inV]
  | y :: r => by
    have ih := inV_S x r
    have e : inV (.str (G.S x)) (((y :: r).map G.S).map V.str) = ((G.S y == G.S x) || inV (.str (G.S x)) ((r.map G.S).map V.str)) := rfl
    rw [e, ih, beq_S]
    by_cases h : y = x
    · subst h; simp
    · have h' : ¬ x = y := fun z => h z.symm
      rw [decide_eq_false h]
      by_cases h2 : x ∈ r <;> simp [h', h2]
section
variable {X : Cx} {K : Fg} {mg : Str → Option Value} {b : Bs} {L L' : List En} {E : XK} {e e1 e2 : Expr} {st : Stmt} {rest body a bb : List Stmt} {α β γ S R : Type} {pos p' p2 p3 p4 : Pos}
/-! a text in a list, a tuple of texts -/
theorem ro_inL : RO K E (rIn K false) (fun (x : Tx) (ys : List Tx) => (pure (decide (x ∈ ys)) : M Bool)) := by
  rintro x ys v w Hi H Q s rfl ⟨p, vs, rfl, h1, h2⟩ h
  have e := h2.tx
  subst e
  exact ⟨p, _, rfl, .inl (Same.seq s h1), rfl, flat_strs _, h.here s _ (congrArg V.bl (inV_S x ys))⟩
theorem ro_notInL : RO K E (rIn K true) (fun (x : Tx) (ys : List Tx) => (pure (!decide (x ∈ ys)) : M Bool)) := by
  rintro x ys v w Hi H Q s rfl ⟨p, vs, rfl, h1, h2⟩ h
  have e := h2.tx
  subst e
  exact ⟨p, _, rfl, .inl (Same.seq s h1), rfl, flat_strs _, h.here s _ (congrArg (fun z => V.bl (!z)) (inV_S x ys))⟩
theorem ro_inU : RO K E (rIn K false) (fun (x : Tx) (ys : Tup Tx) => (pure (decide (x ∈ (show List Tx from ys))) : M Bool)) := by
  rintro x ys v w Hi H Q s rfl ⟨p, vs, rfl, h1, h2⟩ h
  have e := h2.tx
  subst e
  exact ⟨p, _, rfl, .inr (sqt_mono s h1), rfl, flat_strs _, h.here s _ (congrArg V.bl (inV_S x ys))⟩
theorem ro_notInU : RO K E (rIn K true) (fun (x : Tx) (ys : Tup Tx) => (pure (!decide (x ∈ (show List Tx from ys))) : M Bool)) := by
  rintro x ys v w Hi H Q s rfl ⟨p, vs, rfl, h1, h2⟩ h
  have e := h2.tx
  subst e
  exact ⟨p, _, rfl, .inr (sqt_mono s h1), rfl, flat_strs _, h.here s _ (congrArg (fun z => V.bl (!z)) (inV_S x ys))⟩
/-- a tuple of texts of the module: the fact is He.tupB -/
theorem je_gtup {x : Str} {ys : List String} (hm : mg x = some (.ref (He.ga K x))) (hb : He.tupB K x (ys.map fun s => He.Dv.str (Str.ofString s)) = true) (hM : X.mg = mg := by rfl) (hg : Gl X x := by rfl) (hd : (x == ("__debug__" : Str)) = false := by decide) :
    JE X K b L E (.Name x pos) (pure (ys.map tx) : M (Tup Tx)) :=
  .of ⟨tC (.ref (He.ga K x)), pe_glob hg (by rw [hM]; exact hm) rfl hd, fun σ Hi H en Q h => PX.here (α := Tup Tx) (a := ys.map tx) h en.sub _ ⟨He.ga K x, _, rfl, He.tupB_ok hb Hi, by
    rw [List.map_map]
    have key : ∀ ys : List String, Rl K Hi (ys.map tx) (ys.map (He.Dv.v K ∘ fun s => He.Dv.str (Str.ofString s))) := by
      intro ys
      induction ys with
      | nil => exact .nil
      | cons y r ih => exact .cons (show V.str (Str.ofString y) = V.str (G.S (tx y)) by rw [S_tx]) ih
    exact key ys⟩⟩
/-! texts -/
def lstripT (x y : Tx) : M Tx := chk (x.length ≤ SZ) >>= fun _ => pure (Txt.lstripChars (G.S x) (G.S y)).cps.toList
theorem rm_lstrip : RM1 K E (fun x xs H Q => ∃ a b, x = .str a ∧ xs = [.str b] ∧ a.length ≤ sizeLine ∧ Q (.str (Txt.lstripChars a b)) H) lstripT := by
  rintro x y v w Hi H Q s rfl rfl h
  obtain ⟨c, h⟩ := PX.chk h
  exact ⟨G.S x, G.S y, rfl, rfl, by rw [S_length]; exact c, h.here s _ rfl⟩
theorem rm_startswith : RM1 K E (fun x xs H Q => ∃ a b, x = .str a ∧ xs = [.str b] ∧ Q (.bl (Txt.startswith a b)) H) (fun x y : Tx => (pure (Txt.startswith (G.S x) (G.S y)) : M Bool)) := by
  rintro x y v w Hi H Q s rfl rfl h
  exact ⟨G.S x, G.S y, rfl, rfl, h.here s _ rfl⟩
def splitT (x y : Tx) : M (List Tx) := chk (y ≠ [] ∧ x.length + 2 ≤ SZ) >>= fun _ => pure ((Txt.split (G.S x) (G.S y)).map fun z => z.cps.toList)
theorem rl_strs {H : Hp} : ∀ zs : List Str, Rl K H (zs.map fun z => (z.cps.toList : Tx)) (zs.map V.str)
  | [] => .nil
  | z :: r => .cons (show V.str z = V.str (G.S z.cps.toList) from rfl) (rl_strs r)
theorem rm_split : RM1 K E (fun x xs H Q => ∃ a b, x = .str a ∧ xs = [.str b] ∧ (b.length == 0) = false ∧ a.length + 2 ≤ sizeLine ∧ rNewStrs (Txt.split a b) H Q) splitT := by
  rintro x y v w Hi H Q s rfl rfl h
  obtain ⟨⟨c1, c2⟩, h⟩ := PX.chk h
  refine ⟨G.S x, G.S y, rfl, rfl, ?_, by rw [S_length]; exact c2, fun p hp => h.go (Nx.new s hp) _ ⟨p, _, rfl, .of upd_same, rl_strs _⟩⟩
  rw [S_length]
  exact beq_eq_false_iff_ne.mpr fun z => c1 (List.length_eq_zero_iff.mp z)
/-! numbers and texts -/
def intT (x : Tx) : M Int := chk (x.length ≤ 640) >>= fun _ => ofO (PySem.intText? (G.S x))
theorem ra_intT : RA1 K E (fun xs H Q => ∃ a n, xs = [.str a] ∧ PySem.intText? a = some n ∧ a.length ≤ 640 ∧ Q (.int n) H) intT := by
  rintro x v Hi H Q s rfl h
  obtain ⟨c, h⟩ := PX.chk h
  obtain ⟨n, e, h⟩ := PX.ofO1 h
  exact ⟨G.S x, n, rfl, e, by rw [S_length]; exact c, h.here s _ rfl⟩
def intB (k : Bool) : M Int := pure (if k then 1 else 0)
theorem ra_intB : RA1 K E (fun xs H Q => (∃ i, xs = [.int i] ∧ Q (.int i) H) ∨ ∃ k, xs = [.bl k] ∧ Q (.int (if k then 1 else 0)) H) intB := by
  rintro x v Hi H Q s rfl h
  exact .inr ⟨x, rfl, h.here s _ rfl⟩
def strI (i : Int) : M Tx := chk (i.natAbs.log2 < 1920) >>= fun _ => pure (tx (toString i))
theorem ra_strI : RA1 K E (fun xs H Q => ∃ i, xs = [.int i] ∧ i.natAbs.log2 < 1920 ∧ Q (.str (toString i)) H) strI := by
  rintro x v Hi H Q s rfl h
  obtain ⟨c, h⟩ := PX.chk h
  exact ⟨x, rfl, c, h.here s _ (by rw [← S_tx]; rfl)⟩
end
end G

set_option Elab.async false
set_option linter.all false
set_option maxRecDepth 100000
set_option maxHeartbeats 2000000
namespace G
open PySem L2 TL
section
variable {X : Cx} {K : Fg} {mg : Str → Option Value} {b : Bs} {L L' : List En} {E : XK} {e e1 e2 : Expr} {st : Stmt} {rest body a bb : List Stmt} {α β γ S R : Type} {pos p' p2 p3 p4 : Pos}
/-- the same object, seen as of another type -/
theorem je_co [Py α] [Py β] {m : M α} {g : α → β} (hg : ∀ (H : Hp) (x : α) (v : V), Py.rep K H x v → Py.rep K H (g x) v) (h : JE X K b L E e m) : JE X K b L E e (m >>= fun x => pure (g x)) :=
  ⟨fun σ Hi H en Q hq => h.go σ Hi H en Q ((PX.bind hq).imp fun x Hi1 H1 n1 k v rv => PX.here (a := g x) k n1.sub v (hg Hi1 x v rv))⟩
theorem co_fst {α' : Type} [Py α] [Py α'] [Py β] {g : α → α'} (hg : ∀ (H : Hp) (x : α) (v : V), Py.rep K H x v → Py.rep K H (g x) v) : ∀ (H : Hp) (x : α × β) (v : V), Py.rep K H x v → Py.rep K H ((g x.1, x.2) : α' × β) v :=
  fun H x v ⟨p, v1, v2, h1, h2, h3, h4⟩ => ⟨p, v1, v2, h1, h2, hg H _ _ h3, h4⟩
theorem co_snd {α' : Type} [Py α] [Py α'] [Py β] {g : α → α'} (hg : ∀ (H : Hp) (x : α) (v : V), Py.rep K H x v → Py.rep K H (g x) v) : ∀ (H : Hp) (x : β × α) (v : V), Py.rep K H x v → Py.rep K H ((x.1, g x.2) : β × α') v :=
  fun H x v ⟨p, v1, v2, h1, h2, h3, h4⟩ => ⟨p, v1, v2, h1, h2, h3, hg H _ _ h4⟩
theorem co_inl [Py α] [Py β] : ∀ (H : Hp) (x : α) (v : V), Py.rep K H x v → Py.rep K H (Sum.inl x : α ⊕ β) v := fun _ _ _ h => h
theorem co_inr [Py α] [Py β] : ∀ (H : Hp) (x : β) (v : V), Py.rep K H x v → Py.rep K H (Sum.inr x : α ⊕ β) v := fun _ _ _ h => h
theorem co_comp [Py α] [Py β] [Py γ] {f : α → β} {g : β → γ} (hf : ∀ (H : Hp) (x : α) (v : V), Py.rep K H x v → Py.rep K H (f x) v) (hg : ∀ (H : Hp) (x : β) (v : V), Py.rep K H x v → Py.rep K H (g x) v) : ∀ (H : Hp) (x : α) (v : V), Py.rep K H x v → Py.rep K H (g (f x)) v := fun H x v h => hg H _ v (hf H x v h)
/-! a list of one of three types: an empty one is of each -/
def lf1 : List α ⊕ (List β ⊕ List γ) → M (List α)
  | .inl l => pure l
  | .inr (.inl []) => pure []
  | .inr (.inr []) => pure []
  | _ => stuck
def lf2 : List α ⊕ (List β ⊕ List γ) → M (List β)
  | .inr (.inl l) => pure l
  | .inl [] => pure []
  | .inr (.inr []) => pure []
  | _ => stuck
def lf3 : List α ⊕ (List β ⊕ List γ) → M (List γ)
  | .inr (.inr l) => pure l
  | .inl [] => pure []
  | .inr (.inl []) => pure []
  | _ => stuck
theorem rep_nil [Py α] [Py β] {H : Hp} {v : V} (h : Py.rep K H ([] : List α) v) : Py.rep K H ([] : List β) v := by
  obtain ⟨p, vs, h1, h2, h3⟩ := h
  cases h3
  exact ⟨p, [], h1, h2, .nil⟩
theorem je_lf1 [Py α] [Py β] [Py γ] {m : M (List α ⊕ (List β ⊕ List γ))} (h : JE X K b L E e m) : JE X K b L E e (m >>= fun x => lf1 x) :=
  ⟨fun σ Hi H en Q hq => h.go σ Hi H en Q ((PX.bind hq).imp fun x Hi1 H1 n1 k v rv => by
    match x, k, rv with
    | .inl l, k, rv => exact PX.here (a := l) k n1.sub v rv
    | .inr (.inl []), k, rv => exact PX.here (a := ([] : List α)) k n1.sub v (rep_nil (α := β) rv)
    | .inr (.inr []), k, rv => exact PX.here (a := ([] : List α)) k n1.sub v (rep_nil (α := γ) rv)
    | .inr (.inl (_ :: _)), k, _ => exact k.elim
    | .inr (.inr (_ :: _)), k, _ => exact k.elim)⟩
theorem je_lf2 [Py α] [Py β] [Py γ] {m : M (List α ⊕ (List β ⊕ List γ))} (h : JE X K b L E e m) : JE X K b L E e (m >>= fun x => lf2 x) :=
  ⟨fun σ Hi H en Q hq => h.go σ Hi H en Q ((PX.bind hq).imp fun x Hi1 H1 n1 k v rv => by
    match x, k, rv with
    | .inr (.inl l), k, rv => exact PX.here (a := l) k n1.sub v rv
    | .inl [], k, rv => exact PX.here (a := ([] : List β)) k n1.sub v (rep_nil (α := α) rv)
    | .inr (.inr []), k, rv => exact PX.here (a := ([] : List β)) k n1.sub v (rep_nil (α := γ) rv)
    | .inl (_ :: _), k, _ => exact k.elim
    | .inr (.inr (_ :: _)), k, _ => exact k.elim)⟩
theorem je_lf3 [Py α] [Py β] [Py γ] {m : M (List α ⊕ (List β ⊕ List γ))} (h : JE X K b L E e m) : JE X K b L E e (m >>= fun x => lf3 x) :=
  ⟨fun σ Hi H en Q hq => h.go σ Hi H en Q ((PX.bind hq).imp fun x Hi1 H1 n1 k v rv => by
    match x, k, rv with
    | .inr (.inr l), k, rv => exact PX.here (a := l) k n1.sub v rv
    | .inl [], k, rv => exact PX.here (a := ([] : List γ)) k n1.sub v (rep_nil (α := α) rv)
    | .inr (.inl []), k, rv => exact PX.here (a := ([] : List γ)) k n1.sub v (rep_nil (α := β) rv)
    | .inl (_ :: _), k, _ => exact k.elim
    | .inr (.inl (_ :: _)), k, _ => exact k.elim)⟩
/-! a slice of a tuple -/
theorem je_slU [Py α] {lo hi : Option Expr} {ml mh : M (Option Int)} {m : M (Tup α)} (h : JE X K b L E e m) (hl : JO X K b L E lo ml) (hh : JO X K b L E hi mh) (hK : X.K = K := by rfl) :
    JE X K b L E (.Subscript e (.Slice lo hi none p2) pos) (m >>= fun xs => ml >>= fun l => mh >>= fun u => (pure (cut (α := α) xs l u) : M (Tup α))) := by
  subst hK
  obtain ⟨t, d, p⟩ := h.ex
  obtain ⟨t1, d1, p1⟩ := hl.ex
  obtain ⟨t2, d2, p2⟩ := hh.ex
  refine .of ⟨tSl (rSlA X.K) t t1 t2, pe_slice sl_tupA d d1 d2, fun σ Hi H en Q h => p σ Hi H en _ (h.bind.imp fun xs Hi1 H1 n1 k v rv => p1 σ Hi1 H1 (en.nx n1) _ (k.bind.imp fun l Hi2 H2 n2 k2 => p2 σ Hi2 H2 ((en.nx n1).nx n2) _ (k2.bind.imp fun u Hi3 H3 n3 k3 => ?_)))⟩
  obtain ⟨q, vs, rfl, g1, g2⟩ := rv
  have s3 := (n2.im.trans n3.im)
  have hlen : vs.length = List.length (α := α) xs := (Rl.length g2).symm
  refine ⟨q, vs, rfl, sqt_mono (s3.trans n3.sub) g1, fun hw => ?_, fun _ r hr => PX.go (α := Tup α) k3 (Nx.new n3.sub hr) _ ⟨r, _, rfl, .of upd_same, ?_⟩⟩
  · have gen : ∀ ys : List α, vs.length = ys.length → cut ys l u = ys := fun ys hy => by
      unfold cut
      rw [← hy, hw.1, hw.2, List.drop_zero, Nat.sub_zero, hy, List.take_length]
    have e : cut (α := α) xs l u = xs := gen xs hlen
    have k3' : PX X.K E (pure (cut (α := α) xs l u) : M (Tup α)) Hi3 H3 fun a Hi' H' => ∀ v, Py.rep X.K Hi' a v → Q v H' := k3
    rw [e] at k3'
    exact PX.here (α := Tup α) k3' n3.sub _ ⟨q, vs, rfl, sqt_mono s3 g1, g2.mono s3⟩
  · exact ((g2.mono s3).cut l u).mono (same_new (hi_none n3.sub hr))
/-! a held list += a fresh one -/
theorem set_same {σ : L2.St} {i : Nat} {x : Option V} (h : σ[i]? = some x) : σ.set i x = σ := by
  obtain ⟨hl, e⟩ := List.getElem?_eq_some_iff.mp h
  rw [← e]
  exact List.set_getElem_self hl
theorem j1_ext [Py α] {m : M (List α)} (i : Nat) {x : Str} {xs : List α} (h : JF X K b L E e (ctL K) m) (hN : X.N.Nodup) (hL : L[i]? = some (.mu (ctL K xs)) := by rfl) (hi : X.N[i]? = some x := by rfl) (hx : Loc X.env.scope x := by first | exact Or.inl rfl | exact Or.inr rfl) (hf : X.fn x = true ∨ X.env.scope.names.lookup x = some .local := by first | exact .inl rfl | exact .inr rfl) :
    J1 X K b L E (.AugAssign (.Name x p') .Add e pos) (m >>= fun ys => catM xs ys) (fun zs => L.set i (.mu (ctL K zs))) :=
  ⟨fun σ Hi H en D hz => by
    obtain ⟨p, vs, h1, h2, r⟩ := en.muL hL
    refine PS.wp (ps_aug hN hi hx pe_wp (show PIp X .Add rExt2 from iop_ext) hf) ⟨_, h1, h.go σ Hi H en _ ((PZ.bind en hz).imp fun ys Hi' H' n q z o g1 g2 g3 g4 => ?_)⟩
    obtain ⟨c, q⟩ := PZ.chk q
    obtain ⟨ws, rfl, rw'⟩ := g4
    refine ⟨p, z, vs, ws, rfl, rfl, n.al _ _ h2, g1, by rw [← r.length, ← rw'.length]; exact c, ?_⟩
    have en' := (en.nx n).mut (c' := ctL K (xs ++ ys)) hL h1 ⟨_, rfl, (r.mono n.im).app rw'⟩
    show D.nx (List.set σ i (some (V.ref p))) _
    rw [set_same h1]
    exact (show ∀ σ' Hi' H', EnvOk b (L.set i (.mu (ctL K (xs ++ ys)))) σ' Hi' H' → D.nx σ' H' from q) _ Hi' _ en'⟩
/-- list(x), held: x a tuple, a pair of alike things -/
theorem jf_listU [Py α] {m : M (Tup α)} (hm : mg "list" = none) (h : JE X K b L E e m) (hK : X.K = K := by rfl) (hM : X.mg = mg := by rfl)
    (hg : Gl X "list" := by rfl) (he : starEach [e] X.env = (false, eval e X.env) :: starEach [] X.env := by rfl) (hpl : (backTo pos (starEach [] X.env)).any (·.1) = false := by rfl) : JF X K b L E (.Call (.Name "list" p2) [e] [] pos) (ctL K) (m >>= fun xs => (pure xs : M (List α))) := by
  subst hK
  exact ⟨fun σ Hi H en Q hq => PE.wp (pe_callTy call_list_of hg (by rw [hM]; exact hm) bt_list (pa_cons pe_wp pa_nil he) (by decide) (by decide) he hpl) (h.go σ Hi H en _ ((PX.bind hq).imp fun xs Hi1 H1 n1 k v rv => by
    obtain ⟨p, vs, rfl, h1, h2⟩ := rv
    refine ⟨p, vs, rfl, .inr (sqt_mono n1.sub h1), fun r hr => ?_⟩
    have nr : H r = none := by
      cases z : H r with
      | none => rfl
      | some u => rw [n1.al r u z] at hr; cases hr
    exact (PX.go (α := List α) (a := xs) k (Nx.temp n1.sub hr)) r _ upd_same nr (hi_none n1.sub hr) ⟨_, rfl, h2⟩))⟩
theorem jf_listP [Py α] {m : M (α × α)} (hm : mg "list" = none) (h : JE X K b L E e m) (hK : X.K = K := by rfl) (hM : X.mg = mg := by rfl)
    (hg : Gl X "list" := by rfl) (he : starEach [e] X.env = (false, eval e X.env) :: starEach [] X.env := by rfl) (hpl : (backTo pos (starEach [] X.env)).any (·.1) = false := by rfl) : JF X K b L E (.Call (.Name "list" p2) [e] [] pos) (ctL K) (m >>= fun x => (pure [x.1, x.2] : M (List α))) := by
  subst hK
  exact ⟨fun σ Hi H en Q hq => PE.wp (pe_callTy call_list_of hg (by rw [hM]; exact hm) bt_list (pa_cons pe_wp pa_nil he) (by decide) (by decide) he hpl) (h.go σ Hi H en _ ((PX.bind hq).imp fun x Hi1 H1 n1 k v rv => by
    obtain ⟨p, v1, v2, rfl, h1, h2, h3⟩ := rv
    refine ⟨p, [v1, v2], rfl, .inr (sqt_mono n1.sub h1), fun r hr => ?_⟩
    have nr : H r = none := by
      cases z : H r with
      | none => rfl
      | some u => rw [n1.al r u z] at hr; cases hr
    exact (PX.go (α := List α) (a := [x.1, x.2]) k (Nx.temp n1.sub hr)) r _ upd_same nr (hi_none n1.sub hr) ⟨_, rfl, .cons h2 (.cons h3 .nil)⟩))⟩
theorem jt_din [Py α] {m : M (Dic α)} {mk : M Tx} (hu : X.A.units + 64 < cLine) (hk : JE X K b L E e1 mk) (h : JD X K b L E e m) (hb : behindInMarks .In e = false := by rfl) : JT X K b L E (.Compare e1 [.In] [e] pos) (mk >>= fun k => m >>= fun d => (pure (dgetM (α := α) d k).isSome : M Bool)) :=
  ⟨fun σ Hi H en Q hq => PT.wp (pt_cmp (pc_din (by omega) pe_wp pe_wp) hb) (hk.go σ Hi H en _ ((PX.bind hq).imp fun k Hi1 H1 n1 k1 v rv => h.go σ Hi1 H1 (en.nx n1) _ ((PX.bind k1).imp fun d Hi2 H2 n2 k2 p kvs g1 g2 => by
    have rv : v = V.str (G.S k) := rv
    subst rv
    exact ⟨p, _, rfl, DGet.k (k := kT k) g1, _, congrArg V.bl (g2.some k), PX.here k2 n2.sub⟩)))⟩
theorem jt_dnotin [Py α] {m : M (Dic α)} {mk : M Tx} (hu : X.A.units + 64 < cLine) (hk : JE X K b L E e1 mk) (h : JD X K b L E e m) (hb : behindInMarks .NotIn e = false := by rfl) : JT X K b L E (.Compare e1 [.NotIn] [e] pos) (mk >>= fun k => m >>= fun d => (pure (!(dgetM (α := α) d k).isSome) : M Bool)) :=
  ⟨fun σ Hi H en Q hq => PT.wp (pt_cmp (pc_dnotin (by omega) pe_wp pe_wp) hb) (hk.go σ Hi H en _ ((PX.bind hq).imp fun k Hi1 H1 n1 k1 v rv => h.go σ Hi1 H1 (en.nx n1) _ ((PX.bind k1).imp fun d Hi2 H2 n2 k2 p kvs g1 g2 => by
    have rv : v = V.str (G.S k) := rv
    subst rv
    exact ⟨p, _, rfl, DGet.k (k := kT k) g1, _, congrArg (fun z => V.bl (!z)) (g2.some k), PX.here k2 n2.sub⟩)))⟩
end
end G

set_option Elab.async false
set_option linter.all false
set_option maxRecDepth 100000
set_option maxHeartbeats 2000000
namespace G
open PySem L2 TL
/-! index of a tuple of texts of the module -/
def idx1 : List Tx → Tx → Option Nat
  | [], _ => none
  | y :: r, z => if y = z then some 0 else (idx1 r z).map (· + 1)
theorem idx1_ok : ∀ {ys : List Tx} {z : Tx} {j : Nat}, idx1 ys z = some j → (ys.map G.S)[j]? = some (G.S z) ∧ ∀ m, m < j → (ys.map G.S)[m]? ≠ some (G.S z)
  | [], z, j, h => by cases h
  | y :: r, z, j, h => by
    unfold idx1 at h
    by_cases e : y = z
    · rw [if_pos e] at h
      cases h
      exact ⟨by rw [e]; rfl, fun m hm => by omega⟩
    · rw [if_neg e] at h
      cases q : idx1 r z with
      | none => rw [q] at h; cases h
      | some k =>
        rw [q] at h
        have hj : k + 1 = j := Option.some.inj h
        subst hj
        obtain ⟨h1, h2⟩ := idx1_ok q
        refine ⟨h1, fun m hm => ?_⟩
        cases m with
        | zero => exact fun w => e (S_inj (Option.some.inj w))
        | succ m => exact h2 m (by omega)
section
variable {X : Cx} {K : Fg} {mg : Str → Option Value} {b : Bs} {L L' : List En} {E : XK} {e e1 e2 : Expr} {pos p' p2 p3 p4 : Pos}
theorem je_tix {m : M Tx} {x : Str} {ys : List String} {apos pn : Pos} (hm : mg x = some (.ref (He.ga K x))) (hb : He.tupB K x (ys.map fun s => He.Dv.str (Str.ofString s)) = true) (ht : tupN K x = true) (h : JE X K b L E e m) (hK : X.K = K := by rfl) (hM : X.mg = mg := by rfl) (hg : Gl X x := by rfl) (hd : (x == ("__debug__" : Str)) = false := by decide)
    (hbase : attributeBase (.Name x pn) "index" X.env (eval (.Name x pn) X.env) = eval (.Name x pn) X.env := by rfl)
    (hfew : ((backTo pos (starEach [e] X.env)).all (fun x => !x.1) && (backToKw pos (keywordEach [] X.env)).all (fun x => x.1.isSome) && decide ([e].length + ([] : List Keyword).length + (if ([] : List Keyword).isEmpty then 0 else 1) < 30)) = true := by rfl)
    (hline : (apos.endLine == pos.line) = true := by rfl) (hs : starEach [e] X.env = (false, eval e X.env) :: starEach [] X.env := by rfl) (hplain : (backTo pos (starEach [] X.env)).any (·.1) = false := by rfl) :
    JE X K b L E (.Call (.Attribute (.Name x pn) "index" apos) [e] [] pos) (m >>= fun z => ofO (idx1 (ys.map tx) z) >>= fun j => (pure (j : Int) : M Int)) := by
  subst hK
  refine ⟨fun σ Hi H en Q hq => PE.wp (pe_bm PySem.F.plainAttrs_tuple PySem.F.slot_tuple_index PySem.F.type_tuple_index mt_tup_index (pe_glob (v := .ref (He.ga X.K x)) hg (by rw [hM]; exact hm) rfl hd) (pa_cons pe_wp pa_nil hs) hbase hfew hline hs hplain) ⟨.inr (.inl ⟨rfl, ?_⟩), h.go σ Hi H en _ ((PX.bind hq).imp fun z Hi1 H1 n1 k v rv => ?_)⟩⟩
  · unfold tupN at ht
    cases q : X.K.lookup (He.ga X.K x) with
    | none => rw [q] at ht; cases ht
    | some o =>
      rw [q] at ht
      simp only [Bool.and_eq_true, decide_eq_true_eq] at ht
      exact ⟨o, rfl, ht.1, ht.2⟩
  · obtain ⟨j, ej, k⟩ := PX.ofO k
    obtain ⟨g1, g2⟩ := idx1_ok ej
    refine ⟨He.ga X.K x, (ys.map tx).map G.S, G.S z, j, rfl, by rw [show v = V.str (G.S z) from rv], ?_, g1, g2, k.here n1.sub _ rfl⟩
    have := He.tupB_ok hb H1
    have e : (ys.map fun s => He.Dv.str (Str.ofString s)).map (He.Dv.v X.K) = ((ys.map tx).map G.S).map V.str := by
      rw [List.map_map, List.map_map, List.map_map]
      exact List.map_congr_left fun s _ => congrArg V.str (S_tx s).symm
    rw [e] at this
    exact this
end
end G

set_option Elab.async false
set_option linter.all false
set_option maxRecDepth 100000
set_option maxHeartbeats 2000000
namespace G
open PySem L2 TL
/-! a list against the empty list -/
def rEqNil (K : Fg) : R2 := fun x y H Q => ∃ p q xs, x = .ref p ∧ y = .ref q ∧ SqL K H p xs ∧ SqL K H q [] ∧ Q (.bl xs.isEmpty) H
def rNeNil (K : Fg) : R2 := fun x y H Q => ∃ p q xs, x = .ref p ∧ y = .ref q ∧ SqL K H p xs ∧ SqL K H q [] ∧ Q (.bl (!xs.isEmpty)) H
section
variable {X : Cx} {K : Fg} {E : XK} {α : Type}
theorem op_eqNil (hu : X.A.units + 64 < cLine) (hK : X.K = K := by rfl) : OpR X (compareOp .Eq) (rEqNil K) := by
  subst hK
  intro pins s σ H x y v u Q I rx ry h
  obtain ⟨p, q, xs, rfl, rfl, h1, h2, hq⟩ := h
  cases rx
  cases ry
  obtain ⟨us, r1, pl1, _⟩ := I.list h1
  obtain ⟨ts, r2, pl2, _⟩ := I.list h2
  cases r2
  cases r1 with
  | nil =>
    have := SeqAt.RcAt.lists (A := X.A) (e := fun _ => true) pl1.isList pl2.isList rfl (by omega) (fun j j1 j2 => absurd j1 (by simp))
    exact this X.prog X.w _ _ ⟨.bl _, H, I, rfl, hq⟩
  | cons r t =>
    have := SeqAt.RcAt.lists_lengths (A := X.A) pl1.isList pl2.isList (by simp) (by omega)
    exact this X.prog X.w _ _ ⟨.bl _, H, I, rfl, hq⟩
theorem op_neNil (hu : X.A.units + 64 < cLine) (hK : X.K = K := by rfl) : OpR X (compareOp .NotEq) (rNeNil K) := by
  subst hK
  intro pins s σ H x y v u Q I rx ry h
  obtain ⟨p, q, xs, rfl, rfl, h1, h2, hq⟩ := h
  cases rx
  cases ry
  obtain ⟨us, r1, pl1, _⟩ := I.list h1
  obtain ⟨ts, r2, pl2, _⟩ := I.list h2
  cases r2
  cases r1 with
  | nil =>
    have := SeqAt.RcNeAt.lists (A := X.A) (e := fun _ => true) pl1.isList pl2.isList rfl (by omega) (fun j j1 j2 => absurd j1 (by simp))
    exact this X.prog X.w _ _ ⟨.bl _, H, I, rfl, hq⟩
  | cons r t =>
    have := SeqAt.RcNeAt.lists_lengths (A := X.A) pl1.isList pl2.isList (by simp) (by omega)
    exact this X.prog X.w _ _ ⟨.bl _, H, I, rfl, hq⟩
theorem ro_eqNil [Py α] : RO K E (rEqNil K) (fun (a b : List α) => chk (b.isEmpty = true) >>= fun _ => (pure a.isEmpty : M Bool)) := by
  rintro a b v w Hi H Q s ⟨p, vs, rfl, h1, h2⟩ ⟨q, ws, rfl, g1, g2⟩ h
  obtain ⟨c, h⟩ := PX.chk h
  have e : b = [] := List.isEmpty_iff.mp c
  subst e
  cases g2
  refine ⟨p, q, vs, rfl, rfl, Same.seq s h1, Same.seq s g1, h.here s _ ?_⟩
  cases h2 <;> rfl
theorem ro_neNil [Py α] : RO K E (rNeNil K) (fun (a b : List α) => chk (b.isEmpty = true) >>= fun _ => (pure (!a.isEmpty) : M Bool)) := by
  rintro a b v w Hi H Q s ⟨p, vs, rfl, h1, h2⟩ ⟨q, ws, rfl, g1, g2⟩ h
  obtain ⟨c, h⟩ := PX.chk h
  have e : b = [] := List.isEmpty_iff.mp c
  subst e
  cases g2
  refine ⟨p, q, vs, rfl, rfl, Same.seq s h1, Same.seq s g1, h.here s _ ?_⟩
  cases h2 <;> rfl
end
end G

set_option Elab.async false
set_option linter.all false
set_option maxRecDepth 100000
set_option maxHeartbeats 2000000
namespace G
open PySem L2 TL
/-! two lists that names hold alone are handed to a def that changes them: what the frame is behind the call -/
theorem EnvOk.two {K : Fg} {α β : Type} [Py α] [Py β] {b : Bs} {L : List En} {σ : L2.St} {Hi H Hi' H' : Hp} {i j : Nat} {ks ks' : List α} {rs rs' : List β} {p q : Addr} {kvs rvs : List V} (en : EnvOk b L σ Hi H)
    (hi : L[i]? = some (.mu (ctL K ks))) (hj : L[j]? = some (.mu (ctL K rs))) (hij : i ≠ j) (si : σ[i]? = some (some (.ref p))) (sj : σ[j]? = some (some (.ref q))) (o : Ok ⟨Hi, H, [p, q]⟩ Hi' H')
    (ci : H' p = some (.lst kvs)) (ri : Rl K Hi' ks' kvs) (cj : H' q = some (.lst rvs)) (rj : Rl K Hi' rs' rvs) (np : Hi' p = none) (nq : Hi' q = none) :
    EnvOk b ((L.set i (.mu (ctL K ks'))).set j (.mu (ctL K rs'))) σ Hi' H' := by
  obtain ⟨f, ft, fd⟩ := en.fp
  obtain ⟨v1, e1, ⟨p', op, rfl, e3, e4, e5⟩, e6⟩ := ft i false _ hi
  rw [si] at e1
  cases e1
  obtain ⟨v2, f1, ⟨q', oq, rfl, f3, f4, f5⟩, f6⟩ := ft j false _ hj
  rw [sj] at f1
  cases f1
  have li : i < L.length := (List.getElem?_eq_some_iff.mp hi).1
  have lj : j < L.length := (List.getElem?_eq_some_iff.mp hj).1
  have hp := e6 p (by rw [e3]; exact List.mem_singleton.mpr rfl)
  have hq := f6 q (by rw [f3]; exact List.mem_singleton.mpr rfl)
  have hpq : p ≠ q := fun z => hij (fd i j false false _ _ p hi hj (by rw [e3]; exact List.mem_singleton.mpr rfl) (by rw [f3, z]; exact List.mem_singleton.mpr rfl))
  have gi : ((L.set i (.mu (ctL K ks'))).set j (.mu (ctL K rs')))[i]? = some (.mu (ctL K ks')) := by
    rw [List.getElem?_set_ne (Ne.symm hij), List.getElem?_set_self li]
  have gj : ((L.set i (.mu (ctL K ks'))).set j (.mu (ctL K rs')))[j]? = some (.mu (ctL K rs')) := List.getElem?_set_self (by rw [List.length_set]; exact lj)
  refine en.gen ft fd (en.ok.within o fun a ha => ?_) (by rw [List.length_set, List.length_set]; exact en.len) [p, q] (.of (l := []) o) (fun k => k = i ∨ k = j) (fun k hk => ⟨?_, rfl⟩) (fun k w t hk h a ha z => ?_) (fun k r hk h => ?_) (fun k => if k = i then [p] else [q]) (fun k w t hk h => ?_) (fun k l w u t t' a hk hl h1 h2 h3 h4 => ?_)
  · rcases List.mem_cons.mp ha with z | z
    · rw [z]; exact hp.2.2.elim (fun y => .inl y.2) .inr
    · rw [List.mem_singleton.mp z]; exact hq.2.2.elim (fun y => .inl y.2) .inr
  · rw [List.getElem?_set_ne (fun z => hk (.inr z.symm)), List.getElem?_set_ne (fun z => hk (.inl z.symm))]
  · rcases List.mem_cons.mp z with z | z
    · subst z; exact hk (.inl (fd k i w false t _ a h hi ha (by rw [e3]; exact List.mem_singleton.mpr rfl)))
    · have z := List.mem_singleton.mp z
      subst z; exact hk (.inr (fd k j w false t _ a h hj ha (by rw [f3]; exact List.mem_singleton.mpr rfl)))
  · rcases hk with rfl | rfl
    · rw [gi] at h; cases h
    · rw [gj] at h; cases h
  · rcases hk with rfl | rfl
    · rw [gi] at h
      cases h
      refine ⟨_, si, ⟨p, _, rfl, if_pos rfl, ci, kvs, rfl, ri⟩, fun a ha => ?_, fun a ha => ?_⟩
      · rw [if_pos rfl] at ha
        cases List.mem_singleton.mp ha
        exact ⟨(by rw [ci]; exact fun z => nomatch z), np, hp.2.2⟩
      · rw [if_pos rfl] at ha
        cases List.mem_singleton.mp ha
        exact .inl (List.mem_cons_self ..)
    · rw [gj] at h
      cases h
      refine ⟨_, sj, ⟨q, _, rfl, if_neg (Ne.symm hij), cj, rvs, rfl, rj⟩, fun a ha => ?_, fun a ha => ?_⟩
      · rw [if_neg (Ne.symm hij)] at ha
        cases List.mem_singleton.mp ha
        exact ⟨(by rw [cj]; exact fun z => nomatch z), nq, hq.2.2⟩
      · rw [if_neg (Ne.symm hij)] at ha
        cases List.mem_singleton.mp ha
        exact .inl (List.mem_cons_of_mem _ (List.mem_singleton.mpr rfl))
  · rcases hk with rfl | rfl <;> rcases hl with rfl | rfl
    · rfl
    · rw [if_pos rfl] at h3
      rw [if_neg (Ne.symm hij)] at h4
      cases List.mem_singleton.mp h3
      exact absurd (List.mem_singleton.mp h4) hpq
    · rw [if_neg (Ne.symm hij)] at h3
      rw [if_pos rfl] at h4
      cases List.mem_singleton.mp h4
      exact absurd (List.mem_singleton.mp h3) hpq
    · rfl
end G

set_option Elab.async false
set_option linter.all false
set_option maxRecDepth 100000
set_option maxHeartbeats 2000000
namespace G
open PySem L2 TL
/-! the body of a def that changes two lists of its caller's (at p and q) -/
structure Ad where
  a : Addr
instance instPyAd : Py Ad := ⟨fun _ _ x v => v = .ref x.a, fun _ h => h⟩
section
variable {X : Cx} {K : Fg} {b : Bs} {L : List En} {E : XK} {e c : Expr} {st s1 s2 : Stmt} {a rest : List Stmt} {α β γ ρ S S2 : Type} [Py α] [Py β] [Py γ] {pos : Pos} {p q : Addr} {ks : List α} {rs : List β}
structure BsK (K : Fg) {α β : Type} [Py α] [Py β] (b : Bs) (p q : Addr) (ks : List α) (rs : List β) : Prop where
  own : b.own = []
  ne : p ≠ q
  np : b.Hi p = none
  nq : b.Hi q = none
  cp : ∃ kvs, b.H p = some (.lst kvs) ∧ Rl K b.Hi ks kvs
  cq : ∃ rvs, b.H q = some (.lst rvs) ∧ Rl K b.Hi rs rvs
def pKK (K : Fg) {α β : Type} [Py α] [Py β] (b : Bs) (p q : Addr) (D : Ends) (r : List α × List β) : Prop :=
  ∀ σ' Hi' H' kvs rvs, Ok ⟨b.Hi, b.H, [p, q]⟩ Hi' H' → H' p = some (.lst kvs) → H' q = some (.lst rvs) → Hi' p = none → Hi' q = none → Rl K Hi' r.1 kvs → Rl K Hi' r.2 rvs → D.nx σ' H'
structure JK (X : Cx) (K : Fg) {α β : Type} [Py α] [Py β] (p q : Addr) (ks : List α) (rs : List β) (L : List En) (E : XK) (ss : List Stmt) (m : M (List α × List β)) : Prop where
  go : ∀ σ b, EnvOk b L σ b.Hi b.H → BsK K b p q ks rs → ∀ D : Ends, PZ K E ⟨b.Hi, b.H, [p, q]⟩ m (pKK K b p q D) → wpB X ss D σ b.H
theorem EnvOk.thawK {σ : L2.St} {Hi H : Hp} (en : EnvOk b L σ Hi H) (i : Nat) {P : Addr} {xs : List γ} {vs : List V} (ho : b.own = []) (np : b.Hi P = none) (cp : b.H P = some (.lst vs)) (r : Rl K b.Hi xs vs) (hm : noMu L) (hL : L[i]? = some (.im (prR P))) :
    Same Hi (upd Hi P (.lst vs)) ∧ EnvOk ⟨upd Hi P (.lst vs), H, []⟩ (L.set i (.im (rp K xs))) σ (upd Hi P (.lst vs)) H := by
  have hH : H P = some (.lst vs) := en.ok.fr P _ (by rw [ho]; simp) cp
  have hp : Hi P = none := en.ok.cap P (by rw [cp]; exact fun z => nomatch z) np
  have sm : Same Hi (upd Hi P (.lst vs)) := same_new hp
  obtain ⟨hl, _⟩ := List.getElem?_eq_some_iff.mp hL
  have nm : ∀ (j : Nat) (w : Bool) (d : Tr), (L.set i (En.im (rp K xs)))[j]? ≠ some (.tr w d) := fun j w d h => by
    by_cases hj : i = j
    · subst hj; rw [List.getElem?_set_self hl] at h; cases h
    · rw [List.getElem?_set_ne hj] at h; exact hm j w d h
  refine ⟨sm, ⟨fun d u h => ?_, Same.refl _, fun _ _ _ h => h, fun _ h => h, fun _ _ h => h⟩, by rw [List.length_set]; exact en.len, fun j Q h => ?_, fun _ => [], fun j w d h => absurd h (nm j w d), fun j _ w _ d _ _ h => absurd h (nm j w d)⟩
  · by_cases hd : d = P
    · subst hd; rw [upd_same] at h; cases h; exact hH
    · rw [upd_ne hd] at h; exact en.ok.sub d u h
  · by_cases hj : i = j
    · subst hj
      rw [List.getElem?_set_self hl] at h
      cases h
      obtain ⟨v, k1, k2⟩ := en.im i _ hL
      have k2 : v = V.ref P := k2
      subst k2
      exact ⟨_, k1, P, vs, rfl, .of upd_same, r.mono (en.ok.base.trans sm)⟩
    · rw [List.getElem?_set_ne hj] at h
      obtain ⟨v, k1, k2⟩ := en.im j Q h
      exact ⟨v, k1, Q.m sm k2⟩
theorem jt_thawK {m : M Bool} (i : Nat) {P : Addr} {xs : List γ} {vs : List V} (h : ∀ b', b'.own = [] → JT X K b' (L.set i (.im (rp K xs))) E e m) (ho : b.own = []) (np : b.Hi P = none) (cp : b.H P = some (.lst vs)) (r : Rl K b.Hi xs vs) (hm : noMu L) (hL : L[i]? = some (.im (prR P)) := by rfl) : JT X K b L E e m :=
  ⟨fun σ Hi H en Q hq => by
    obtain ⟨s, en'⟩ := en.thawK i ho np cp r hm hL
    exact (h _ rfl).go σ _ H en' Q (hq.thaw (k := Q) s)⟩
theorem jt_thawP {m : M Bool} (i : Nat) (hb : BsK K b p q ks rs) (hm : noMu L) (h : ∀ b', b'.own = [] → JT X K b' (L.set i (.im (rp K ks))) E e m) (hL : L[i]? = some (.im (prR p)) := by rfl) : JT X K b L E e m :=
  let ⟨vs, c1, c2⟩ := hb.cp
  jt_thawK i h hb.own hb.np c1 c2 hm hL
theorem jt_thawQ {m : M Bool} (i : Nat) (hb : BsK K b p q ks rs) (hm : noMu L) (h : ∀ b', b'.own = [] → JT X K b' (L.set i (.im (rp K rs))) E e m) (hL : L[i]? = some (.im (prR q)) := by rfl) : JT X K b L E e m :=
  let ⟨vs, c1, c2⟩ := hb.cq
  jt_thawK i h hb.own hb.nq c1 c2 hm hL
theorem BsK.lift {Hi' H' : Hp} (hb : BsK K b p q ks rs) (o : Ok b Hi' H') : Ok ⟨b.Hi, b.H, [p, q]⟩ Hi' H' := ⟨o.sub, o.base, fun a u _ e => o.fr a u (by rw [hb.own]; simp) e, o.keep, o.cap⟩
theorem BsK.next {Hi' H' : Hp} (hb : BsK K b p q ks rs) (o : Ok b Hi' H') : BsK K ⟨Hi', H', []⟩ p q ks rs := by
  obtain ⟨kvs, c1, c2⟩ := hb.cp
  obtain ⟨rvs, d1, d2⟩ := hb.cq
  exact ⟨rfl, hb.ne, o.cap p (by rw [c1]; exact fun z => nomatch z) hb.np, o.cap q (by rw [d1]; exact fun z => nomatch z) hb.nq, ⟨kvs, o.fr p _ (by rw [hb.own]; simp) c1, c2.mono o.base⟩, ⟨rvs, o.fr q _ (by rw [hb.own]; simp) d1, d2.mono o.base⟩⟩
theorem Ok.over {Hi1 H1 Hi' H' : Hp} {w : List Addr} (o1 : Ok ⟨b.Hi, b.H, w⟩ Hi1 H1) (o : Ok ⟨Hi1, H1, w⟩ Hi' H') : Ok ⟨b.Hi, b.H, w⟩ Hi' H' :=
  ⟨o.sub, o1.base.trans o.base, fun a u n e => o.fr a u n (o1.fr a u n e), fun a h => o.keep a (o1.keep a h), fun a h n => o.cap a (o1.keep a h) (o1.cap a h n)⟩
theorem PZ.pxK {δ : Type} {m : M δ} {f : δ → M ρ} {post : ρ → Prop} (hb : BsK K b p q ks rs) (h : PZ K E ⟨b.Hi, b.H, [p, q]⟩ (m >>= f) post) : PX K E m b.Hi b.H fun a Hi' H' => PZ K E ⟨b.Hi, b.H, [p, q]⟩ (f a) post := by
  cases m with
  | ok a => exact fun _ _ _ => h
  | error e =>
    cases e with
    | rs c => exact fun Hi' H' n => h Hi' H' ⟨n.sub, n.im, fun a u _ e => n.al a u e, fun a e => some_ne n.al e, n.cap⟩
    | st => exact h
theorem jk_go {σ : L2.St} {Hi1 H1 : Hp} {m : M (List α × List β)} {D : Ends} (h : JK X K p q ks rs L E rest m) (hb : BsK K b p q ks rs) (en : EnvOk b L σ Hi1 H1) (hm : noMu L) (hz : PZ K E ⟨b.Hi, b.H, [p, q]⟩ m (pKK K b p q D)) : wpB X rest D σ H1 :=
  h.go σ ⟨Hi1, H1, []⟩ (en.rebase hm en.ok.sub) (hb.next en.ok) D (PZ.base (fun _ _ o => (hb.lift en.ok).over o) (fun r z σ2 Hi2 H2 kvs rvs o => z σ2 Hi2 H2 kvs rvs ((hb.lift en.ok).over o)) hz)
theorem jk_st {m1 : M S} {Lf : S → List En} {m2 : S → M (List α × List β)} (h : ∀ b, BsK K b p q ks rs → J1 X K b L E st m1 Lf) (h2 : ∀ s, JK X K p q ks rs (Lf s) E rest (m2 s)) (hm : ∀ s, noMu (Lf s)) : JK X K p q ks rs L E (st :: rest) (m1 >>= fun s => m2 s) :=
  ⟨fun σ b en hb D hz => PSs.wp (pss_cons ps_wp pss_wp) ((h b hb).go σ b.Hi b.H en _ (PZ.base (fun _ _ o => hb.lift o) (fun s z σ' Hi' H' en' => jk_go (h2 s) hb en' (hm s) z) (PZ.bindz hz)))⟩
/-- if c: s1 else: s2, and what comes behind is told for each branch -/
theorem jk_if2 {mc : M Bool} {m1 : M S} {m2 : M S2} {L1 : S → List En} {L2' : S2 → List En} {n1 : S → M (List α × List β)} {n2 : S2 → M (List α × List β)} (h : ∀ b, BsK K b p q ks rs → JT X K b L E c mc)
    (h1 : ∀ b, BsK K b p q ks rs → J1 X K b L E s1 m1 L1) (h2 : ∀ b, BsK K b p q ks rs → J1 X K b L E s2 m2 L2') (k1 : ∀ s, JK X K p q ks rs (L1 s) E rest (n1 s)) (k2 : ∀ s, JK X K p q ks rs (L2' s) E rest (n2 s)) (hm1 : ∀ s, noMu (L1 s)) (hm2 : ∀ s, noMu (L2' s)) :
    JK X K p q ks rs L E (.If c [s1] [s2] pos :: rest) (mc >>= fun t => if t = true then (m1 >>= fun s => n1 s) else (m2 >>= fun s => n2 s)) :=
  ⟨fun σ b en hb D hz => PSs.wp (pss_cons (ps_if pt_wp (pss_one ps_wp) (pss_one ps_wp)) pss_wp) ((h b hb).go σ b.Hi b.H en _ ((PZ.pxK hb hz).imp fun t Hi' H' x q => by
    cases t with
    | true =>
      rw [if_pos rfl] at q ⊢
      exact (h1 b hb).go σ Hi' H' (en.nx x) _ (PZ.base (fun _ _ o => hb.lift o) (fun s z σ' Hi' H' en' => jk_go (k1 s) hb en' (hm1 s) z) (PZ.bindz q))
    | false =>
      rw [if_neg Bool.false_ne_true] at q ⊢
      exact (h2 b hb).go σ Hi' H' (en.nx x) _ (PZ.base (fun _ _ o => hb.lift o) (fun s z σ' Hi' H' en' => jk_go (k2 s) hb en' (hm2 s) z) (PZ.bindz q))))⟩
/-- if c: raise -/
theorem jk_ifR {mc : M Bool} {ma m2 : M (List α × List β)} (h : ∀ b, BsK K b p q ks rs → JT X K b L E c mc) (h1 : ∀ b, BsK K b p q ks rs → JS X K b L E a tlAny ma (fun _ _ => False)) (hma : ∀ x, ma ≠ .ok x) (h2 : JK X K p q ks rs L E rest m2) (hm : noMu L) :
    JK X K p q ks rs L E (.If c a [] pos :: rest) (mc >>= fun t => if t = true then ma else m2) :=
  ⟨fun σ b en hb D hz => PSs.wp (pss_cons (ps_if pt_wp pss_wp pss_nil) pss_wp) ((h b hb).go σ b.Hi b.H en _ ((PZ.pxK hb hz).imp fun t Hi' H' x q => by
    cases t with
    | true =>
      rw [if_pos rfl] at q ⊢
      refine (h1 b hb).go σ Hi' H' (en.nx x) _ trivial ?_
      cases hx : ma with
      | ok z => exact absurd hx (hma z)
      | error z =>
        rw [hx] at q
        cases z with
        | rs c => exact fun Hi' H' o => q Hi' H' (hb.lift o)
        | st => exact q
    | false =>
      rw [if_neg Bool.false_ne_true] at q ⊢
      exact jk_go h2 hb (en.nx x) hm q))⟩
end
end G

set_option Elab.async false
set_option linter.all false
set_option maxRecDepth 100000
set_option maxHeartbeats 2000000
namespace G
open PySem L2 TL
section
variable {X : Cx} {K : Fg} {b : Bs} {L : List En} {E : XK} {e c : Expr} {α β γ : Type} [Py α] [Py β] [Py γ] {pos p2 : Pos} {p q : Addr} {ks : List α} {rs : List β}
theorem okK {σ : L2.St} {Hi1 H1 : Hp} {P : Addr} {u w : HO} (hb : BsK K b p q ks rs) (o : Ok b Hi1 H1) (hP : P = p ∨ P = q) (h1 : H1 P = some w) (n1 : Hi1 P = none) : Ok ⟨b.Hi, b.H, [p, q]⟩ Hi1 (upd H1 P u) where
  sub := fun a w e => by rw [upd_ne (ne_of_none e n1)]; exact o.sub a w e
  base := o.base
  fr := fun a w n e => by
    have hn : a ≠ P := fun z => n (by rw [z]; rcases hP with z | z <;> rw [z] <;> simp)
    rw [upd_ne hn]; exact o.fr a w (by rw [hb.own]; simp) e
  keep := fun a h => by
    by_cases hn : a = P
    · subst hn; rw [upd_same]; exact fun z => nomatch z
    · rw [upd_ne hn]; exact o.keep a h
  cap := o.cap
theorem jk_appP {m : M α} (i : Nat) {x : Str} {apos : Pos} {pn : Pos} (h : ∀ b, BsK K b p q ks rs → JE X K b L E e m) (hL : L[i]? = some (.im (prR p)) := by rfl) (hN : X.N[i]? = some x := by rfl) (hv : Vis X.env.scope x := by first | exact Or.inl rfl | exact Or.inr (Or.inl rfl) | exact Or.inr (Or.inr rfl))
    (hd : (x == ("__debug__" : Str)) = false := by decide) (hcd : (x == ("__classdict__" : Str)) = false := by decide) (hs1 : starEach [e] X.env = (false, eval e X.env) :: starEach [] X.env := by rfl)
    (hbase : attributeBase (.Name x pn) "append" X.env (eval (.Name x pn) X.env) = eval (.Name x pn) X.env := by rfl)
    (hfew : ((backTo p2 (starEach [e] X.env)).all (fun x => !x.1) && (backToKw p2 (keywordEach [] X.env)).all (fun x => x.1.isSome) && decide ([e].length + ([] : List Keyword).length + (if ([] : List Keyword).isEmpty then 0 else 1) < 30)) = true := by rfl)
    (hline : (apos.endLine == p2.line) = true := by rfl) (hplain : (backTo p2 (starEach [] X.env)).any (·.1) = false := by rfl)
    (hs : swapsWith (.Call (.Attribute (.Name x pn) "append" apos) [e] [] p2) none pos.line X.env = pure false := by rfl) :
    JK X K p q ks rs L E [.Expr (.Call (.Attribute (.Name x pn) "append" apos) [e] [] p2) pos] (m >>= fun a => chk (ks.length < SZ) >>= fun _ => pure (ks ++ [a], rs)) :=
  ⟨fun σ b en hb D hz => by
    obtain ⟨kvs, c1, c2⟩ := hb.cp
    obtain ⟨rvs, d1, d2⟩ := hb.cq
    obtain ⟨v0, h1, h0⟩ := en.im i _ hL
    have h0 : v0 = V.ref p := h0
    subst h0
    refine PSs.wp (pss_one (ps_expr (pe_bm PySem.F.plainAttrs_list PySem.F.slot_list_append PySem.F.type_list_append mt_append (pe_var hN hv hd hcd) (pa_cons pe_wp pa_nil hs1) hbase hfew hline hs1 hplain) hs)) ?_
    refine ⟨_, h1, .inl ⟨rfl, _, SqL.of c1⟩, (h b hb).go σ b.Hi b.H en _ ((PZ.pxK hb hz).imp fun a Hi' H' y z v rv => ?_)⟩
    obtain ⟨ch, z⟩ := PZ.chk z
    have en' := en.nx y
    have np : Hi' p = none := (hb.next en'.ok).np
    have nq : Hi' q = none := (hb.next en'.ok).nq
    have hp1 := y.al _ _ c1
    have hq1 := y.al _ _ d1
    refine ⟨p, kvs, v, rfl, rfl, hp1, by rw [← c2.length]; exact ch, ?_⟩
    exact (show pKK K b p q D (ks ++ [a], rs) from z) _ Hi' _ _ rvs (okK (σ := σ) hb en'.ok (.inl rfl) hp1 np) upd_same (by rw [upd_ne (Ne.symm hb.ne)]; exact hq1) np nq ((c2.mono y.im).app (.cons rv .nil)) (d2.mono y.im)⟩
theorem jk_appQ {m : M β} (i : Nat) {x : Str} {apos : Pos} {pn : Pos} (h : ∀ b, BsK K b p q ks rs → JE X K b L E e m) (hL : L[i]? = some (.im (prR q)) := by rfl) (hN : X.N[i]? = some x := by rfl) (hv : Vis X.env.scope x := by first | exact Or.inl rfl | exact Or.inr (Or.inl rfl) | exact Or.inr (Or.inr rfl))
    (hd : (x == ("__debug__" : Str)) = false := by decide) (hcd : (x == ("__classdict__" : Str)) = false := by decide) (hs1 : starEach [e] X.env = (false, eval e X.env) :: starEach [] X.env := by rfl)
    (hbase : attributeBase (.Name x pn) "append" X.env (eval (.Name x pn) X.env) = eval (.Name x pn) X.env := by rfl)
    (hfew : ((backTo p2 (starEach [e] X.env)).all (fun x => !x.1) && (backToKw p2 (keywordEach [] X.env)).all (fun x => x.1.isSome) && decide ([e].length + ([] : List Keyword).length + (if ([] : List Keyword).isEmpty then 0 else 1) < 30)) = true := by rfl)
    (hline : (apos.endLine == p2.line) = true := by rfl) (hplain : (backTo p2 (starEach [] X.env)).any (·.1) = false := by rfl)
    (hs : swapsWith (.Call (.Attribute (.Name x pn) "append" apos) [e] [] p2) none pos.line X.env = pure false := by rfl) :
    JK X K p q ks rs L E [.Expr (.Call (.Attribute (.Name x pn) "append" apos) [e] [] p2) pos] (m >>= fun a => chk (rs.length < SZ) >>= fun _ => pure (ks, rs ++ [a])) :=
  ⟨fun σ b en hb D hz => by
    obtain ⟨kvs, c1, c2⟩ := hb.cp
    obtain ⟨rvs, d1, d2⟩ := hb.cq
    obtain ⟨v0, h1, h0⟩ := en.im i _ hL
    have h0 : v0 = V.ref q := h0
    subst h0
    refine PSs.wp (pss_one (ps_expr (pe_bm PySem.F.plainAttrs_list PySem.F.slot_list_append PySem.F.type_list_append mt_append (pe_var hN hv hd hcd) (pa_cons pe_wp pa_nil hs1) hbase hfew hline hs1 hplain) hs)) ?_
    refine ⟨_, h1, .inl ⟨rfl, _, SqL.of d1⟩, (h b hb).go σ b.Hi b.H en _ ((PZ.pxK hb hz).imp fun a Hi' H' y z v rv => ?_)⟩
    obtain ⟨ch, z⟩ := PZ.chk z
    have en' := en.nx y
    have np : Hi' p = none := (hb.next en'.ok).np
    have nq : Hi' q = none := (hb.next en'.ok).nq
    have hp1 := y.al _ _ c1
    have hq1 := y.al _ _ d1
    refine ⟨q, rvs, v, rfl, rfl, hq1, by rw [← d2.length]; exact ch, ?_⟩
    exact (show pKK K b p q D (ks, rs ++ [a]) from z) _ Hi' _ kvs _ (okK (σ := σ) hb en'.ok (.inr rfl) hq1 nq) (by rw [upd_ne hb.ne]; exact hp1) upd_same np nq (c2.mono y.im) ((d2.mono y.im).app (.cons rv .nil))⟩
end
end G

set_option Elab.async false
set_option linter.all false
set_option maxRecDepth 100000
set_option maxHeartbeats 2000000
namespace G
open PySem L2 TL
/-! the promise of a def that changes its first two lists, and its call -/
def spK3 (K : Fg) {α β γ : Type} [Py α] [Py β] [Py γ] (f : List α → List β → γ → M (List α × List β)) : Sp := fun vs H Q E => ∃ (ks : List α) (rs : List β) (a : γ) (v : V) (Hi : Hp) (p q : Addr) (kvs rvs : List V),
  vs = [.ref p, .ref q, v] ∧ Same Hi H ∧ p ≠ q ∧ Hi p = none ∧ Hi q = none ∧ H p = some (.lst kvs) ∧ H q = some (.lst rvs) ∧ Rl K Hi ks kvs ∧ Rl K Hi rs rvs ∧ Py.rep K Hi a v ∧
    PZ K E ⟨Hi, H, [p, q]⟩ (f ks rs a) (fun r => ∀ Hi' H' kvs' rvs', Ok ⟨Hi, H, [p, q]⟩ Hi' H' → H' p = some (.lst kvs') → H' q = some (.lst rvs') → Hi' p = none → Hi' q = none → Rl K Hi' r.1 kvs' → Rl K Hi' r.2 rvs' → Q .non H')
theorem mkCK3 {α β γ : Type} [Py α] [Py β] [Py γ] {P : Program} {w : World} {K : Fg} {mg : Str → Option Value} {base : Heap} {x q0 : Str} {fa : Addr} {N : List Str} {p0 p1 p2 : Str} {args : Arguments} {body : List Stmt} {sc : Scope} {k : Nat} {f : List α → List β → γ → M (List α × List β)} {fd : FuncData} (F : FunD K x q0 args body sc [] [] fa fd) (S : FnScope N [p0, p1, p2] sc)
    (h : ∀ (cdv : Value) (A : Around) (outer : List Env) (s : Shared) (H : Hp) (E : XK), Room k (cxOf (L2.CX P w) P w K mg base N q0 sc fa cdv A outer s H E).A → ∀ (p q : Addr) (ks : List α) (rs : List β) (a : γ), JK (cxOf (L2.CX P w) P w K mg base N q0 sc fa cdv A outer s H E) K p q ks rs ([.im (prR p), .im (prR q), .im (rp K a)] ++ List.replicate (N.length - 3) .no) E body (f ks rs a)) : FnOk P w K mg base (L2.CX P w) (k + 1) fa fd [p0, p1, p2] (spK3 K f) := by
  refine F.ok S (fun vs H Q E hh => ?_) (fun cdv A outer s H vs Q E hr hh => ?_)
  · obtain ⟨ks, rs, a, v, Hi, p, q, kvs, rvs, rfl, _⟩ := hh
    rfl
  · obtain ⟨ks, rs, a, v, Hi, p, q, kvs, rvs, rfl, sm, ne, np, nq, cp, cq, rk, rr, ra, z⟩ := hh
    exact ⟨_, pss_wp, (h cdv A outer s H E hr p q ks rs a).go _ ⟨Hi, H, []⟩ (EnvOk.start (ps := [prR p, prR q, rp K a]) sm rfl (Paired.cons rfl (Paired.cons rfl (Paired.cons ra Paired.nil)))) ⟨rfl, ne, np, nq, ⟨kvs, cp, rk⟩, ⟨rvs, cq, rr⟩⟩ _ (PZ.imp z fun r z σ' Hi' H' k1 k2 o => z Hi' H' k1 k2 o)⟩
theorem mkFK3 {α β γ : Type} [Py α] [Py β] [Py γ] {P : Program} {w : World} {K : Fg} {mg : Str → Option Value} {base : Heap} {x : Str} {N : List Str} {p0 p1 p2 : Str} {args : Arguments} {body : List Stmt} {sc : Scope} {k : Nat} {f : List α → List β → γ → M (List α × List β)} (F : ∃ fd, FunD K x x args body sc [] [] (He.ga K x) fd) (g : mg x = some (.ref (He.ga K x))) (S : FnScope N [p0, p1, p2] sc)
    (hb : ∀ (kV doc pm : Value) (an : Option Addr) (cdv ct : Value) (us : List Value), us.length = [p0, p1, p2].length → bindArgs (PySem.W.fnOf x x args body sc .none kV doc pm an cdv ct) ⟨us, []⟩ = pure ([p0, p1, p2].zip us))
    (h : ∀ (cdv : Value) (A : Around) (outer : List Env) (s : Shared) (H : Hp) (E : XK), Room k (cxOf (L2.CX P w) P w K mg base N x sc (He.ga K x) cdv A outer s H E).A → ∀ (p q : Addr) (ks : List α) (rs : List β) (a : γ), JK (cxOf (L2.CX P w) P w K mg base N x sc (He.ga K x) cdv A outer s H E) K p q ks rs ([.im (prR p), .im (prR q), .im (rp K a)] ++ List.replicate (N.length - 3) .no) E body (f ks rs a)) : OkF P w K mg base x (k + 1) (spK3 K f) := by
  obtain ⟨fd, F⟩ := F
  exact ⟨_, fd, [p0, p1, p2], g, F.kp, mkCK3 F S h, F.bindsN hb⟩
section
variable {X : Cx} {K : Fg} {b : Bs} {L : List En} {E : XK} {e : Expr} {α β γ : Type} [Py α] [Py β] [Py γ] {pos pos0 : Pos} {ks : List α} {rs : List β}
theorem j1_callK {m : M γ} {f : List α → List β → γ → M (List α × List β)} {x y1 y2 : Str} {p pn1 pn2 : Pos} {k : Nat} (i j : Nat) (F : OkF X.prog X.w X.K X.mg X.base x k (spK3 K f)) (hr : Room k X.A) (hx : Passes (L2.CX X.prog X.w) X E) (h : JE X K b L E e m)
    (hi : L[i]? = some (.mu (ctL K ks)) := by rfl) (hj : L[j]? = some (.mu (ctL K rs)) := by rfl) (hij : i ≠ j := by decide) (hN1 : X.N[i]? = some y1 := by rfl) (hN2 : X.N[j]? = some y2 := by rfl)
    (hv1 : Vis X.env.scope y1 := by first | exact Or.inl rfl | exact Or.inr (Or.inl rfl) | exact Or.inr (Or.inr rfl)) (hv2 : Vis X.env.scope y2 := by first | exact Or.inl rfl | exact Or.inr (Or.inl rfl) | exact Or.inr (Or.inr rfl))
    (hd1 : (y1 == ("__debug__" : Str)) = false := by decide) (hcd1 : (y1 == ("__classdict__" : Str)) = false := by decide) (hd2 : (y2 == ("__debug__" : Str)) = false := by decide) (hcd2 : (y2 == ("__classdict__" : Str)) = false := by decide)
    (hg : Gl X x := by rfl) (hdb : (x == ("__debug__" : Str)) = false := by decide) (s0 : starEach [.Name y1 pn1, .Name y2 pn2, e] X.env = (false, eval (.Name y1 pn1) X.env) :: starEach [.Name y2 pn2, e] X.env := by rfl)
    (s1 : starEach [.Name y2 pn2, e] X.env = (false, eval (.Name y2 pn2) X.env) :: starEach [e] X.env := by rfl) (s2 : starEach [e] X.env = (false, eval e X.env) :: starEach [] X.env := by rfl) (hpl : (backTo pos0 (starEach [.Name y2 pn2, e] X.env)).any (·.1) = false := by rfl)
    (hs : swapsWith (.Call (.Name x p) [.Name y1 pn1, .Name y2 pn2, e] [] pos0) none pos.line X.env = pure false := by rfl) :
    J1 X K b L E (.Expr (.Call (.Name x p) [.Name y1 pn1, .Name y2 pn2, e] [] pos0) pos) (m >>= fun a => f ks rs a) (fun r => (L.set i (.mu (ctL K r.1))).set j (.mu (ctL K r.2))) :=
  ⟨fun σ Hi H en D hz => by
    obtain ⟨fa, fd, ps, F1, F2, F3, F4⟩ := F.ex
    obtain ⟨u, o, u1, u2, u3, u4, u5⟩ := en.mu i _ hi
    obtain ⟨w, o', w1, w2, w3, w4, w5⟩ := en.mu j _ hj
    refine PS.wp (ps_expr (pe_call F3 hr hg F1 F2 F4 .nil hx (pa_cons (pe_var hN1 hv1 hd1 hcd1) (pa_cons (pe_var hN2 hv2 hd2 hcd2) (pa_cons pe_wp pa_nil s2) s1) s0) hdb s0 hpl) hs) ?_
    refine ⟨_, u1, _, w1, h.go σ Hi H en _ ((PZ.bind en hz).imp fun a Hi1 H1 n1 z v rv => ?_)⟩
    have en1 := en.nx n1
    obtain ⟨u', o1, g1, g2, g3, g4, kvs, rfl, g5⟩ := en1.mu i _ hi
    rw [u1] at g1
    cases g1
    obtain ⟨w', o2, k1, k2, k3, k4, rvs, rfl, k5⟩ := en1.mu j _ hj
    rw [w1] at k1
    cases k1
    have ne : u ≠ w := fun y => hij (en1.dis i j _ _ u hi hj u1 (by rw [y]; exact w1))
    refine ⟨ks, rs, a, v, Hi1, u, w, kvs, rvs, rfl, en1.sub, ne, g3, k3, g2, k2, g5, k5, rv, ?_⟩
    cases hf : f ks rs a with
    | error y =>
      rw [hf] at z
      cases y with
      | rs c => exact fun Hi' H' o => z Hi' H' ⟨o.sub, en1.ok.base.trans o.base, fun a w' hn hb => o.fr a w' (fun y => by
          rcases List.mem_cons.mp y with y | y
          · subst y
            rcases g4 with y | y
            · exact hn y
            · rw [y] at hb; cases hb
          · have y := List.mem_singleton.mp y
            subst y
            rcases k4 with y | y
            · exact hn y
            · rw [y] at hb; cases hb) (en1.ok.fr a w' hn hb), fun a hb => o.keep a (en1.ok.keep a hb), fun a hb n => o.cap a (en1.ok.keep a hb) (en1.ok.cap a hb n)⟩
      | st => exact z
    | ok r =>
      rw [hf] at z
      exact fun Hi' H' kvs' rvs' o c1 c2 n1 n2 r1 r2 => z σ Hi' H' (en1.two hi hj hij u1 w1 o c1 r1 c2 r2 n1 n2)⟩
end
end G

set_option Elab.async false
set_option linter.all false
set_option maxRecDepth 100000
set_option maxHeartbeats 2000000
namespace G
open PySem L2 TL
section
variable {X : Cx} {K : Fg} {b : Bs} {L : List En} {E : XK} {pos p' p2 : Pos}
/-- another name for what a name stands for -/
theorem j1_alias (i j : Nat) {x y : Str} {P : Pr} (hN : X.N.Nodup) (hL : L[j]? = some (.im P) := by rfl) (hNj : X.N[j]? = some y := by rfl) (hv : Vis X.env.scope y := by first | exact Or.inl rfl | exact Or.inr (Or.inl rfl) | exact Or.inr (Or.inr rfl))
    (hd : (y == ("__debug__" : Str)) = false := by decide) (hcd : (y == ("__classdict__" : Str)) = false := by decide) (hi : X.N[i]? = some x := by rfl) (hx : Loc X.env.scope x := by first | exact Or.inl rfl | exact Or.inr rfl)
    (hs : swapsWith (.Name y p2) (some (.Name x p')) pos.line X.env = pure false := by rfl) (hf : X.fn x = true ∨ X.env.scope.names.lookup x = some .local := by first | exact .inl rfl | exact .inr rfl) :
    J1 X K b L E (.Assign [.Name x p'] (.Name y p2) pos) (pure ()) (fun _ => L.set i (.im P)) :=
  ⟨fun σ Hi H en D hz => by
    obtain ⟨v, h1, h2⟩ := en.im j _ hL
    refine PS.wp (ps_set hN hi hx (pe_var hNj hv hd hcd) hs hf) ⟨v, h1, ?_⟩
    exact (show ∀ σ' Hi' H', EnvOk b (L.set i (.im P)) σ' Hi' H' → D.nx σ' H' from hz) _ Hi H (en.set h2)⟩
end
end G

set_option Elab.async false
set_option linter.all false
set_option maxRecDepth 100000
set_option maxHeartbeats 2000000
namespace G
open PySem L2 TL
def replT (x y z : Tx) : M Tx := chk (x.length + (x.length + 1) * z.length ≤ 16777216) >>= fun _ => pure (Txt.replace (G.S x) (G.S y) (G.S z)).cps.toList
section
variable {X : Cx} {K : Fg} {b : Bs} {L : List En} {E : XK} {e : Expr} {te : TE} {α : Type} [Py α]
/-- x.join(e).replace(y, z) of written texts: the receiver's first sign lays the token -/
theorem pe_joinRepl {x y z : Str} {i j k : Nat} {cx c0 c1 ap p2 apos pos : Pos} (he : PE X e te) (hyz : (y == z) = false) 
    (hs : starEach [e] X.env = [(false, eval e X.env)]) (hbi : attributeBase (.Constant (.str x) i cx) "join" X.env (eval (.Constant (.str x) i cx) X.env) = eval (.Constant (.str x) i cx) X.env) (hli : (ap.endLine == p2.line) = true)
    (hst : starEach [.Constant (.str y) j c0, .Constant (.str z) k c1] X.env = [(false, eval (.Constant (.str y) j c0) X.env), (false, eval (.Constant (.str z) k c1) X.env)])
    (hbase : attributeBase (.Call (.Attribute (.Constant (.str x) i cx) "join" ap) [e] [] p2) "replace" X.env (eval (.Call (.Attribute (.Constant (.str x) i cx) "join" ap) [e] [] p2) X.env) = eval (.Call (.Attribute (.Constant (.str x) i cx) "join" ap) [e] [] p2) X.env) (hline : (apos.endLine == pos.line) = true) :
    PE X (.Call (.Attribute (.Call (.Attribute (.Constant (.str x) i cx) "join" ap) [e] [] p2) "replace" apos) [.Constant (.str y) j c0, .Constant (.str z) k c1] [] pos)
      (fun σ H Q => te σ H fun v H1 => rJoin X.K (.str x) [v] H1 fun u H2 => ∃ w, u = .str w ∧ w.length + (w.length + 1) * z.length ≤ 16777216 ∧ Q (.str (Txt.replace w y z)) H2) := by
  refine ⟨fun pins s σ H Q I h => ?_⟩
  have first : wpAny (model X.prog X.w) X.A (eval (.Call (.Attribute (.Constant (.str x) i cx) "join" ap) [e] [] p2) X.env)
      (fun v s' => s.toks + 1 ≤ s'.toks ∧ EP X pins σ (fun u H2 => ∃ w, u = .str w ∧ w.length + (w.length + 1) * z.length ≤ 16777216 ∧ Q (.str (Txt.replace w y z)) H2) v s') X.xe s := by
    refine PySem.Call_method1 hbi hs hli (Calls.Constant_str ?_)
    refine ⟨"str", _, PySem.F.plainAttrs_str, PySem.F.slot_str_join, PySem.F.type_str_join, typeIs_str _ _ _, (fun _ e => nomatch e), ?_⟩
    refine wpAny_mono (wpAny_toks (Q := EP X pins σ (fun u H2 => ∃ w, u = .str w ∧ w.length + (w.length + 1) * z.length ≤ 16777216 ∧ Q (.str (Txt.replace w y z)) H2)) (E := X.xe) ?_) (fun _ _ q => q) fun _ _ q => q.2
    refine Calls.callWith_builtin rfl (Calls.evalArgs_plain (Calls.spliced_cons ?_))
    exact thn (he.run pins _ σ H _ (I.tok _) h) fun u s2 ⟨y1, H2, I2, r2, q2⟩ => Calls.spliced_nil (mt_join pins s2 σ H2 (.str x) [y1] _ [u] _ I2 ⟨s.toks, rfl⟩ (.cons r2 .nil) q2)
  refine PySem.Call_method2 hbase hst hline (wpAny_mono first (fun v s1 q => ?_) fun _ _ z => z)
  obtain ⟨hk, v', H1, I1, r1, w, e1, hb, q⟩ := q
  subst e1
  obtain ⟨tw, e2⟩ := r1
  subst e2
  refine ⟨"str", _, PySem.F.plainAttrs_str, PySem.F.slot_str_replace, PySem.F.type_str_replace, typeIs_str _ _ _, (fun _ e => nomatch e), Calls.callWith_builtin rfl (Calls.evalArgs_plain (Calls.spliced_cons ?_))⟩
  refine Calls.Constant_str (Calls.spliced_cons (Calls.Constant_str (Calls.spliced_nil ?_)))
  exact PySem.SC.replace (by show s1.toks ≠ 0; omega) (by show s1.toks + 1 ≠ 0; omega) (by show s1.toks ≠ s1.toks + 1; omega) hyz hb fun t' k => ⟨.str (Txt.replace w y z), H1, I1.tok k, ⟨t', rfl⟩, q⟩
theorem je_joinRepl {x y z : String} {i j k : Nat} {cx c0 c1 ap p2 apos pos : Pos} {f : Tx → α → M Tx} {m : M α} (hr : ∀ E, RM1 K E (rJoin K) f) (he : JE X K b L E e m) (hyz : (Str.ofString y == Str.ofString z) = false := by decide +kernel) (hK : X.K = K := by rfl)
    (hs : starEach [e] X.env = [(false, eval e X.env)] := by rfl) (hbi : attributeBase (.Constant (.str (Str.ofString x)) i cx) "join" X.env (eval (.Constant (.str (Str.ofString x)) i cx) X.env) = eval (.Constant (.str (Str.ofString x)) i cx) X.env := by rfl) (hli : (ap.endLine == p2.line) = true := by rfl)
    (hst : starEach [.Constant (.str (Str.ofString y)) j c0, .Constant (.str (Str.ofString z)) k c1] X.env = [(false, eval (.Constant (.str (Str.ofString y)) j c0) X.env), (false, eval (.Constant (.str (Str.ofString z)) k c1) X.env)] := by rfl)
    (hbase : attributeBase (.Call (.Attribute (.Constant (.str (Str.ofString x)) i cx) "join" ap) [e] [] p2) "replace" X.env (eval (.Call (.Attribute (.Constant (.str (Str.ofString x)) i cx) "join" ap) [e] [] p2) X.env) = eval (.Call (.Attribute (.Constant (.str (Str.ofString x)) i cx) "join" ap) [e] [] p2) X.env := by rfl) (hline : (apos.endLine == pos.line) = true := by rfl) :
    JE X K b L E (.Call (.Attribute (.Call (.Attribute (.Constant (.str (Str.ofString x)) i cx) "join" ap) [e] [] p2) "replace" apos) [.Constant (.str (Str.ofString y)) j c0, .Constant (.str (Str.ofString z)) k c1] [] pos)
      (m >>= fun v => f (tx x) v >>= fun w => replT w (tx y) (tx z)) := by
  subst hK
  obtain ⟨t, d, p⟩ := he.ex
  refine .of ⟨_, pe_joinRepl d hyz hs hbi hli hst hbase hline, fun σ Hi H en Q hq => p σ Hi H en _ (hq.bind.imp fun v Hi1 H1 n1 q u ru => ?_)⟩
  refine hr E (tx x) v _ u Hi1 H1 _ n1.sub (congrArg V.str (S_tx x).symm) ru (q.bind.imp fun w Hi2 H2 n2 q2 u2 r2 => ?_)
  have r2 : u2 = .str (G.S w) := r2
  subst r2
  obtain ⟨c, q2⟩ := PX.chk q2
  refine ⟨_, rfl, ?_, q2.here n2.sub _ ?_⟩
  · rw [S_length, ← S_tx, S_length]; exact c
  · rw [S_tx, S_tx]; rfl
end
end G

set_option Elab.async false
set_option linter.all false
set_option maxRecDepth 100000
set_option maxHeartbeats 2000000
namespace G
open PySem L2 TL
structure T5 (α β γ δ ε : Type) where
  a : α
  b : β
  c : γ
  d : δ
  e : ε
  deriving DecidableEq
instance instPyT5 {α β γ δ ε : Type} [Py α] [Py β] [Py γ] [Py δ] [Py ε] : Py (T5 α β γ δ ε) := ⟨fun K H x v => ∃ p v1 v2 v3 v4 v5, v = .ref p ∧ SqT K H p [v1, v2, v3, v4, v5] ∧ Py.rep K H x.a v1 ∧ Py.rep K H x.b v2 ∧ Py.rep K H x.c v3 ∧ Py.rep K H x.d v4 ∧ Py.rep K H x.e v5,
  fun e ⟨p, v1, v2, v3, v4, v5, h1, h2, h3, h4, h5, h6, h7⟩ => ⟨p, v1, v2, v3, v4, v5, h1, sqt_mono e h2, Py.mono e h3, Py.mono e h4, Py.mono e h5, Py.mono e h6, Py.mono e h7⟩⟩
section
variable {X : Cx} {K : Fg} {b : Bs} {L : List En} {E : XK} {e e1 e2 e3 e4 e5 : Expr} {α β γ δ ε : Type} [Py α] [Py β] [Py γ] [Py δ] [Py ε] {m1 : M α} {m2 : M β} {m3 : M γ} {m4 : M δ} {m5 : M ε} {pos : Pos}
theorem je_quad (h1 : JE X K b L E e1 m1) (h2 : JE X K b L E e2 m2) (h3 : JE X K b L E e3 m3) (h4 : JE X K b L E e4 m4) (hs : starEach [e1, e2, e3, e4] X.env = (false, eval e1 X.env) :: starEach [e2, e3, e4] X.env := by rfl)
    (hs2 : starEach [e2, e3, e4] X.env = (false, eval e2 X.env) :: starEach [e3, e4] X.env := by rfl) (hs3 : starEach [e3, e4] X.env = (false, eval e3 X.env) :: starEach [e4] X.env := by rfl) (hs4 : starEach [e4] X.env = (false, eval e4 X.env) :: starEach [] X.env := by rfl) :
    JE X K b L E (.Tuple [e1, e2, e3, e4] x1 pos) (m1 >>= fun x => m2 >>= fun y => m3 >>= fun z => m4 >>= fun u => pure (T4.mk x y z u)) := by
  obtain ⟨t1, d1, p1⟩ := h1.ex
  obtain ⟨t2, d2, p2⟩ := h2.ex
  obtain ⟨t3, d3, p3⟩ := h3.ex
  obtain ⟨t4, d4, p4⟩ := h4.ex
  refine .of ⟨tTup (tCons t1 (tCons t2 (tCons t3 (tCons t4 tNil)))), pe_tup (pa_cons d1 (pa_cons d2 (pa_cons d3 (pa_cons d4 pa_nil hs4) hs3) hs2) hs), fun σ Hi H en Q h => p1 σ Hi H en _ (h.bind.imp fun x Hi1 H1 n1 k v rv => p2 σ Hi1 H1 (en.nx n1) _
    (k.bind.imp fun y Hi2 H2 n2 k2 w rw => p3 σ Hi2 H2 ((en.nx n1).nx n2) _ (k2.bind.imp fun z Hi3 H3 n3 k3 u ru => p4 σ Hi3 H3 (((en.nx n1).nx n2).nx n3) _ (k3.bind.imp fun z4 Hi4 H4 n4 k4 u4 ru4 => ⟨by show 4 ≤ sizeLine; decide, fun q hq => ?_⟩))))⟩
  have sm := same_new (o := .tup [v, w, u, u4]) (hi_none n4.sub hq)
  exact k4.go (Nx.new n4.sub hq) _ ⟨q, v, w, u, u4, rfl, .of upd_same, Py.mono (((n2.im.trans n3.im).trans n4.im).trans sm) rv, Py.mono ((n3.im.trans n4.im).trans sm) rw, Py.mono (n4.im.trans sm) ru, Py.mono sm ru4⟩
theorem je_quin (h1 : JE X K b L E e1 m1) (h2 : JE X K b L E e2 m2) (h3 : JE X K b L E e3 m3) (h4 : JE X K b L E e4 m4) (h5 : JE X K b L E e5 m5) (hs : starEach [e1, e2, e3, e4, e5] X.env = (false, eval e1 X.env) :: starEach [e2, e3, e4, e5] X.env := by rfl)
    (hs2 : starEach [e2, e3, e4, e5] X.env = (false, eval e2 X.env) :: starEach [e3, e4, e5] X.env := by rfl) (hs3 : starEach [e3, e4, e5] X.env = (false, eval e3 X.env) :: starEach [e4, e5] X.env := by rfl) (hs4 : starEach [e4, e5] X.env = (false, eval e4 X.env) :: starEach [e5] X.env := by rfl) (hs5 : starEach [e5] X.env = (false, eval e5 X.env) :: starEach [] X.env := by rfl) :
    JE X K b L E (.Tuple [e1, e2, e3, e4, e5] x1 pos) (m1 >>= fun x => m2 >>= fun y => m3 >>= fun z => m4 >>= fun u => m5 >>= fun w => pure (T5.mk x y z u w)) := by
  obtain ⟨t1, d1, p1⟩ := h1.ex
  obtain ⟨t2, d2, p2⟩ := h2.ex
  obtain ⟨t3, d3, p3⟩ := h3.ex
  obtain ⟨t4, d4, p4⟩ := h4.ex
  obtain ⟨t5, d5, p5⟩ := h5.ex
  refine .of ⟨tTup (tCons t1 (tCons t2 (tCons t3 (tCons t4 (tCons t5 tNil))))), pe_tup (pa_cons d1 (pa_cons d2 (pa_cons d3 (pa_cons d4 (pa_cons d5 pa_nil hs5) hs4) hs3) hs2) hs), fun σ Hi H en Q h => p1 σ Hi H en _ (h.bind.imp fun x Hi1 H1 n1 k v rv => p2 σ Hi1 H1 (en.nx n1) _
    (k.bind.imp fun y Hi2 H2 n2 k2 w rw => p3 σ Hi2 H2 ((en.nx n1).nx n2) _ (k2.bind.imp fun z Hi3 H3 n3 k3 u ru => p4 σ Hi3 H3 (((en.nx n1).nx n2).nx n3) _ (k3.bind.imp fun z4 Hi4 H4 n4 k4 u4 ru4 => p5 σ Hi4 H4 ((((en.nx n1).nx n2).nx n3).nx n4) _ (k4.bind.imp fun z5 Hi5 H5 n5 k5 u5 ru5 => ⟨by show 5 ≤ sizeLine; decide, fun q hq => ?_⟩)))))⟩
  have sm := same_new (o := .tup [v, w, u, u4, u5]) (hi_none n5.sub hq)
  exact k5.go (Nx.new n5.sub hq) _ ⟨q, v, w, u, u4, u5, rfl, .of upd_same, Py.mono ((((n2.im.trans n3.im).trans n4.im).trans n5.im).trans sm) rv, Py.mono (((n3.im.trans n4.im).trans n5.im).trans sm) rw, Py.mono ((n4.im.trans n5.im).trans sm) ru, Py.mono (n5.im.trans sm) ru4, Py.mono sm ru5⟩
/-- a place of a tuple of unlike things -/
def At (α β : Type) [Py α] [Py β] (i : Nat) (g : α → β) : Prop := ∀ (K : Fg) (H : Hp) (x : α) (v : V), Py.rep K H x v → ∃ p vs u, v = .ref p ∧ SqT K H p vs ∧ atI vs (i : Int) = some u ∧ Py.rep K H (g x) u
theorem at_q0 : At (T4 α β γ δ) α 0 T4.a := fun K H x v ⟨p, v1, v2, v3, v4, h1, h2, h3, h4, h5, h6⟩ => ⟨p, _, v1, h1, h2, rfl, h3⟩
theorem at_q1 : At (T4 α β γ δ) β 1 T4.b := fun K H x v ⟨p, v1, v2, v3, v4, h1, h2, h3, h4, h5, h6⟩ => ⟨p, _, v2, h1, h2, rfl, h4⟩
theorem at_q2 : At (T4 α β γ δ) γ 2 T4.c := fun K H x v ⟨p, v1, v2, v3, v4, h1, h2, h3, h4, h5, h6⟩ => ⟨p, _, v3, h1, h2, rfl, h5⟩
theorem at_q3 : At (T4 α β γ δ) δ 3 T4.d := fun K H x v ⟨p, v1, v2, v3, v4, h1, h2, h3, h4, h5, h6⟩ => ⟨p, _, v4, h1, h2, rfl, h6⟩
theorem at_v0 : At (T5 α β γ δ ε) α 0 T5.a := fun K H x v ⟨p, v1, v2, v3, v4, v5, h1, h2, h3, h4, h5, h6, h7⟩ => ⟨p, _, v1, h1, h2, rfl, h3⟩
theorem at_v1 : At (T5 α β γ δ ε) β 1 T5.b := fun K H x v ⟨p, v1, v2, v3, v4, v5, h1, h2, h3, h4, h5, h6, h7⟩ => ⟨p, _, v2, h1, h2, rfl, h4⟩
theorem at_v2 : At (T5 α β γ δ ε) γ 2 T5.c := fun K H x v ⟨p, v1, v2, v3, v4, v5, h1, h2, h3, h4, h5, h6, h7⟩ => ⟨p, _, v3, h1, h2, rfl, h5⟩
theorem at_v3 : At (T5 α β γ δ ε) δ 3 T5.d := fun K H x v ⟨p, v1, v2, v3, v4, v5, h1, h2, h3, h4, h5, h6, h7⟩ => ⟨p, _, v4, h1, h2, rfl, h6⟩
theorem at_v4 : At (T5 α β γ δ ε) ε 4 T5.e := fun K H x v ⟨p, v1, v2, v3, v4, v5, h1, h2, h3, h4, h5, h6, h7⟩ => ⟨p, _, v5, h1, h2, rfl, h7⟩
theorem je_at {m : M α} {g : α → β} {i j : Nat} {p2 : Pos} (a : At α β i g) (h : JE X K b L E e m) (hK : X.K = K := by rfl) : JE X K b L E (.Subscript e (.Constant (.int (i : Int)) j p2) pos) (m >>= fun x => (pure (g x) : M β)) := by
  obtain ⟨t, d, p⟩ := h.ex
  refine .of ⟨tOp (rIxT K) t (tC (.int i)), pe_ix (by rw [← hK]; exact ix_tup) d pe_int (fun _ _ => rfl), fun σ Hi H en Q h => p σ Hi H en _ (h.bind.imp fun x Hi1 H1 n1 k v rv => ?_)⟩
  obtain ⟨q, vs, u, rfl, g1, g2, g3⟩ := a K Hi1 x v rv
  exact ⟨q, _, i, u, rfl, rfl, sqt_mono n1.sub g1, g2, k.here n1.sub _ g3⟩
/-- list(t) of a triple of like things -/
theorem ra_lst3 (hK : X.K = K := by rfl) : RA1 K E (fun xs H Q => ∃ p ys, xs = [.ref p] ∧ (SqL X.K H p ys ∨ SqT X.K H p ys) ∧ ∀ l, H l = none → Q (.ref l) (upd H l (.lst ys))) (fun x : T3 α α α => (pure [x.a, x.b, x.c] : M (List α))) := by
  subst hK
  rintro x v Hi H Q s ⟨p, v1, v2, v3, rfl, h2, h3, h4, h5⟩ h
  exact ⟨p, _, rfl, .inr (sqt_mono s h2), fun r hr => PX.go (a := [x.a, x.b, x.c]) h (Nx.new s hr) _ ⟨r, _, rfl, .of upd_same, Rl.mono (xs := [x.a, x.b, x.c]) (same_new (hi_none s hr)) (Paired.cons h3 (Paired.cons h4 (Paired.cons h5 Paired.nil)))⟩⟩
end
end G

set_option Elab.async false
set_option linter.all false
set_option maxRecDepth 100000
set_option maxHeartbeats 2000000
namespace G
open PySem L2 TL
section
variable {X : Cx} {K : Fg} {b : Bs} {L : List En} {E : XK} {e e1 e2 : Expr} {α β γ δ : Type} [Py α] [Py β] [Py γ] {pos : Pos}
/-- t + u of tuples -/
def catU (xs ys : Tup α) : M (Tup α) := chk (List.length (α := α) xs + List.length (α := α) ys ≤ SZ) >>= fun _ => (pure (show List α from (show List α from xs) ++ (show List α from ys)) : M (Tup α))
theorem rl_nil {H : Hp} {vs : List V} (h : Rl K H ([] : List α) vs) : vs = [] := by cases h; rfl
theorem rl_nil2 {H : Hp} {xs : List α} (h : Rl K H xs []) : xs = [] := by cases h; rfl
theorem ro_catU (hK : X.K = K := by rfl) : RO K E (rCatA X.K) (catU (α := α)) := by
  subst hK
  rintro xs ys v w Hi H Q s ⟨p, vs, rfl, h1, h2⟩ ⟨q, ws, rfl, g1, g2⟩ h
  obtain ⟨c, h⟩ := PX.chk h
  refine ⟨p, q, vs, ws, rfl, rfl, sqt_mono s h1, sqt_mono s g1, by rw [← h2.length, ← g2.length]; exact c, fun e => ?_, fun _ e => ?_, fun _ _ r hr => ?_⟩
  · subst e
    have e2 := rl_nil2 h2
    exact PX.here (α := Tup α) h s _ ⟨q, ws, rfl, g1, by rw [e2]; exact g2⟩
  · subst e
    have e2 := rl_nil2 g2
    exact PX.here (α := Tup α) h s _ ⟨p, vs, rfl, h1, by rw [e2]; show Rl X.K Hi (List.append xs []) vs; rw [show List.append xs [] = xs from List.append_nil xs]; exact h2⟩
  · exact PX.go (α := Tup α) h (Nx.new s hr) _ ⟨r, _, rfl, .of upd_same, (h2.app g2).mono (same_new (hi_none s hr))⟩
/-! a tuple of like things is a tuple of any many -/
theorem co_t3U : ∀ (H : Hp) (x : T3 α α α) (v : V), Py.rep K H x v → Py.rep K H (show Tup α from [x.a, x.b, x.c]) v := fun H x v ⟨p, v1, v2, v3, h1, h2, h3, h4, h5⟩ => ⟨p, _, h1, h2, .cons h3 (.cons h4 (.cons h5 .nil))⟩
theorem co_pU : ∀ (H : Hp) (x : α × α) (v : V), Py.rep K H x v → Py.rep K H (show Tup α from [x.1, x.2]) v := fun H x v ⟨p, v1, v2, h1, h2, h3, h4⟩ => ⟨p, _, h1, h2, .cons h3 (.cons h4 .nil)⟩
theorem co_list {g : α → β} (hg : ∀ (H : Hp) (x : α) (v : V), Py.rep K H x v → Py.rep K H (g x) v) : ∀ (H : Hp) (xs : List α) (v : V), Py.rep K H xs v → Py.rep K H (xs.map g) v := by
  rintro H xs v ⟨p, vs, h1, h2, h3⟩
  refine ⟨p, vs, h1, h2, ?_⟩
  clear h1 h2
  induction h3 with
  | nil => exact .nil
  | cons r _ ih => exact .cons (hg H _ _ r) ih
/-- list(x) of a list that a name holds, held -/
theorem jf_listM {xs : List α} {p2 pn : Pos} {x : Str} {mg : Str → Option Value} (i : Nat) (hm : mg "list" = none) (hL : L[i]? = some (.mu (ctL K xs)) := by rfl) (hN : X.N[i]? = some x := by rfl) (hv : Vis X.env.scope x := by first | exact Or.inl rfl | exact Or.inr (Or.inl rfl) | exact Or.inr (Or.inr rfl))
    (hd : (x == ("__debug__" : Str)) = false := by decide) (hcd : (x == ("__classdict__" : Str)) = false := by decide) (hK : X.K = K := by rfl) (hM : X.mg = mg := by rfl) (hg : Gl X "list" := by rfl)
    (he : starEach [.Name x pn] X.env = (false, eval (.Name x pn) X.env) :: starEach [] X.env := by rfl) (hpl : (backTo pos (starEach [] X.env)).any (·.1) = false := by rfl) :
    JF X K b L E (.Call (.Name "list" p2) [.Name x pn] [] pos) (ctL K) (pure xs : M (List α)) := by
  subst hK
  refine ⟨fun σ Hi H en Q hq => ?_⟩
  obtain ⟨p, vs, h1, h2, r⟩ := en.muL hL
  refine PE.wp (pe_callTy call_list_of hg (by rw [hM]; exact hm) bt_list (pa_cons (pe_var hN hv hd hcd) pa_nil he) (by decide) (by decide) he hpl) ⟨_, h1, p, vs, rfl, .inl (SqL.of h2), fun r' hr => ?_⟩
  exact (PX.go (a := xs) hq (Nx.temp en.sub hr)) r' _ upd_same hr (hi_none en.sub hr) ⟨_, rfl, r⟩
/-! a text within a text -/
def inG (x t : Tx) : Bool := !(Builtin.Str.occurrences (G.S t) (G.S x) 0 (G.S t).length 1).isEmpty
theorem ro_inG : RO K E (fun x y H Q => ∃ i j, x = .str i ∧ y = .str j ∧ Q (.bl (!(Builtin.Str.occurrences j i 0 j.length 1).isEmpty)) H) (fun x t : Tx => (pure (inG x t) : M Bool)) := by
  rintro x t v w Hi H Q s rfl rfl h
  exact ⟨G.S x, G.S t, rfl, rfl, h.here s _ rfl⟩
theorem ra_max2 : RA2 K E (fun xs H Q => ∃ i j, xs = [.int i, .int j] ∧ Q (.int (if j > i then j else i)) H) (fun i j : Int => (pure (if j > i then j else i) : M Int)) := by
  rintro i j v w Hi H Q s rfl rfl h
  exact ⟨i, j, rfl, h.here s _ rfl⟩
end
end G

set_option Elab.async false
set_option linter.all false
set_option maxRecDepth 100000
set_option maxHeartbeats 2000000
namespace G
open PySem L2 TL PySem.Spec PyProof.Rows
/-! ### texts with their tokens: a def of one text that replaces, by a for over written texts -/
section
variable {X : Cx} {pins : List (Addr × Obj)} {σ : L2.St} {H : Hp} {s : Shared}
/-- a local name has been put: the caller says what now stands in the frame -/
theorem inv_put (I : Inv X pins σ H s) (nd : X.N.Nodup) {i : Nat} {x : Str} (hi : X.N[i]? = some x) (hk : X.env.kindOf x = some .local) {v : V} {u : Value} (r : RelV v u) {m : Str → Option Value} (hn : s.heap.Ns X.env.locals m) {h' : Heap} {tk : Nat}
    (hn' : h'.Ns X.env.locals (fun y => if y = x then some u else m y)) (sb : Heap.SameBut X.env.locals s.heap h') : Inv X pins (σ.set i (some v)) H { s with heap := h', toks := tk } := by
  obtain ⟨m0, n0, look⟩ := id I.loc
  have em : ∀ y, m0 y = m y := fun y => n0.agree hn y
  have big : ∀ {b : Addr} {o : Obj}, X.s_0.heap.get? b = some o → b ≠ X.env.locals := fun {b o} e z => Nat.lt_irrefl b (Nat.lt_of_lt_of_le (Heap.lt_size e) (by rw [z]; exact I.ok.above))
  have st : ∀ {b : Addr} {o : Obj}, b ≠ X.env.locals → s.heap.get? b = some o → h'.get? b = some o := fun {b o} n e => (sb.2 b n).trans e
  have cl : ∀ {y : Str} {c : Addr}, X.env.cells.lookup y = some c → c ≠ X.env.locals := fun {y c} e => I.cne y c e
  exact {
    ok := I.ok
    os := I.os
    bare := I.bare
    free := I.free
    freeC := I.freeC
    len := (List.length_set ..).trans I.len
    cell := fun y c e => by
      obtain ⟨w, hw⟩ := I.cell y c e
      exact ⟨w, hw.sameBut sb (cl e)⟩
    pin := fun p hp => by
      have q := I.pin p hp
      exact ⟨st q.2.2.1 q.1, q.2⟩
    hok := fun b ob e => by
      refine (I.hok b ob e).stay (fun c w hc q => st (fun z => ?_) q) (fun _ q => q) (fun _ _ q => q)
      have f : H c = none := by rw [z]; exact I.free
      rcases hc with hc | hc
      · rw [hc, e] at f; cases f
      · rw [hc] at f; cases f
    base := {
      keep := fun b o e n hb hx => st (big e) (I.base.keep b o e n hb hx)
      slot := fun b o e n hb hx => by
        obtain ⟨sl, q⟩ := I.base.slot b o e n hb hx
        exact ⟨sl, st (big e) q⟩
      free := I.base.free
      there := fun b o e hx => by
        obtain ⟨o', q⟩ := I.base.there b o e hx
        exact ⟨o', st (big e) q⟩
      tups := I.base.tups
      frzs := I.base.frzs
      tbls := I.base.tbls }
    loc := by
      refine ⟨_, hn', fun j y w e1 e2 vis => ?_⟩
      by_cases hj : j = i
      · rw [hj] at e1 e2
        have ey : x = y := Option.some.inj (hi.symm.trans e1)
        have hl : i < σ.length := by rw [I.len]; exact (List.getElem?_eq_some_iff.mp hi).1
        rw [List.getElem?_set_self hl] at e2
        have ev : v = w := Option.some.inj (Option.some.inj e2)
        rw [← ey, ← ev]
        exact ⟨u, r, .inl ⟨hk, if_pos rfl⟩⟩
      · rw [List.getElem?_set_ne (fun z => hj z.symm)] at e2
        obtain ⟨u', r', q⟩ := look j y w e1 e2 vis
        refine ⟨u', r', ?_⟩
        rcases q with ⟨k, q⟩ | ⟨k, c, e, q⟩
        · have ne : y ≠ x := fun z => hj (nodup_ix nd e1 (z ▸ hi))
          exact .inl ⟨k, (if_neg ne).trans ((em y).symm.trans q)⟩
        · exact .inr ⟨k, c, e, q.sameBut sb (cl e)⟩ }
end
/-- a def of one name: its frame is laid with a token, so its body may lean on one -/
theorem okT1 {P : Program} {w : World} {K : Fg} {mg : Str → Option Value} {base : Heap} {CX : CXT} {N : List Str} {p0 x : Str} {k : Nat} {sp : Sp} {params : Arguments} {body : List Stmt} {scope : Scope} {f : Addr} {fd : FuncData}
    (F : FunD K x x params body scope [] [] f fd) (S : FnScope N [p0] scope) (nc : ∀ y ∈ scope.names, y.2 ≠ .cell) (hl : scope.names.lookup p0 = some .local) (hcs : ∀ n, cellsFrom n scope.names [] = [])
    (len : ∀ vs H Q E, sp vs H Q E → vs.length = [p0].length)
    (hbody : ∀ (cdv : Value) (A : Around) (outer : List Env) (s : Shared) (H : Hp) (vs : List V) (Q : VK) (E : XK), Room k (A.deeper (envOfC x scope s.heap.objs.size f cdv)) → sp vs H Q E →
      ∃ t, PSsT (cxOf CX P w K mg base N x scope f cdv A outer s H E) body t ∧ t { nx := fun _ H' => Q .non H', rt := Q } (L2.start N vs) H) : FnOk P w K mg base CX (k + 1) f fd [p0] sp := by
  obtain ⟨oc, od, dV, kV, doc, pm, an, cdv, ct, osl, rfl, lk, hcd, _, _⟩ := F.ex
  refine ⟨len, fun A outer s H args us vs Q E hr e0 hb r hsp => ?_⟩
  have hv := len _ _ _ _ hsp
  have hu : us.length = 1 := by rw [← r.length]; exact hv
  have lim : s.heap.NoLimit := e0.mod.nolimit.keeps fun b o e => (e0.bs b o e).1
  match us, hu with
  | [u0], _ =>
  refine codeAny_call_function hr.depth ((e0.mod.kin.keeps fun b o e => (e0.bs b o e).1) _ _ lk) rfl S.co S.gen rfl (PySem.W.codeRec_of (e0.mod.kin.keeps fun b o e => (e0.bs b o e).1) hcd) (hb _ _ _ _ ?_)
  refine wpAny_newFunctionEnv nc (fun y hy => ?_) (fun h' hns hsb => ?_) S.kind
  · have ey : y = (p0, u0) := by simpa using hy
    rw [ey]; exact hl
  have kp : ∀ b o, s.heap.get? b = some o → h'.get? b = some o := fun b o e =>
    (hsb.2 b (Nat.ne_of_lt (Heap.lt_size e))).trans (Heap.get?_push_of_some _ e)
  have ee : newEnv scope s.heap.objs.size mainGlobals [] (x ++ ".<locals>.") (some f) cdv none builtinsNs = envOfC x scope s.heap.objs.size f cdv := by
    unfold envOfC newEnv
    rw [hcs]
  have ic : InCallC s s.heap.objs.size (bindL (envOfC x scope s.heap.objs.size f cdv).kindOf ([p0].zip [u0]) fun _ => none) (cellsFrom (s.heap.objs.size + 1) scope.names []) (bindC (envOfC x scope s.heap.objs.size f cdv).kindOf ([p0].zip [u0]) fun _ => none) { s with heap := h', toks := s.toks + 1 } := by
    rw [hcs]
    refine ⟨⟨⟨h', s.toks + 1, rfl⟩, ?_, kp, Nat.le_refl _⟩, fun n c e => (nomatch e), List.Pairwise.nil, fun n c e => (nomatch e)⟩
    obtain ⟨o, es, ep, a1, a2, a3, a4⟩ := hns
    refine ⟨o, es, ep, a1, a2, a3, fun name => (a4 name).trans ?_⟩
    show List.lookup name [(p0, u0)] = (if scope.names.lookup p0 = some .local then fun y => if y = p0 then some u0 else none else fun _ => none) name
    rw [if_pos hl]
    show (match name == p0 with | true => some u0 | false => none) = if name = p0 then some u0 else none
    by_cases hh : name = p0
    · rw [if_pos hh, hh]; simp
    · rw [if_neg hh, beq_false_of_ne hh]
  rw [show (newEnv scope s.heap.objs.size mainGlobals [] (x ++ ".<locals>.") (some f) cdv none builtinsNs) = envOfC x scope s.heap.objs.size f cdv from ee]
  refine ⟨lim.keeps kp, codeAny_func ?_⟩
  obtain ⟨t, ht, hq⟩ := hbody cdv A outer s H vs Q E (hr.deeper _) hsp
  have I : Inv (cxOf CX P w K mg base N x scope f cdv A outer s H E) [] (L2.start N vs) H { s with heap := h', toks := s.toks + 1 } := inv_start S hr.hd e0 hv r ic
  refine wpAny_mono (ht [] _ (L2.start N vs) H _ (Nat.le_add_left 1 s.toks) I hq) (fun fl s' hs => ?_) fun _ _ hs => hs
  cases fl with
  | ret u =>
    obtain ⟨v, _, H', J, rv, q⟩ := hs
    exact ⟨v, H', J.os, J.bare, J.base, J.hok, rv, q⟩
  | next =>
    obtain ⟨_, H', J, q⟩ := hs
    exact ⟨V.non, H', J.os, J.bare, J.base, J.hok, rfl, q⟩
  | brk =>
    obtain ⟨_, _, _, q⟩ := hs
    exact q.elim
  | cont =>
    obtain ⟨_, _, _, q⟩ := hs
    exact q.elim
/-! the loop: for x in [c, ..]: y = y.replace(x + z, x) -/
def sgStep (z l c : Str) : Str := Txt.replace l (c ++ z) c
def sgAll (z : Str) (l : Str) (cs : List Str) : Str := cs.foldl (sgStep z) l
def SgFit (z : Str) : Str → List Str → Prop
  | _, [] => True
  | l, c :: r => l.length + (l.length + 1) * c.length ≤ 16777216 ∧ SgFit z (sgStep z l c) r
section
variable {X : Cx} {pins : List (Addr × Obj)} {σ : L2.St} {H : Hp} {s : Shared}
/-- one turn's body, the frame known -/
theorem sg_body {ix iy : Nat} {x y z c l : Str} {t : Tok} {jz : Nat} {q1 q2 q3 q4 q5 q6 ap cp sp : Pos} {m : Str → Option Value} {Q : Flow → Shared → Prop} (I : Inv X pins σ H s) (nd : X.N.Nodup) (hix : X.N[ix]? = some x) (hiy : X.N[iy]? = some y)
    (hkx : X.env.kindOf x = some .local) (hky : X.env.kindOf y = some .local) (hvy : Vis X.env.scope y) (dx : (x == ("__debug__" : Str)) = false) (dy : (y == ("__debug__" : Str)) = false) (cy : (y == ("__classdict__" : Str)) = false)
    (hn : s.heap.Ns X.env.locals m) (hmx : m x = some (.str c t)) (t0 : t ≠ 0) (t1 : @LT.lt Nat _ t s.toks) (hy : σ[iy]? = some (some (.str l))) (c0 : c.length ≠ 0) (z0 : z.length ≠ 0) (hcz : c.length + z.length ≤ sizeLine) (ne : ((c ++ z) == c) = false)
    (fit : l.length + (l.length + 1) * c.length ≤ 16777216)
    (hst : starEach [.BinOp (.Name x q1) .Add (.Constant (.str z) jz q2) q3, .Name x q4] X.env = [(false, eval (.BinOp (.Name x q1) .Add (.Constant (.str z) jz q2) q3) X.env), (false, eval (.Name x q4) X.env)])
    (hbase : attributeBase (.Name y q5) "replace" X.env (eval (.Name y q5) X.env) = eval (.Name y q5) X.env) (hline : (ap.endLine == cp.line) = true)
    (hsw : swapsWith (.Call (.Attribute (.Name y q5) "replace" ap) [.BinOp (.Name x q1) .Add (.Constant (.str z) jz q2) q3, .Name x q4] [] cp) (some (.Name y q6)) sp.line X.env = pure false)
    (fin : ∀ (h' : Heap) (k : Nat), s.toks ≤ k → Inv X pins (σ.set iy (some (.str (sgStep z l c)))) H { s with heap := h', toks := k } → Heap.SameBut X.env.locals s.heap h' → Q .next { s with heap := h', toks := k }) :
    wpAny (model X.prog X.w) X.A (execs [.Assign [.Name y q6] (.Call (.Attribute (.Name y q5) "replace" ap) [.BinOp (.Name x q1) .Add (.Constant (.str z) jz q2) q3, .Name x q4] [] cp) sp] X.env) Q X.xe s := by
  have noc : (X.env.scope.kind == .class || (X.env.scope.kind == .module && X.env.locals != X.env.globals)) = false := by rw [I.ok.kind]; rfl
  refine PySem.wpAny_with_toks (n := s.toks) (Nat.le_refl _) ?_
  refine wpAny_execs_cons (wpAny_Assign_Name (PySem.Call_method2 hbase hst hline (raw_name hiy hvy I hy (fun v r => ?_) dy cy)) hsw)
  obtain ⟨tl, e⟩ := r
  subst e
  refine ⟨"str", _, PySem.F.plainAttrs_str, PySem.F.slot_str_replace, PySem.F.type_str_replace, typeIs_str _ _ _, (fun _ e => nomatch e), Calls.callWith_builtin rfl (Calls.evalArgs_plain (Calls.spliced_cons ?_))⟩
  refine wpAny_BinOp (wpAny_Name (wpAny_loadName_local I.ok.kind hkx hn hmx (Calls.Constant_str ?_)) dx)
  refine PySem.P.add_str ?_
  rw [if_neg (by simpa using c0), if_neg (by simpa using z0)]
  refine ⟨by rw [size_cat]; exact hcz, ?_⟩
  refine Calls.spliced_cons (wpAny_Name (wpAny_loadName_local (s := { s with toks := s.toks + 1 + 1 }) I.ok.kind hkx hn hmx (Calls.spliced_nil ?_)) dx)
  refine PySem.SC.replace (by show s.toks + 1 ≠ 0; omega) t0 (fun e => by have e : s.toks + 1 = t := e; rw [← e] at t1; omega) ne fit fun t' k => ?_
  refine wpAny_storeName_local hky hn (fun h' hn' sb => ?_) noc
  refine wpAny_execs_nil fun hk => ?_
  exact fin h' _ hk (inv_put I nd hiy hky (v := .str (sgStep z l c)) ⟨_, rfl⟩ hn hn' sb) sb
theorem sg_star {c : Str} {j : Nat} {p : Pos} {es : List Expr} {env : Env} : starEach (Expr.Constant (.str c) j p :: es) env = (false, eval (Expr.Constant (.str c) j p) env) :: starEach es env := rfl
theorem sg_bt {pos : Pos} {t : Sem Value} {L : List (Bool × Sem Value)} : backTo pos ((false, t) :: L) = (false, t) :: backTo pos L := rfl
/-- written texts: each has a token of its own -/
theorem sg_lits {M : Model} {A : Around} {env : Env} {pos : Pos} {E : Value → Shared → Prop} : ∀ (cs : List (Str × Nat × Pos)) (s : Shared) (Q : List Value → Shared → Prop),
    (∀ (us : List Value) (tk : Nat), us.length = cs.length → (∀ (i : Nat) (c : Str × Nat × Pos), cs[i]? = some c → ∃ t : Nat, us[i]? = some (Value.str c.1 t) ∧ s.toks ≤ t ∧ t < tk) → s.toks ≤ tk → Q us { s with toks := tk }) →
    wpAny M A (spliced (backTo pos (starEach (cs.map fun q => Expr.Constant (.str q.1) q.2.1 q.2.2) env))) Q E s
  | [], s, Q, h => Calls.spliced_nil (h [] s.toks rfl (fun i c e => by simp at e) (Nat.le_refl _))
  | c :: cs, s, Q, h => by
    have e : starEach ((c :: cs).map fun q => Expr.Constant (.str q.1) q.2.1 q.2.2) env = (false, eval (Expr.Constant (.str c.1) c.2.1 c.2.2) env) :: starEach (cs.map fun q => Expr.Constant (.str q.1) q.2.1 q.2.2) env := by
      rw [List.map_cons]
      exact sg_star
    rw [e, sg_bt]
    refine Calls.spliced_cons (Calls.Constant_str (sg_lits cs _ _ fun us tk hl hu hk => ?_))
    have hk : s.toks + 1 ≤ tk := hk
    refine h (Value.str c.1 s.toks :: us) tk (congrArg Nat.succ hl) (fun i d e => ?_) (by omega)
    cases i with
    | zero =>
      have e : c = d := Option.some.inj e
      exact ⟨s.toks, by rw [← e]; rfl, Nat.le_refl _, by omega⟩
    | succ i =>
      obtain ⟨t, h1, h2, h3⟩ := hu i d e
      have h2 : s.toks + 1 ≤ t := h2
      exact ⟨t, h1, by omega, h3⟩
theorem pst_signs {ix iy : Nat} {x y z : Str} {cs : List (Str × Nat × Pos)} {es : List Expr} {jz : Nat} {q0 lp q1 q2 q3 q4 q5 q6 ap cp sp pos : Pos} (hes : es = cs.map fun q => Expr.Constant (.str q.1) q.2.1 q.2.2) (hp : PassesOwn (model X.prog X.w) X.A X.env X.xe) (hc : X.calm = true)
    (nd : X.N.Nodup) (hix : X.N[ix]? = some x) (hiy : X.N[iy]? = some y) (hxy : ix ≠ iy) (hkx : X.env.kindOf x = some .local) (hky : X.env.kindOf y = some .local) (hvy : Vis X.env.scope y) (dx : (x == ("__debug__" : Str)) = false) (dy : (y == ("__debug__" : Str)) = false) (cy : (y == ("__classdict__" : Str)) = false)
    (good : ∀ q ∈ cs, q.1.length ≠ 0 ∧ q.1.length + z.length ≤ sizeLine ∧ ((q.1 ++ z) == q.1) = false) (z0 : z.length ≠ 0) (few : cs.length ≤ sizeLine)
    (hst : starEach [.BinOp (.Name x q1) .Add (.Constant (.str z) jz q2) q3, .Name x q4] X.env = [(false, eval (.BinOp (.Name x q1) .Add (.Constant (.str z) jz q2) q3) X.env), (false, eval (.Name x q4) X.env)])
    (hbase : attributeBase (.Name y q5) "replace" X.env (eval (.Name y q5) X.env) = eval (.Name y q5) X.env) (hline : (ap.endLine == cp.line) = true)
    (hsw : swapsWith (.Call (.Attribute (.Name y q5) "replace" ap) [.BinOp (.Name x q1) .Add (.Constant (.str z) jz q2) q3, .Name x q4] [] cp) (some (.Name y q6)) sp.line X.env = pure false)
    (hs : ∀ v, foldedSetIterable (.List es lp) X.env v = pure v) :
    PST X (.For (.Name x q0) (.List es lp) [.Assign [.Name y q6] (.Call (.Attribute (.Name y q5) "replace" ap) [.BinOp (.Name x q1) .Add (.Constant (.str z) jz q2) q3, .Name x q4] [] cp) sp] [] pos)
      (fun D σ H => ∃ l0, σ[iy]? = some (some (.str l0)) ∧ SgFit z l0 (cs.map Prod.fst) ∧ ∀ o, D.nx ((σ.set ix o).set iy (some (.str (sgAll z l0 (cs.map Prod.fst))))) H) := by
  subst hes
  intro pins s σ H D h0 I h
  obtain ⟨l0, hl0, fit0, post⟩ := h
  refine wpAny_For (wpAny_List_spliced (sg_lits cs s _ fun us tk hlen hus htk => ⟨by rw [hlen]; exact few, ?_⟩)) hs
  have Ia : Inv X pins σ H { s with heap := s.heap.push { cls := .type "list", data := .seq us.toArray }, toks := tk } := I.kept (t' := tk) fun b o e => Heap.get?_push_of_some _ e
  have la : (s.heap.push { cls := .type "list", data := .seq us.toArray }).IsList s.heap.objs.size us.toArray := ⟨_, Heap.get?_push_size _ rfl, rfl, 0, rfl⟩
  have aL : s.heap.objs.size ≠ X.env.locals := Nat.ne_of_gt I.lt
  refine wpAny_pyIter_list (s := { s with heap := s.heap.push { cls := .type "list", data := .seq us.toArray }, toks := tk }) la ?_
  have Ib := Ia.kept (t' := tk) (h' := (s.heap.push { cls := .type "list", data := .seq us.toArray }).push { cls := .type "list_iterator", data := .fields #[.ref s.heap.objs.size, .int 0 0] }) fun b o e => Heap.get?_push_of_some _ e
  obtain ⟨f0, f1, f2, f3, f4, f5⟩ := Ia.fpOk (Nat.le_refl _) (Ia.hok.fresh (Nat.le_refl _))
  have ai : s.heap.objs.size ≠ (s.heap.push { cls := .type "list", data := .seq us.toArray }).objs.size := by rw [Heap.size_push]; exact Nat.ne_of_lt (Nat.lt_succ_self _)
  have lit : ((s.heap.push { cls := .type "list", data := .seq us.toArray }).push { cls := .type "list_iterator", data := .fields #[.ref s.heap.objs.size, .int 0 0] }).IsListIter (s.heap.push { cls := .type "list", data := .seq us.toArray }).objs.size s.heap.objs.size 0 := ⟨_, Heap.get?_push_size _ rfl, rfl, rfl⟩
  have la2 := la.push { cls := .type "list_iterator", data := .fields #[.ref s.heap.objs.size, .int 0 0] }
  have hx0 : ix < σ.length := by rw [I.len]; exact (List.getElem?_eq_some_iff.mp hix).1
  have sh0 : σ = (σ.set ix σ[ix]).set iy (some (.str l0)) := by
    rw [List.set_getElem_self]
    refine List.ext_getElem? fun j => ?_
    by_cases hj : iy = j
    · rw [← hj, hl0, List.getElem?_set_self (List.getElem?_eq_some_iff.mp hl0).1]
    · rw [List.getElem?_set_ne hj]
  have hy0 : iy < σ.length := (List.getElem?_eq_some_iff.mp hl0).1
  have shx : ∀ (o : Option V) (l : Str) (p : Option V), ((σ.set ix o).set iy (some (.str l))).set ix p = (σ.set ix p).set iy (some (.str l)) := fun o l p => by
    rw [List.set_comm _ _ (fun e => hxy e.symm), List.set_set]
  have shy : ∀ (o : Option V) (l l' : Str), ((σ.set ix o).set iy (some (V.str l))).set iy (some (.str l')) = (σ.set ix o).set iy (some (.str l')) := fun o l l' => List.set_set ..
  have aty : ∀ (o : Option V) (l : Str), ((σ.set ix o).set iy (some (V.str l)))[iy]? = some (some (.str l)) := fun o l => List.getElem?_set_self (by rw [List.length_set]; exact hy0)
  have noc : (X.env.scope.kind == .class || (X.env.scope.kind == .module && X.env.locals != X.env.globals)) = false := by rw [I.ok.kind]; rfl
  revert Ib lit la2 f0 f1 f2 f3 f4 f5 ai
  generalize (s.heap.push { cls := .type "list", data := .seq us.toArray }).push { cls := .type "list_iterator", data := .fields #[.ref s.heap.objs.size, .int 0 0] } = hp0
  generalize (s.heap.push { cls := .type "list", data := .seq us.toArray }).objs.size = it
  intro Ib f0 f1 f2 f3 f4 f5 ai lit la2
  refine codeAny_forLoop_any (fun n s' => ∃ (i : Nat) (l : Str) (o : Option V), n + i = cs.length ∧ Inv X pins ((σ.set ix o).set iy (some (.str l))) H s' ∧ SgFit z l ((cs.map Prod.fst).drop i) ∧ sgAll z l ((cs.map Prod.fst).drop i) = sgAll z l0 (cs.map Prod.fst) ∧
    s'.heap.IsListIter it s.heap.objs.size i ∧ s'.heap.IsList s.heap.objs.size us.toArray ∧ tk ≤ s'.toks) ?_ cs.length ⟨0, l0, σ[ix], rfl, by rw [← sh0]; exact Ib, fit0, rfl, lit, la2, Nat.le_refl _⟩
  rintro n s3 ⟨i, l, o, hn, I3, hfit, hall, hit, hl, hk3⟩
  cases hci : cs[i]? with
  | none =>
    have hui : us.toArray[i]? = none := by
      have := List.getElem?_eq_none_iff.mp hci
      simp; omega
    refine wpAny_passesOwn hp (wpAny_pyNext_list_end (I3.ok.hd hc) hit hl hui fun h' eb => ?_)
    refine wpAny_execs_nil ⟨_, H, I3.turned (t' := s3.toks) (fun b o hb e => eb b o hb e) f0 f1 f3 f4 f5, ?_⟩
    have hd : (cs.map Prod.fst).drop i = [] := List.drop_eq_nil_of_le (by rw [List.length_map]; exact List.getElem?_eq_none_iff.mp hci)
    rw [hd] at hall
    have hall : l = sgAll z l0 (cs.map Prod.fst) := hall
    rw [hall]
    exact post o
  | some q =>
    obtain ⟨t, hu, t0, t1⟩ := hus i q hci
    have hui : us.toArray[i]? = some (.str q.1 t) := by simpa using hu
    have hil : i < cs.length := (List.getElem?_eq_some_iff.mp hci).1
    have hd : (cs.map Prod.fst).drop i = q.1 :: (cs.map Prod.fst).drop (i + 1) := by
      rw [List.drop_eq_getElem_cons (by rw [List.length_map]; exact hil), List.getElem_map]
      rw [show cs[i] = q from (List.getElem?_eq_some_iff.mp hci).2]
    rw [hd] at hfit hall
    obtain ⟨g1, g2, g3⟩ := good q (List.mem_of_getElem? hci)
    refine wpAny_passesOwn hp (wpAny_pyNext_list_item hit hl hui fun h1 st1 sb1 => ?_)
    have I4 : Inv X pins ((σ.set ix o).set iy (some (.str l))) H { s3 with heap := h1 } := I3.turned (t' := s3.toks) (fun b o hb e => (sb1.2 b hb).trans e) f0 f1 f3 f4 f5
    obtain ⟨oi, e1, e2, e3⟩ := id st1
    refine go_of (s := { s3 with heap := h1 }) e1 e2 e3 (by decide) ?_
    obtain ⟨m, hm, _⟩ := id I4.loc
    refine wpAny_assign_Name (wpAny_storeName_local hkx hm (fun h2 hm2 sb2 => ?_) noc)
    have I5 := inv_put (tk := s3.toks + 1) I4 nd hix hkx (v := V.str q.1) (u := Value.str q.1 t) ⟨_, rfl⟩ hm hm2 sb2
    rw [shx] at I5
    refine wpAny_passesOwn hp (sg_body (t := t) I5 nd hix hiy hkx hky hvy dx dy cy hm2 (if_pos rfl) (fun e => by have e : t = (0 : Nat) := e; omega) (show t < s3.toks + 1 by omega) (aty _ _) g1 z0 g2 g3 hfit.1 hst hbase hline hsw fun h3 k3 hk I6 sb3 => ?_)
    rw [shy] at I6
    have hk : s3.toks + 1 ≤ k3 := hk
    refine ⟨n - 1, by omega, i + 1, _, _, by omega, I6, hfit.2, hall, ?_, ?_, by show tk ≤ k3; omega⟩
    · exact st1.at fun b e => (sb3.2 _ f1).trans ((sb2.2 _ f1).trans e)
    · exact hl.at fun b e => (sb3.2 _ aL).trans ((sb2.2 _ aL).trans ((sb1.2 _ ai).trans e))
end
/-! its mirror, and the def's promise -/
def sgM (z : Tx) : Tx → List Tx → M Tx
  | l, [] => pure l
  | l, c :: r => replT l (c ++ z) c >>= fun l' => sgM z l' r
theorem S_cat (a b : Tx) : S a ++ S b = S (a ++ b) := ext_tl (by rw [tl_append] <;> rfl)
theorem S_of (x : Str) : S x.cps.toList = x := ext_tl rfl
theorem sgM_ok {z : Tx} : ∀ (cs : List Tx) (l r : Tx), sgM z l cs = .ok r → SgFit (S z) (S l) (cs.map S) ∧ S r = sgAll (S z) (S l) (cs.map S)
  | [], l, r, h => by
    have h : l = r := Except.ok.inj h
    exact ⟨True.intro, by rw [h]; rfl⟩
  | c :: cs, l, r, h => by
    unfold sgM replT chk at h
    by_cases hf : l.length + (l.length + 1) * c.length ≤ 16777216
    · rw [if_pos hf] at h
      obtain ⟨h1, h2⟩ := sgM_ok cs _ r h
      rw [S_of, ← S_cat] at h1 h2
      refine ⟨⟨by rw [S_length, S_length]; exact hf, h1⟩, h2⟩
    · rw [if_neg hf] at h; cases h
theorem sgM_no {z : Tx} : ∀ (cs : List Tx) (l : Tx) (e : Er), sgM z l cs = .error e → e = .st
  | [], l, e, h => by cases h
  | c :: cs, l, e, h => by
    unfold sgM replT chk at h
    by_cases hf : l.length + (l.length + 1) * c.length ≤ 16777216
    · rw [if_pos hf] at h
      exact sgM_no cs _ e h
    · rw [if_neg hf] at h; cases h; rfl
theorem mkSg {P : Program} {w : World} {K : Fg} {mg : Str → Option Value} {base : Heap} {x : Str} {N : List Str} {p0 sx : Str} {args : Arguments} {body : List Stmt} {sc : Scope} {k : Nat} {cs : List (String × Nat × Pos)} {z a b : String} {es : List Expr}
    {jz j0 j1 : Nat} {q0 lp q1 q2 q3 q4 q5 q6 ap cp sp pos r1 ap2 c0 c1 cp2 rp' : Pos}
    (F : ∃ fd, FunD K x x args body sc [] [] (He.ga K x) fd) (g : mg x = some (.ref (He.ga K x))) (S : FnScope N [p0] sc)
    (hb : ∀ (kV doc pm : Value) (an : Option Addr) (cdv ct : Value) (us : List Value), us.length = [p0].length → bindArgs (PySem.W.fnOf x x args body sc .none kV doc pm an cdv ct) ⟨us, []⟩ = pure ([p0].zip us))
    (hbody : body = [.For (.Name sx q0) (.List es lp) [.Assign [.Name p0 q6] (.Call (.Attribute (.Name p0 q5) "replace" ap) [.BinOp (.Name sx q1) .Add (.Constant (.str (Str.ofString z)) jz q2) q3, .Name sx q4] [] cp) sp] [] pos,
      .Return (some (.Call (.Attribute (.Name p0 r1) "replace" ap2) [.Constant (.str (Str.ofString a)) j0 c0, .Constant (.str (Str.ofString b)) j1 c1] [] cp2)) rp'])
    (hes : es = cs.map fun q => Expr.Constant (.str (Str.ofString q.1)) q.2.1 q.2.2) (nc : ∀ y ∈ sc.names, y.2 ≠ .cell) (hl : sc.names.lookup p0 = some .local) (hls : sc.names.lookup sx = some .local) (hcs : ∀ n, cellsFrom n sc.names [] = [])
    (h0 : N[0]? = some p0) (h1 : N[1]? = some sx) (nd : N.Nodup) (dx : (sx == ("__debug__" : Str)) = false) (dy : (p0 == ("__debug__" : Str)) = false) (cy : (p0 == ("__classdict__" : Str)) = false)
    (good : cs.all (fun q => decide ((tx q.1).length ≠ 0) && decide ((tx q.1).length + (tx z).length ≤ sizeLine) && ((Str.ofString q.1 ++ Str.ofString z) == Str.ofString q.1) == false) = true) (z0 : (tx z).length ≠ 0) (few : cs.length ≤ sizeLine) (hab : (Str.ofString a == Str.ofString b) = false)
    (env : ∀ (cdv : Value) (L : Addr), (fun v : Env =>
      starEach [.BinOp (.Name sx q1) .Add (.Constant (.str (Str.ofString z)) jz q2) q3, .Name sx q4] v = [(false, eval (.BinOp (.Name sx q1) .Add (.Constant (.str (Str.ofString z)) jz q2) q3) v), (false, eval (.Name sx q4) v)] ∧
      attributeBase (.Name p0 q5) "replace" v (eval (.Name p0 q5) v) = eval (.Name p0 q5) v ∧
      swapsWith (.Call (.Attribute (.Name p0 q5) "replace" ap) [.BinOp (.Name sx q1) .Add (.Constant (.str (Str.ofString z)) jz q2) q3, .Name sx q4] [] cp) (some (.Name p0 q6)) sp.line v = pure false ∧
      (∀ u, foldedSetIterable (.List es lp) v u = pure u) ∧
      starEach [.Constant (.str (Str.ofString a)) j0 c0, .Constant (.str (Str.ofString b)) j1 c1] v = [(false, eval (.Constant (.str (Str.ofString a)) j0 c0) v), (false, eval (.Constant (.str (Str.ofString b)) j1 c1) v)] ∧
      attributeBase (.Name p0 r1) "replace" v (eval (.Name p0 r1) v) = eval (.Name p0 r1) v) (envOfC x sc L (He.ga K x) cdv))
    (hline : (ap.endLine == cp.line) = true) (hline2 : (ap2.endLine == cp2.line) = true) :
    OkF P w K mg base x (k + 1) (sp1 K fun l => sgM (tx z) l (cs.map fun q => tx q.1) >>= fun l' => replT l' (tx a) (tx b)) := by
  obtain ⟨fd, F⟩ := F
  refine ⟨_, fd, [p0], g, F.kp, okT1 F S nc hl hcs (fun vs H Q E hh => ?_) (fun cdv A outer s H vs Q E hr hh => ?_), F.bindsN hb⟩
  · obtain ⟨a0, v0, Hi, rfl, _⟩ := hh
    rfl
  · obtain ⟨l0, v0, Hi, rfl, sm, r0, q⟩ := hh
    have r0 : v0 = .str (G.S l0) := r0
    subst r0 hbody
    obtain ⟨e1, e2, e3, e4, e5, e6⟩ := env cdv s.heap.objs.size
    have vy : Vis (cxOf (L2.CX P w) P w K mg base N x sc (He.ga K x) cdv A outer s H E).env.scope p0 := .inl hl
    refine ⟨_, psst_cons (pst_signs (X := cxOf (L2.CX P w) P w K mg base N x sc (He.ga K x) cdv A outer s H E) (ix := 1) (iy := 0) (cs := cs.map fun q => (Str.ofString q.1, q.2.1, q.2.2)) (by rw [hes, List.map_map]; rfl) pasO rfl nd h1 h0 (by decide) hls hl vy dx dy cy ?_ ?_ (by rw [List.length_map]; exact few) e1 e2 hline e3 e4)
      (CwR.psst_one (CwR.pst_ret (CwR.pet_replC (pe_var h0 vy dy cy) hab e5 e6 hline2))), ?_⟩
    · intro c hc
      obtain ⟨q, hq, rfl⟩ := List.mem_map.mp hc
      have := List.all_eq_true.mp good q hq
      simp only [Bool.and_eq_true, decide_eq_true_eq] at this
      obtain ⟨⟨g1, g2⟩, g3⟩ := this
      refine ⟨?_, ?_, by simpa using g3⟩
      · show (Str.ofString q.1).length ≠ 0
        rw [← S_tx, S_length]; exact g1
      · show (Str.ofString q.1).length + (Str.ofString z).length ≤ sizeLine
        rw [← S_tx, S_length, ← S_tx, S_length]; exact g2
    · rw [← S_tx, S_length]; exact z0
    · have es : (cs.map fun q => (Str.ofString q.1, q.2.1, q.2.2)).map Prod.fst = (cs.map fun q => tx q.1).map G.S := by
        rw [List.map_map, List.map_map]
        exact List.map_congr_left fun q _ => (S_tx q.1).symm
      have q : PV K E (sgM (tx z) l0 (cs.map fun q => tx q.1) >>= fun l' => replT l' (tx a) (tx b)) Hi H Q := q
      cases hm : sgM (tx z) l0 (cs.map fun q => tx q.1) with
      | error e =>
        rw [hm, sgM_no _ _ _ hm] at q
        exact q.elim
      | ok l1 =>
        rw [hm] at q
        obtain ⟨fit, all⟩ := sgM_ok _ _ _ hm
        rw [S_tx] at fit all
        obtain ⟨hf, q⟩ := PX.chk (show PX K E (chk (l1.length + (l1.length + 1) * (tx b).length ≤ 16777216) >>= fun _ => (pure (Txt.replace (G.S l1) (G.S (tx a)) (G.S (tx b))).cps.toList : M Tx)) Hi H _ from q)
        refine ⟨G.S l0, rfl, by rw [es]; exact fit, fun o => ?_⟩
        rw [es, ← all]
        refine ⟨.str (G.S l1), ?_, G.S l1, rfl, by rw [S_length, ← S_tx, S_length]; exact hf, ?_⟩
        · rfl
        · have := q Hi H (Nx.refl sm) _ rfl
          rw [S_of, S_tx, S_tx] at this
          exact this
end G

set_option Elab.async false
set_option linter.all false
set_option maxRecDepth 100000
set_option maxHeartbeats 2000000
namespace G
open PySem L2 TL PySem.Spec PyProof.Rows
/-! ### data in depth: what is told of it by the library's PyData -/
class PyD (α : Type) [Py α] [DecidableEq α] where
  dat : α → PyData
  dp : ∀ {K : Fg} {H : Hp} {a : α} {v : V}, Py.rep K H a v → Dp K H v (dat a)
  eqv : ∀ a b : α, PyData.eqv (dat a) (dat b) = decide (a = b)
instance : PyD Int := ⟨fun i => .int i, fun {K H a v} h => by
  have h : v = .int a := h
  subst h; exact .int a, fun a b => by show (a == b) = _; rfl⟩
instance : PyD Bool := ⟨fun i => .bool i, fun {K H a v} h => by
  have h : v = .bl a := h
  subst h; exact .bl a, fun a b => by show (a == b) = _; rfl⟩
instance instPyDTx : PyD Tx := ⟨fun x => .str (G.S x), fun {K H a v} h => by
  have h : v = .str (G.S a) := h
  subst h; exact .str _, fun a b => dec_S' a b⟩
theorem dpAll {α : Type} [Py α] [DecidableEq α] [PyD α] {K : Fg} {H : Hp} : ∀ {xs : List α} {vs : List V}, Rl K H xs vs → DpAll K H vs (xs.map PyD.dat)
  | [], [], _ => .nil
  | x :: xs, v :: vs, h => by
    cases h with
    | cons h1 h2 => exact .cons (PyD.dp h1) (dpAll h2)
  | [], _ :: _, h => by cases h
  | _ :: _, [], h => by cases h
theorem eqvAll_dec {α : Type} [Py α] [DecidableEq α] [PyD α] : ∀ xs ys : List α, PyData.eqvAll (xs.map PyD.dat) (ys.map PyD.dat) = decide (xs = ys)
  | [], [] => rfl
  | [], _ :: _ => rfl
  | _ :: _, [] => rfl
  | x :: xs, y :: ys => by
    show (PyData.eqv (PyD.dat x) (PyD.dat y) && PyData.eqvAll (xs.map PyD.dat) (ys.map PyD.dat)) = _
    rw [PyD.eqv, eqvAll_dec xs ys]
    by_cases h1 : x = y
    · by_cases h2 : xs = ys
      · simp [h1, h2]
      · simp [h2]
    · simp [h1]
instance instPyDList {α : Type} [Py α] [DecidableEq α] [PyD α] : PyD (List α) := ⟨fun xs => .list (xs.map PyD.dat), fun {K H a v} ⟨p, vs, h1, h2, h3⟩ => by
  subst h1; exact .lst h2 (dpAll h3), fun a b => eqvAll_dec a b⟩
instance instPyDTup {α : Type} [Py α] [DecidableEq α] [PyD α] : PyD (Tup α) := ⟨fun xs => .tuple (List.map PyD.dat (show List α from xs)), fun {K H a v} ⟨p, vs, h1, h2, h3⟩ => by
  subst h1; exact .tup h2 (dpAll (α := α) h3), fun a b => eqvAll_dec (α := α) a b⟩
instance instPyDProd {α β : Type} [Py α] [Py β] [DecidableEq α] [DecidableEq β] [PyD α] [PyD β] : PyD (α × β) := ⟨fun x => .tuple [PyD.dat x.1, PyD.dat x.2], fun {K H a v} ⟨p, v1, v2, h1, h2, h3, h4⟩ => by
  subst h1; exact .tup h2 (.cons (PyD.dp h3) (.cons (PyD.dp h4) .nil)), fun a b => by
    show (PyData.eqv (PyD.dat a.1) (PyD.dat b.1) && (PyData.eqv (PyD.dat a.2) (PyD.dat b.2) && true)) = _
    rw [PyD.eqv, PyD.eqv]
    obtain ⟨a1, a2⟩ := a
    obtain ⟨b1, b2⟩ := b
    by_cases h1 : a1 = b1
    · by_cases h2 : a2 = b2
      · simp [h1, h2]
      · simp [h2]
    · simp [h1]⟩
abbrev Shp {α : Type} [Py α] [DecidableEq α] [PyD α] (a : α) : Prop := SeqAt.shaped (PyD.dat a) = true
theorem any_mem {α : Type} [Py α] [DecidableEq α] [PyD α] (x : α) : ∀ ys : List α, (ys.map PyD.dat).any (fun z => PyData.eqv z (PyD.dat x)) = decide (x ∈ ys)
  | [] => by simp
  | y :: ys => by
    rw [List.map_cons, List.any_cons, any_mem x ys, PyD.eqv]
    by_cases h : y = x
    · simp [h]
    · have h2 : x ≠ y := fun e => h e.symm
      simp [h, h2]
theorem _root_.L2.Room.u65 {k : Nat} {A : Around} (h : L2.Room k A) : A.units + 65 < cLine := by
  have := h.un
  omega
section
variable {K : Fg} {E : XK} {α : Type} [Py α] [DecidableEq α] [PyD α]
theorem ro_inDL : RO K E (rInD K) (fun (x : α) (ys : List α) => chk (Shp x ∧ Shp ys) >>= fun _ => (pure (decide (x ∈ ys)) : M Bool)) := by
  rintro x ys v w Hi H Q s rx ry h
  obtain ⟨⟨c1, c2⟩, h⟩ := PX.chk h
  refine ⟨PyD.dat x, ys.map PyD.dat, PyD.dp (Py.mono s rx), PyD.dp (Py.mono s ry), c1, c2, ?_⟩
  rw [any_mem]
  exact h.here s _ rfl
theorem ro_notInDL : RO K E (rNotInD K) (fun (x : α) (ys : List α) => chk (Shp x ∧ Shp ys) >>= fun _ => (pure (!decide (x ∈ ys)) : M Bool)) := by
  rintro x ys v w Hi H Q s rx ry h
  obtain ⟨⟨c1, c2⟩, h⟩ := PX.chk h
  refine ⟨PyD.dat x, ys.map PyD.dat, PyD.dp (Py.mono s rx), PyD.dp (Py.mono s ry), c1, c2, ?_⟩
  rw [any_mem]
  exact h.here s _ rfl
end
/-! sorted, of texts or of tuples with something at their head -/
class PyL (α : Type) [Py α] [DecidableEq α] [PyD α] : Prop where
  al : ∀ a b : α, PySem.W.alike (PyD.dat a) (PyD.dat b) = true
instance : PyL Int := ⟨fun _ _ => rfl⟩
instance : PyL Bool := ⟨fun _ _ => rfl⟩
instance instPyLTx : PyL Tx := ⟨fun _ _ => rfl⟩
theorem alikeAll_map {α : Type} [Py α] [DecidableEq α] [PyD α] [PyL α] : ∀ xs ys : List α, PySem.W.alikeAll (xs.map PyD.dat) (ys.map PyD.dat) = true
  | [], _ => by cases ‹List α› <;> rfl
  | _ :: _, [] => rfl
  | x :: xs, y :: ys => by
    show (PySem.W.alike (PyD.dat x) (PyD.dat y) && PySem.W.alikeAll (xs.map PyD.dat) (ys.map PyD.dat)) = true
    rw [PyL.al, alikeAll_map xs ys]; rfl
instance instPyLTup {α : Type} [Py α] [DecidableEq α] [PyD α] [PyL α] : PyL (Tup α) := ⟨fun a b => alikeAll_map (α := α) a b⟩
instance instPyLList {α : Type} [Py α] [DecidableEq α] [PyD α] [PyL α] : PyL (List α) := ⟨fun a b => alikeAll_map a b⟩
instance instPyLProd {α β : Type} [Py α] [Py β] [DecidableEq α] [DecidableEq β] [PyD α] [PyD β] [PyL α] [PyL β] : PyL (α × β) := ⟨fun a b => by
  show (PySem.W.alike (PyD.dat a.1) (PyD.dat b.1) && (PySem.W.alike (PyD.dat a.2) (PyD.dat b.2) && PySem.W.alikeAll [] [])) = true
  rw [PyL.al, PyL.al]
  rfl⟩
class PySo (α : Type) [Py α] [DecidableEq α] [PyD α] : Prop where
  so : ∀ bs : List α, PySem.W.Sortable (bs.map PyD.dat)
instance instPySoTx : PySo Tx := ⟨fun bs => PySem.W.Sortable.others fun b => ⟨(fun z => nomatch (show (PyData.str (G.S b)) = .none from z)), (fun xs z => nomatch (show (PyData.str (G.S b)) = .tuple xs from z))⟩⟩
instance instPySoProd {α β : Type} [Py α] [Py β] [DecidableEq α] [DecidableEq β] [PyD α] [PyD β] : PySo (α × β) := ⟨fun bs => PySem.W.Sortable.tuples fun b => ⟨_, _, rfl⟩⟩
def srtD {α : Type} [Py α] [DecidableEq α] [PyD α] (ys : List α) : List α := ys.mergeSort (PySem.W.dataLe false PyD.dat)
def sortM {α : Type} [Py α] [DecidableEq α] [PyD α] (ys : List α) : M (List α) := chk (ys.length ≤ SZ ∧ ∀ b ∈ ys, Shp b) >>= fun _ => pure (srtD ys)
def rSortDt (α : Type) [Py α] [DecidableEq α] [PyD α] (K : Fg) : List V → Hp → VK → Prop := fun xs H Q => ∃ (a : Addr) (ys : List α) (vs : List V) (Hi : Hp), xs = [.ref a] ∧ SqL K H a vs ∧ Same Hi H ∧ Rl K Hi ys vs ∧ (∀ b ∈ ys, Shp b) ∧ ys.length ≤ sizeLine ∧
  ∀ (ws : List V) (p : Addr), H p = none → Rl K Hi (srtD ys) ws → Q (.ref p) (upd H p (.lst ws))
section
variable {X : Cx} {α : Type} [Py α] [DecidableEq α] [PyD α] [PyL α] [PySo α]
theorem each_of {K : Fg} {H : Hp} : ∀ {ys : List α} {vs : List V} {us : List Value}, Rl K H ys vs → Vals vs us → PySem.W.EachIs (fun (v : Value) (b : α) => ∃ x, RelV x v ∧ Py.rep K H b x) us ys
  | [], [], [], _, _ => .nil
  | y :: ys, v :: vs, u :: us, h, r => by
    cases h with
    | cons h1 h2 => cases r with
      | cons r1 r2 => exact .cons ⟨v, r1, h1⟩ (each_of h2 r2)
theorem of_each {K : Fg} {H : Hp} : ∀ {ys : List α} {us : List Value}, PySem.W.EachIs (fun (v : Value) (b : α) => ∃ x, RelV x v ∧ Py.rep K H b x) us ys → ∃ ws, Vals ws us ∧ Rl K H ys ws
  | _, _, .nil => ⟨[], .nil, Paired.nil⟩
  | _, _, .cons ⟨x, r1, r2⟩ h => by
    obtain ⟨ws, h1, h2⟩ := of_each h
    exact ⟨x :: ws, .cons r1 h1, Paired.cons r2 h2⟩
theorem call_sortedDt (hu : X.A.units + 70 < cLine) : CallR X (.builtin "sorted") (rSortDt α X.K) := by
  intro pins s σ H xs us Q I r h
  obtain ⟨a, ys, vs, Hi, rfl, hs, sm, hr, shp, hz, q⟩ := h
  obtain ⟨its, rv, hl, _⟩ := I.list hs
  rw [Vals.ref1 r]
  have e := each_of hr rv
  refine PySem.W.sorted_data hl.isList e (e.mono fun v b ⟨x, r1, r2⟩ => Dp.reads I _ x v (PyD.dp (Py.mono sm r2)) r1) (PySem.W.AllAlike.of PyL.al) (PySo.so ys) hz (fun b hb => by have := SeqAt.depth_of_shaped (shp b hb); omega) fun out ho eo => ?_
  obtain ⟨ws, w1, w2⟩ := of_each eo
  obtain ⟨ep, he'⟩ := PyProof.Rows.sortedAll_at s.heap its out.toArray
  have hlen : ws.length ≤ sizeLine := by rw [w1.length, ho]; exact hz
  exact ⟨.ref _, upd H (s.heap.objs.size + 1) (.lst ws), I.laid (t' := s.toks) (fun _ _ => PyProof.Rows.sortedAll_old) (Nat.le_succ _) ⟨hlen, out, ep, w1, he'⟩, rfl, q ws _ (I.hok.fresh (Nat.le_succ _)) w2⟩
variable {K : Fg} {mg : Str → Option Value} {b : Bs} {L : List En} {E : XK} {e : Expr} {p2 pos : Pos}
/-- sorted(xs), held -/
theorem jf_sorted {m : M (List α)} (hu : X.A.units + 70 < cLine) (hm : mg "sorted" = none) (h : JE X K b L E e m) (hK : X.K = K := by rfl) (hM : X.mg = mg := by rfl)
    (hg : Gl X "sorted" := by rfl) (he : starEach [e] X.env = (false, eval e X.env) :: starEach [] X.env := by rfl) (hpl : (backTo pos (starEach [] X.env)).any (·.1) = false := by rfl) : JF X K b L E (.Call (.Name "sorted" p2) [e] [] pos) (ctL K) (m >>= fun xs => sortM xs) := by
  subst hK
  exact ⟨fun σ Hi H en Q hq => PE.wp (pe_callB (call_sortedDt (α := α) hu) hg (by rw [hM]; exact hm) bt_sorted (pa_cons pe_wp pa_nil he) (by decide) (by decide) he hpl) (h.go σ Hi H en _ ((PX.bind hq).imp fun xs Hi1 H1 n1 k v rv => by
    obtain ⟨p, vs, rfl, h1, h2⟩ := rv
    obtain ⟨⟨c1, c2⟩, k⟩ := PX.chk k
    refine ⟨p, xs, vs, Hi1, rfl, Same.seq n1.sub h1, n1.sub, h2, c2, c1, fun ws r hr hrl => ?_⟩
    have nr : H r = none := by
      cases z : H r with
      | none => rfl
      | some u => rw [n1.al r u z] at hr; cases hr
    exact (PX.go (a := srtD xs) k (Nx.temp n1.sub hr)) r _ upd_same nr (hi_none n1.sub hr) ⟨_, rfl, hrl⟩))⟩
end
theorem _root_.L2.Room.u70 {k : Nat} {A : Around} (h : L2.Room k A) : A.units + 70 < cLine := by
  have := h.un
  omega
/-! the lesser of two texts -/
def strAt (a b : Str) (i : Nat) : Str := if i = 0 then a else b
def twoS (a b : Str) (t u : Tok) : Array Value := #[.str a t, .str b u]
theorem two_at {a b : Str} {t u : Tok} {i : Nat} {v : Value} (h : (twoS a b t u)[i]? = some v) : ∃ k, v = .str (strAt a b i) k := by
  unfold twoS at h
  match i, h with
  | 0, h => exact ⟨t, by simpa [strAt] using h.symm⟩
  | 1, h => exact ⟨u, by simpa [strAt] using h.symm⟩
  | i + 2, h => simp at h
theorem min_two_texts {prog : Program} {w : World} {A : Around} {E : Value → Shared → Prop} {s : Shared} {a b : Str} {t u : Tok} {Q : Value → Shared → Prop} (hh : A.handled = none)
    (h : ∀ h' tk, (∀ c o, s.heap.get? c = some o → h'.get? c = some o) → Q (if b.cps.toList < a.cps.toList then Value.str b u else Value.str a t) { s with heap := h', toks := tk }) :
    wpAny (model prog w) A (call (.builtin "min") [.str a t, .str b u]) Q E s := by
  have size : (s.heap.push { cls := .type "tuple", data := .seq #[.str a t, .str b u] }).objs.size = s.heap.objs.size + 1 := Heap.size_push ..
  have tup : (s.heap.push { cls := .type "tuple", data := .seq #[.str a t, .str b u] }).IsTuple s.heap.objs.size (twoS a b t u) := ⟨_, Heap.get?_push_size _ rfl, rfl, 0, rfl⟩
  have less : CmpOf prog w A.in1 .Lt (fun i v => (twoS a b t u)[i]? = some v) (fun i j => decide ((strAt a b i).cps.toList < (strAt a b j).cps.toList)) := fun i j vi vj s Q E hi hj hq => by
    obtain ⟨k, rfl⟩ := two_at hi
    obtain ⟨l, rfl⟩ := two_at hj
    exact richCompare_gives (op := .Lt) (typeIs_str s _ k) (typeIs_str s _ l) F.slot_str_lt F.entry_str_lt (F.args_str_lt_2 _ _) (gives_str_lt _ _ k l) (fun z => nomatch z) hq
  refine call_min_two (wpAny_pyIter_tuple tup ⟨_, [_, s.heap.objs.size], [_], _, _, _, _, rfl, Walks.tuple (A := A.in1) hh _ s.heap.objs.size (by rw [size]; exact Nat.ne_of_lt (Nat.lt_succ_self _)) (twoS a b t u), ⟨⟨_, Heap.get?_push_size _ rfl, rfl, rfl⟩, tup.push _⟩, fun c hc => ?_, by simp [twoS], less, fun v h' tk hv hk => ?_⟩)
  · show c < ((s.heap.push _).push _).objs.size
    rw [Heap.size_push, size]
    simp only [List.mem_cons, List.not_mem_nil, or_false] at hc
    rcases hc with rfl | rfl
    · rw [size]; exact Nat.lt_succ_self _
    · exact Nat.lt_succ_of_lt (Nat.lt_succ_self _)
  · have old : ∀ c o, s.heap.get? c = some o → h'.get? c = some o := fun c o e => by
      refine hk c o (fun hm => ?_) (Heap.get?_push_of_some _ (Heap.get?_push_of_some _ e))
      have := Heap.lt_size e
      rw [List.mem_singleton.mp hm, size] at this
      exact Nat.lt_irrefl _ (Nat.lt_of_succ_lt this)
    have hv : (twoS a b t u)[argBest (fun i j => decide ((strAt a b i).cps.toList < (strAt a b j).cps.toList)) 1]? = some v := hv
    have q := h h' tk old
    by_cases c : b.cps.toList < a.cps.toList
    · have e : argBest (fun i j => decide ((strAt a b i).cps.toList < (strAt a b j).cps.toList)) 1 = 1 := by simp [argBest, strAt, c]
      rw [e] at hv
      rw [if_pos c] at q
      have hv : Value.str b u = v := by simpa [twoS] using hv
      rw [← hv]; exact q
    · have e : argBest (fun i j => decide ((strAt a b i).cps.toList < (strAt a b j).cps.toList)) 1 = 0 := by simp [argBest, strAt, c]
      rw [e] at hv
      rw [if_neg c] at q
      have hv : Value.str a t = v := by simpa [twoS] using hv
      rw [← hv]; exact q
def rMin2S : List V → Hp → VK → Prop := fun xs H Q => ∃ i j : Str, xs = [.str i, .str j] ∧ Q (.str (if j.cps.toList < i.cps.toList then j else i)) H
theorem call_min2S {X : Cx} (hc : X.calm = true := by rfl) : CallR X (.builtin "min") rMin2S := by
  intro pins s σ H xs us Q I r h
  obtain ⟨i, j, rfl, q⟩ := h
  obtain ⟨u, w', rfl, ⟨t, rfl⟩, ⟨t', rfl⟩⟩ := vals2 r
  refine min_two_texts (I.ok.hd hc) fun h' tk k => ⟨_, H, I.kept k, ?_, q⟩
  by_cases hj : j.cps.toList < i.cps.toList
  · rw [if_pos hj, if_pos hj]; exact ⟨_, rfl⟩
  · rw [if_neg hj, if_neg hj]; exact ⟨_, rfl⟩
theorem ra_min2S {K : Fg} {E : XK} : RA2 K E rMin2S (fun i j : Tx => (pure (if j < i then j else i) : M Tx)) := by
  rintro i j v w Hi H Q s rfl rfl h
  refine ⟨G.S i, G.S j, rfl, ?_⟩
  have := h.here s _ rfl
  by_cases c : j < i
  · rw [if_pos c] at this
    rw [if_pos (show (G.S j).cps.toList < (G.S i).cps.toList from c)]; exact this
  · rw [if_neg c] at this
    rw [if_neg (show ¬ (G.S j).cps.toList < (G.S i).cps.toList from c)]; exact this
/-! a global that is three empty tuples and a truth value -/
theorem emptT_ok {K : Fg} {a : Addr} (h : emptT K a = true) (H : Hp) : SqT K H a [] := by
  unfold emptT at h
  cases q : K.lookup a with
  | none => rw [q] at h; cases h
  | some o =>
    rw [q] at h
    cases d : o.data with
    | seq its n =>
      simp only [d, Bool.and_eq_true, decide_eq_true_eq] at h
      have e : its.toList = [] := List.isEmpty_iff.mp h.2
      exact .inr ⟨o, its, n, q, h.1, d, by rw [← Array.length_toList, e]; exact Nat.zero_le _, by rw [e]; exact .nil⟩
    | _ => simp [d] at h
theorem emp4_ok {K : Fg} {x : Str} {z : Bool} (h : emp4B K x z = true) (H : Hp) : ∃ a b c : Addr, SqT K H (He.ga K x) [.ref a, .ref b, .ref c, .bl z] ∧ SqT K H a [] ∧ SqT K H b [] ∧ SqT K H c [] := by
  unfold emp4B at h
  cases q : K.lookup (He.ga K x) with
  | none => rw [q] at h; cases h
  | some o =>
    rw [q] at h
    cases d : o.data with
    | seq its n =>
      simp only [d, Bool.and_eq_true, decide_eq_true_eq] at h
      obtain ⟨h1, h2⟩ := h
      split at h2
      · rename_i a b c w e
        simp only [Bool.and_eq_true, beq_iff_eq] at h2
        obtain ⟨rfl, ha, hb, hc⟩ := h2
        refine ⟨a, b, c, .inr ⟨o, its, n, q, h1, d, ?_, ?_⟩, emptT_ok ha H, emptT_ok hb H, emptT_ok hc H⟩
        · rw [← Array.length_toList, e]; exact (by decide : (4 : Nat) ≤ sizeLine)
        · rw [e]; exact .cons rfl (.cons rfl (.cons rfl (.cons rfl .nil)))
      · cases h2
    | _ => simp [d] at h
theorem je_emp4 {X : Cx} {K : Fg} {mg : Str → Option Value} {b : Bs} {L : List En} {E : XK} {x : Str} {z : Bool} {pos : Pos} {α β γ : Type} [Py α] [Py β] [Py γ] (hm : mg x = some (.ref (He.ga K x))) (hb : emp4B K x z = true) (hK : X.K = K := by rfl) (hM : X.mg = mg := by rfl) (hg : Gl X x := by rfl) (hd : (x == ("__debug__" : Str)) = false := by decide) :
    JE X K b L E (.Name x pos) (pure (T4.mk [] [] [] z) : M (T4 (Tup α) (Tup β) (Tup γ) Bool)) := by
  subst hK
  refine .of ⟨_, pe_glob (v := .ref (He.ga X.K x)) hg (by rw [hM]; exact hm) rfl hd, fun σ Hi H en Q hq => ?_⟩
  obtain ⟨a, b, c, h1, h2, h3, h4⟩ := emp4_ok hb Hi
  exact hq.here en.sub _ ⟨_, _, _, _, _, rfl, h1, ⟨a, [], rfl, h2, Paired.nil⟩, ⟨b, [], rfl, h3, Paired.nil⟩, ⟨c, [], rfl, h4, Paired.nil⟩, rfl⟩
/-! xs.remove(a), a in xs -/
def rmAt {α : Type} [DecidableEq α] (a : α) (zs : List α) : Option Nat := zs.findIdx? fun z => decide (z = a)
def rmv {α : Type} [DecidableEq α] (a : α) (zs : List α) : List α := match rmAt a zs with
  | some j => zs.eraseIdx j
  | none => zs
theorem rl_erase {α : Type} [Py α] {K : Fg} {H : Hp} : ∀ {zs : List α} {xs : List V} (j : Nat), Rl K H zs xs → Rl K H (zs.eraseIdx j) (xs.eraseIdx j)
  | [], [], _, _ => Paired.nil
  | z :: zs, x :: xs, j, h => by
    cases h with
    | cons h1 h2 => cases j with
      | zero => exact h2
      | succ j => exact Paired.cons h1 (rl_erase j h2)
theorem place_at {α : Type} [Py α] [DecidableEq α] [PyD α] (a : α) (zs : List α) : PySem.SeqAt.dataPlace (zs.map PyD.dat) (PyD.dat a) = rmAt a zs := by
  unfold PySem.SeqAt.dataPlace rmAt
  rw [List.findIdx?_map]
  congr 1
  funext z
  exact PyD.eqv z a
def rRemD (α : Type) [Py α] [DecidableEq α] [PyD α] (K : Fg) : V → List V → Hp → VK → Prop := fun x vs H Q => ∃ (l : Addr) (xs : List V) (y : V) (zs : List α) (a : α) (Hi : Hp) (j : Nat), x = .ref l ∧ vs = [y] ∧ H l = some (.lst xs) ∧ Same Hi H ∧ Rl K Hi zs xs ∧ Py.rep K Hi a y ∧ Shp a ∧ Shp zs ∧ rmAt a zs = some j ∧
  Q .non (upd H l (.lst (xs.eraseIdx j)))
theorem mt_removeD {X : Cx} {α : Type} [Py α] [DecidableEq α] [PyD α] (hu : X.A.units + 70 < cLine) : MtM X "list.remove" (rRemD α X.K) := by
  intro pins s σ H x vs v us Q I rx rv h
  obtain ⟨l, xs, y, zs, a, Hi, j, rfl, rfl, hH, sm, hr, ha, s1, s2, hj, q⟩ := h
  cases rx
  obtain ⟨u, rfl, ru⟩ := rv.one
  obtain ⟨z, its, n, r, hl, e⟩ := I.lstM hH
  obtain ⟨as, rd⟩ := Dp.reads I _ y u (PyD.dp (Py.mono sm ha)) ru
  obtain ⟨bs, rl⟩ := Dp.reads I (PyD.dat zs) (.ref l) (.ref l) (.lst (SqL.of hH) (dpAll (hr.mono sm))) rfl
  have all : ∃ cs, ReadsAll s.heap its (zs.map PyD.dat) cs := by
    cases rl with
    | list g1 g2 g3 g4 =>
      rw [e] at g1
      cases g1
      cases g3
      exact ⟨_, g4⟩
  obtain ⟨cs, all⟩ := all
  have d1 : (PyD.dat zs).depth ≤ 64 := SeqAt.depth_of_shaped s2
  have d1 : PyData.depthAll (zs.map PyD.dat) + 1 ≤ 64 := d1
  refine PySem.SeqAt.remove_list_data (vs := its.toArray) ⟨_, e, rfl, n, rfl⟩ all rd (PyData.plainAll_of_canLay0 _ (SeqAt.canLay_of_shaped s2)) (PyData.plain_of_canLay0 _ (SeqAt.canLay_of_shaped s1)) (by omega) (by rw [place_at]; exact hj) (by rw [List.size_toArray]; omega) ?_
  refine ⟨.non, _, I.lset (t' := s.toks) (its' := its.eraseIdx j) hH e (by rw [List.eraseIdxIfInBounds_toArray]) (r.eraseIdx j) ?_, rfl, q⟩
  have := List.length_eraseIdx_le xs j
  omega
section
variable {X : Cx} {K : Fg} {b : Bs} {L : List En} {E : XK} {e : Expr} {α : Type} {pos p2 : Pos}
theorem j1_remove [Py α] [DecidableEq α] [PyD α] {m : M α} (i : Nat) (hu : X.A.units + 70 < cLine) {x : Str} {xs : List α} {apos : Pos} {pn : Pos} (h : JE X K b L E e m) (hK : X.K = K := by rfl) (hL : L[i]? = some (.mu (ctL K xs)) := by rfl) (hN : X.N[i]? = some x := by rfl) (hv : Vis X.env.scope x := by first | exact Or.inl rfl | exact Or.inr (Or.inl rfl) | exact Or.inr (Or.inr rfl))
    (hd : (x == ("__debug__" : Str)) = false := by decide) (hcd : (x == ("__classdict__" : Str)) = false := by decide) (hs1 : starEach [e] X.env = (false, eval e X.env) :: starEach [] X.env := by rfl)
    (hbase : attributeBase (.Name x pn) "remove" X.env (eval (.Name x pn) X.env) = eval (.Name x pn) X.env := by rfl)
    (hfew : ((backTo p2 (starEach [e] X.env)).all (fun x => !x.1) && (backToKw p2 (keywordEach [] X.env)).all (fun x => x.1.isSome) && decide ([e].length + ([] : List Keyword).length + (if ([] : List Keyword).isEmpty then 0 else 1) < 30)) = true := by rfl)
    (hline : (apos.endLine == p2.line) = true := by rfl) (hplain : (backTo p2 (starEach [] X.env)).any (·.1) = false := by rfl)
    (hs : swapsWith (.Call (.Attribute (.Name x pn) "remove" apos) [e] [] p2) none pos.line X.env = pure false := by rfl) :
    J1 X K b L E (.Expr (.Call (.Attribute (.Name x pn) "remove" apos) [e] [] p2) pos) (m >>= fun a => chk (Shp a ∧ Shp xs ∧ (rmAt a xs).isSome = true) >>= fun _ => pure a) (fun a => L.set i (.mu (ctL K (rmv a xs)))) :=
  ⟨fun σ Hi H en D hz => by
    subst hK
    obtain ⟨p, vs, h1, h2, r⟩ := en.muL hL
    refine PS.wp (ps_expr (pe_bm PySem.F.plainAttrs_list PySem.F.slot_list_remove PySem.F.type_list_remove (mt_removeD (α := α) hu) (pe_var hN hv hd hcd) (pa_cons pe_wp pa_nil hs1) hbase hfew hline hs1 hplain) hs) ?_
    refine ⟨_, h1, .inl ⟨rfl, _, SqL.of h2⟩, h.go σ Hi H en _ ((PZ.bind en hz).imp fun a Hi' H' y q v rv => ?_)⟩
    obtain ⟨c, q⟩ := PZ.chk q
    have en' := en.nx y
    obtain ⟨c1, c2, c3⟩ := c
    obtain ⟨j, hj⟩ := Option.isSome_iff_exists.mp c3
    have er : rmv a xs = xs.eraseIdx j := by unfold rmv; rw [hj]
    refine ⟨p, vs, v, xs, a, Hi', j, rfl, rfl, y.al _ _ h2, y.sub, r.mono y.im, rv, c1, c2, hj, ?_⟩
    exact (show ∀ σ' Hi' H', EnvOk b (L.set i (.mu (ctL X.K (rmv a xs)))) σ' Hi' H' → D.nx σ' H' from q) _ Hi' _ (en'.mut (c' := ctL X.K (rmv a xs)) hL h1 ⟨_, rfl, by rw [er]; exact rl_erase j (r.mono y.im)⟩)⟩
end
/-! try: x = f(..) except A: .. except B: .. -/
def tryM2 {α S : Type} (cs1 cs2 : List Str) (sOk : α → S) (h1 h2 : Str → M S) (m : M α) : M S := match m with
  | .ok a => pure (sOk a)
  | .error (.rs c) => if c ∈ cs1 then nr (h1 c) else if c ∈ cs2 then nr (h2 c) else stuck
  | .error .st => stuck
theorem j1_try_two {X : Cx} {K : Fg} {b : Bs} {L : List En} {E : XK} {α S : Type} {p2 p3 p5 p6 pos : Pos} [Py α] {body1 : Stmt} {m : M α} {sOk : α → S} {h1 h2 : Str → M S} {cs1 cs2 : List Str} {Lf : S → List En} {C1 C2 : Str} {b1 b2 : Stmt} {r1 r2 : List Stmt} {Lb : α → List En}
    (hb : ∀ pn xe (W : WX), Takes (X.tr pn xe) W → ∀ σ Hi H, EnvOk b L σ Hi H → ∀ D : Ends, PX K (WE W σ) m Hi H (fun a Hi' H' => ∀ σ', EnvOk b (Lb a) σ' Hi' H' → D.nx σ' H') → wpB (X.tr pn xe) [body1] D σ H) (hw : ∀ a, Wk (Lb a) (Lf (sOk a)))
    (x1 : ∀ c ∈ cs1, (He.Fa.exm c C1 true).ok K = true) (x2 : ∀ c ∈ cs2, (He.Fa.exm c C1 false).ok K = true) (x3 : ∀ c ∈ cs2, (He.Fa.exm c C2 true).ok K = true)
    (s1 : ∀ c ∈ cs1, ∀ (a : Addr) (oe : Obj) (pn : List (Addr × Obj)), Zc (.ref (He.ga K c)) none oe → (∃ vs, oe.data = .fields vs) → JS (X.suite a ((a, oe) :: pn)) K b L E0 (b1 :: r1) tlAny (h1 c) (pNx b Lf))
    (s2 : ∀ c ∈ cs2, ∀ (a : Addr) (oe : Obj) (pn : List (Addr × Obj)), Zc (.ref (He.ga K c)) none oe → (∃ vs, oe.data = .fields vs) → JS (X.suite a ((a, oe) :: pn)) K b L E0 (b2 :: r2) tlAny (h2 c) (pNx b Lf))
    (g1 : X.mg C1 = some (.ref (He.ga K C1))) (g2 : X.mg C2 = some (.ref (He.ga K C2))) (hK : X.K = K := by rfl) (hst : X.stack = X.env :: X.outer := by rfl) (hf : X.env.frame = some X.env.locals := by rfl) (hg1 : Gl X C1 := by rfl) (hg2 : Gl X C2 := by rfl) (hd1 : (C1 == ("__debug__" : Str)) = false := by decide) (hd2 : (C2 == ("__debug__" : Str)) = false := by decide) :
    J1 X K b L E (.Try [body1] [.ExceptHandler (some (.Name C1 p2)) none (b1 :: r1) p3, .ExceptHandler (some (.Name C2 p5)) none (b2 :: r2) p6] [] [] pos) (tryM2 cs1 cs2 sOk h1 h2 m) Lf := by
  subst hK
  refine ⟨fun σ Hi H en D hz => PS.wp (ps_try_many (tb := fun W D σ H => ∀ pn xe, Takes (X.tr pn xe) W → wpB (X.tr pn xe) [body1] D σ H) hst hf takes0
    (fun W pn xe tk _ => ⟨fun pins s σ H D I h => h pn xe tk pins s I⟩)
    (.cons (ts := fun a cls d D σ H => ∀ oe pn, Zc cls d oe → (∃ vs, oe.data = .fields vs) → wpB (X.suite a ((a, oe) :: pn)) (b1 :: r1) D σ H) ⟨hg1, hd1, .inl g1⟩ (fun a oe cls d pn hz hv => ⟨fun pins s σ H D I h => h oe pn hz hv pins s I⟩)
      (.cons (ts := fun a cls d D σ H => ∀ oe pn, Zc cls d oe → (∃ vs, oe.data = .fields vs) → wpB (X.suite a ((a, oe) :: pn)) (b2 :: r2) D σ H) ⟨hg2, hd2, .inl g2⟩ (fun a oe cls d pn hz hv => ⟨fun pins s σ H D I h => h oe pn hz hv pins s I⟩) .nil))) ?_⟩
  intro pn xe tk
  refine hb pn xe _ tk σ Hi H en D ?_
  cases m with
  | ok a => exact fun Hi' H' n σ' en' => hz σ' Hi' H' (en'.wk (hw a))
  | error z =>
    cases z with
    | st => exact hz.elim
    | rs c =>
      have hz : PZ X.K E b (if c ∈ cs1 then nr (h1 c) else if c ∈ cs2 then nr (h2 c) else stuck) _ := hz
      intro Hi' H' nx
      by_cases hc : c ∈ cs1
      · rw [if_pos hc] at hz
        refine ⟨true, He.exm_ok (x1 c hc), fun _ a ha => ?_, fun q => nomatch q⟩
        intro oe pn' z1 z2
        exact (s1 c hc a oe pn' z1 z2).go _ Hi' H' (en.nx nx) _ trivial ((pz_nr hz).imp fun s k σ2 Hi2 H2 en2 => k _ Hi2 H2 en2)
      · rw [if_neg hc] at hz
        by_cases hc2 : c ∈ cs2
        · rw [if_pos hc2] at hz
          refine ⟨false, He.exm_ok (x2 c hc2), (fun q => nomatch q), fun _ => ⟨true, He.exm_ok (x3 c hc2), fun _ a ha => ?_, fun q => nomatch q⟩⟩
          intro oe pn' z1 z2
          exact (s2 c hc2 a oe pn' z1 z2).go _ Hi' H' (en.nx nx) _ trivial ((pz_nr hz).imp fun s k σ2 Hi2 H2 en2 => k _ Hi2 H2 en2)
        · rw [if_neg hc2] at hz; exact hz.elim
theorem j1_tryS2 {X : Cx} {K : Fg} {b : Bs} {L : List En} {E : XK} {α S : Type} {e : Expr} {p' p2 p3 p4 p5 p6 pos : Pos} [Py α] {m : M α} {sOk : α → S} {h1 h2 : Str → M S} {cs1 cs2 : List Str} {Lf : S → List En} {x C1 C2 : Str} {b1 b2 : Stmt} {r1 r2 : List Stmt} (i : Nat)
    (hb : ∀ pn xe, JC (X.tr pn xe) K b L e m) (hw : ∀ a, Wk (L.set i (.im (rp K a))) (Lf (sOk a)))
    (x1 : ∀ c ∈ cs1, (He.Fa.exm c C1 true).ok K = true) (x2 : ∀ c ∈ cs2, (He.Fa.exm c C1 false).ok K = true) (x3 : ∀ c ∈ cs2, (He.Fa.exm c C2 true).ok K = true)
    (s1 : ∀ c ∈ cs1, ∀ (a : Addr) (oe : Obj) (pn : List (Addr × Obj)), Zc (.ref (He.ga K c)) none oe → (∃ vs, oe.data = .fields vs) → JS (X.suite a ((a, oe) :: pn)) K b L E0 (b1 :: r1) tlAny (h1 c) (pNx b Lf))
    (s2 : ∀ c ∈ cs2, ∀ (a : Addr) (oe : Obj) (pn : List (Addr × Obj)), Zc (.ref (He.ga K c)) none oe → (∃ vs, oe.data = .fields vs) → JS (X.suite a ((a, oe) :: pn)) K b L E0 (b2 :: r2) tlAny (h2 c) (pNx b Lf))
    (g1 : X.mg C1 = some (.ref (He.ga K C1))) (g2 : X.mg C2 = some (.ref (He.ga K C2))) (hN : X.N.Nodup) (hK : X.K = K := by rfl) (hst : X.stack = X.env :: X.outer := by rfl) (hf : X.env.frame = some X.env.locals := by rfl) (hg1 : Gl X C1 := by rfl) (hg2 : Gl X C2 := by rfl) (hd1 : (C1 == ("__debug__" : Str)) = false := by decide) (hd2 : (C2 == ("__debug__" : Str)) = false := by decide)
    (hi2 : X.N[i]? = some x := by rfl) (hlx : Loc X.env.scope x := by first | exact Or.inl rfl | exact Or.inr rfl) (hsw : ∀ pn xe, swapsWith e (some (.Name x p4)) p'.line (X.tr pn xe).env = pure false := by intro _ _; rfl) (hfx : X.fn x = true ∨ X.env.scope.names.lookup x = some .local := by first | exact .inl rfl | exact .inr rfl) :
    J1 X K b L E (.Try [.Assign [.Name x p4] e p'] [.ExceptHandler (some (.Name C1 p2)) none (b1 :: r1) p3, .ExceptHandler (some (.Name C2 p5)) none (b2 :: r2) p6] [] [] pos) (tryM2 cs1 cs2 sOk h1 h2 m) Lf :=
  j1_try_two (Lb := fun a => L.set i (.im (rp K a))) (fun pn xe W tk σ Hi H en D hq => PSs.wp (pss_one (ps_set (X := X.tr pn xe) hN hi2 hlx pe_wp (hsw pn xe) hfx)) ((hb pn xe).go W tk σ Hi H en _ (hq.imp fun a Hi' H' y q v rv => q _ ((en.nx y).set (p := rp K a) rv)))) hw x1 x2 x3 s1 s2 g1 g2 hK hst hf hg1 hg2 hd1 hd2
theorem jc_call2 {X : Cx} {K : Fg} {b : Bs} {L : List En} {α0 α1 ρ : Type} [Py α0] [Py α1] [Py ρ] {e0 e1 : Expr} {m0 : M α0} {m1 : M α1} {f : α0 → α1 → M ρ} {x : Str} {p pos : Pos} {k : Nat} (F : OkF X.prog X.w X.K X.mg X.base x k (sp2 K f)) (hr : Room k X.A) (h0 : ∀ E, JE X K b L E e0 m0) (h1 : ∀ E, JE X K b L E e1 m1) (hg : Gl X x := by rfl) (hdb : (x == ("__debug__" : Str)) = false := by decide) (s0 : starEach [e0, e1] X.env = (false, eval e0 X.env) :: starEach [e1] X.env := by rfl) (s1 : starEach [e1] X.env = (false, eval e1 X.env) :: starEach [] X.env := by rfl) (hpl : (backTo pos (starEach [e1] X.env)).any (·.1) = false := by rfl) : JC X K b L (.Call (.Name x p) [e0, e1] [] pos) (m0 >>= fun a0 => m1 >>= fun a1 => f a0 a1) := by
  obtain ⟨fa, fd, ps, F1, F2, F3, F4⟩ := F.ex
  refine ⟨fun W tk σ Hi H en Q h => PE.wp (pe_callS F3 hr hg F1 F2 F4 (fun σ => passAt tk σ) (pa_cons pe_wp (pa_cons pe_wp pa_nil s1) s0) hdb s0 hpl) ?_⟩
  refine (h0 (WE W σ)).go σ Hi H en _ (PX.imp (PX.bind h) fun a0 Hi1 H1 n1 k1 v0 r0 => ?_)
  refine (h1 (WE W σ)).go σ Hi1 H1 (en.nx n1) _ (PX.imp (PX.bind k1) fun a1 Hi2 H2 n2 k2 v1 r1 => ?_)
  exact ⟨a0, a1, v0, v1, _, rfl, n2.sub, (Py.mono n2.im r0), r1, k2⟩
theorem jc_call3 {X : Cx} {K : Fg} {b : Bs} {L : List En} {α0 α1 α2 ρ : Type} [Py α0] [Py α1] [Py α2] [Py ρ] {e0 e1 e2 : Expr} {m0 : M α0} {m1 : M α1} {m2 : M α2} {f : α0 → α1 → α2 → M ρ} {x : Str} {p pos : Pos} {k : Nat} (F : OkF X.prog X.w X.K X.mg X.base x k (sp3 K f)) (hr : Room k X.A) (h0 : ∀ E, JE X K b L E e0 m0) (h1 : ∀ E, JE X K b L E e1 m1) (h2 : ∀ E, JE X K b L E e2 m2) (hg : Gl X x := by rfl) (hdb : (x == ("__debug__" : Str)) = false := by decide) (s0 : starEach [e0, e1, e2] X.env = (false, eval e0 X.env) :: starEach [e1, e2] X.env := by rfl) (s1 : starEach [e1, e2] X.env = (false, eval e1 X.env) :: starEach [e2] X.env := by rfl) (s2 : starEach [e2] X.env = (false, eval e2 X.env) :: starEach [] X.env := by rfl) (hpl : (backTo pos (starEach [e1, e2] X.env)).any (·.1) = false := by rfl) : JC X K b L (.Call (.Name x p) [e0, e1, e2] [] pos) (m0 >>= fun a0 => m1 >>= fun a1 => m2 >>= fun a2 => f a0 a1 a2) := by
  obtain ⟨fa, fd, ps, F1, F2, F3, F4⟩ := F.ex
  refine ⟨fun W tk σ Hi H en Q h => PE.wp (pe_callS F3 hr hg F1 F2 F4 (fun σ => passAt tk σ) (pa_cons pe_wp (pa_cons pe_wp (pa_cons pe_wp pa_nil s2) s1) s0) hdb s0 hpl) ?_⟩
  refine (h0 (WE W σ)).go σ Hi H en _ (PX.imp (PX.bind h) fun a0 Hi1 H1 n1 k1 v0 r0 => ?_)
  refine (h1 (WE W σ)).go σ Hi1 H1 (en.nx n1) _ (PX.imp (PX.bind k1) fun a1 Hi2 H2 n2 k2 v1 r1 => ?_)
  refine (h2 (WE W σ)).go σ Hi2 H2 ((en.nx n1).nx n2) _ (PX.imp (PX.bind k2) fun a2 Hi3 H3 n3 k3 v2 r2 => ?_)
  exact ⟨a0, a1, a2, v0, v1, v2, _, rfl, n3.sub, (Py.mono n3.im (Py.mono n2.im r0)), (Py.mono n3.im r1), r2, k3⟩
theorem jc_call4 {X : Cx} {K : Fg} {b : Bs} {L : List En} {α0 α1 α2 α3 ρ : Type} [Py α0] [Py α1] [Py α2] [Py α3] [Py ρ] {e0 e1 e2 e3 : Expr} {m0 : M α0} {m1 : M α1} {m2 : M α2} {m3 : M α3} {f : α0 → α1 → α2 → α3 → M ρ} {x : Str} {p pos : Pos} {k : Nat} (F : OkF X.prog X.w X.K X.mg X.base x k (sp4 K f)) (hr : Room k X.A) (h0 : ∀ E, JE X K b L E e0 m0) (h1 : ∀ E, JE X K b L E e1 m1) (h2 : ∀ E, JE X K b L E e2 m2) (h3 : ∀ E, JE X K b L E e3 m3) (hg : Gl X x := by rfl) (hdb : (x == ("__debug__" : Str)) = false := by decide) (s0 : starEach [e0, e1, e2, e3] X.env = (false, eval e0 X.env) :: starEach [e1, e2, e3] X.env := by rfl) (s1 : starEach [e1, e2, e3] X.env = (false, eval e1 X.env) :: starEach [e2, e3] X.env := by rfl) (s2 : starEach [e2, e3] X.env = (false, eval e2 X.env) :: starEach [e3] X.env := by rfl) (s3 : starEach [e3] X.env = (false, eval e3 X.env) :: starEach [] X.env := by rfl) (hpl : (backTo pos (starEach [e1, e2, e3] X.env)).any (·.1) = false := by rfl) : JC X K b L (.Call (.Name x p) [e0, e1, e2, e3] [] pos) (m0 >>= fun a0 => m1 >>= fun a1 => m2 >>= fun a2 => m3 >>= fun a3 => f a0 a1 a2 a3) := by
  obtain ⟨fa, fd, ps, F1, F2, F3, F4⟩ := F.ex
  refine ⟨fun W tk σ Hi H en Q h => PE.wp (pe_callS F3 hr hg F1 F2 F4 (fun σ => passAt tk σ) (pa_cons pe_wp (pa_cons pe_wp (pa_cons pe_wp (pa_cons pe_wp pa_nil s3) s2) s1) s0) hdb s0 hpl) ?_⟩
  refine (h0 (WE W σ)).go σ Hi H en _ (PX.imp (PX.bind h) fun a0 Hi1 H1 n1 k1 v0 r0 => ?_)
  refine (h1 (WE W σ)).go σ Hi1 H1 (en.nx n1) _ (PX.imp (PX.bind k1) fun a1 Hi2 H2 n2 k2 v1 r1 => ?_)
  refine (h2 (WE W σ)).go σ Hi2 H2 ((en.nx n1).nx n2) _ (PX.imp (PX.bind k2) fun a2 Hi3 H3 n3 k3 v2 r2 => ?_)
  refine (h3 (WE W σ)).go σ Hi3 H3 (((en.nx n1).nx n2).nx n3) _ (PX.imp (PX.bind k3) fun a3 Hi4 H4 n4 k4 v3 r3 => ?_)
  exact ⟨a0, a1, a2, a3, v0, v1, v2, v3, _, rfl, n4.sub, (Py.mono n4.im (Py.mono n3.im (Py.mono n2.im r0))), (Py.mono n4.im (Py.mono n3.im r1)), (Py.mono n4.im r2), r3, k4⟩
theorem jc_call5 {X : Cx} {K : Fg} {b : Bs} {L : List En} {α0 α1 α2 α3 α4 ρ : Type} [Py α0] [Py α1] [Py α2] [Py α3] [Py α4] [Py ρ] {e0 e1 e2 e3 e4 : Expr} {m0 : M α0} {m1 : M α1} {m2 : M α2} {m3 : M α3} {m4 : M α4} {f : α0 → α1 → α2 → α3 → α4 → M ρ} {x : Str} {p pos : Pos} {k : Nat} (F : OkF X.prog X.w X.K X.mg X.base x k (sp5 K f)) (hr : Room k X.A) (h0 : ∀ E, JE X K b L E e0 m0) (h1 : ∀ E, JE X K b L E e1 m1) (h2 : ∀ E, JE X K b L E e2 m2) (h3 : ∀ E, JE X K b L E e3 m3) (h4 : ∀ E, JE X K b L E e4 m4) (hg : Gl X x := by rfl) (hdb : (x == ("__debug__" : Str)) = false := by decide) (s0 : starEach [e0, e1, e2, e3, e4] X.env = (false, eval e0 X.env) :: starEach [e1, e2, e3, e4] X.env := by rfl) (s1 : starEach [e1, e2, e3, e4] X.env = (false, eval e1 X.env) :: starEach [e2, e3, e4] X.env := by rfl) (s2 : starEach [e2, e3, e4] X.env = (false, eval e2 X.env) :: starEach [e3, e4] X.env := by rfl) (s3 : starEach [e3, e4] X.env = (false, eval e3 X.env) :: starEach [e4] X.env := by rfl) (s4 : starEach [e4] X.env = (false, eval e4 X.env) :: starEach [] X.env := by rfl) (hpl : (backTo pos (starEach [e1, e2, e3, e4] X.env)).any (·.1) = false := by rfl) : JC X K b L (.Call (.Name x p) [e0, e1, e2, e3, e4] [] pos) (m0 >>= fun a0 => m1 >>= fun a1 => m2 >>= fun a2 => m3 >>= fun a3 => m4 >>= fun a4 => f a0 a1 a2 a3 a4) := by
  obtain ⟨fa, fd, ps, F1, F2, F3, F4⟩ := F.ex
  refine ⟨fun W tk σ Hi H en Q h => PE.wp (pe_callS F3 hr hg F1 F2 F4 (fun σ => passAt tk σ) (pa_cons pe_wp (pa_cons pe_wp (pa_cons pe_wp (pa_cons pe_wp (pa_cons pe_wp pa_nil s4) s3) s2) s1) s0) hdb s0 hpl) ?_⟩
  refine (h0 (WE W σ)).go σ Hi H en _ (PX.imp (PX.bind h) fun a0 Hi1 H1 n1 k1 v0 r0 => ?_)
  refine (h1 (WE W σ)).go σ Hi1 H1 (en.nx n1) _ (PX.imp (PX.bind k1) fun a1 Hi2 H2 n2 k2 v1 r1 => ?_)
  refine (h2 (WE W σ)).go σ Hi2 H2 ((en.nx n1).nx n2) _ (PX.imp (PX.bind k2) fun a2 Hi3 H3 n3 k3 v2 r2 => ?_)
  refine (h3 (WE W σ)).go σ Hi3 H3 (((en.nx n1).nx n2).nx n3) _ (PX.imp (PX.bind k3) fun a3 Hi4 H4 n4 k4 v3 r3 => ?_)
  refine (h4 (WE W σ)).go σ Hi4 H4 ((((en.nx n1).nx n2).nx n3).nx n4) _ (PX.imp (PX.bind k4) fun a4 Hi5 H5 n5 k5 v4 r4 => ?_)
  exact ⟨a0, a1, a2, a3, a4, v0, v1, v2, v3, v4, _, rfl, n5.sub, (Py.mono n5.im (Py.mono n4.im (Py.mono n3.im (Py.mono n2.im r0)))), (Py.mono n5.im (Py.mono n4.im (Py.mono n3.im r1))), (Py.mono n5.im (Py.mono n4.im r2)), (Py.mono n5.im r3), r4, k5⟩

theorem ra_lenT4 {K : Fg} {E : XK} {α β γ δ : Type} [Py α] [Py β] [Py γ] [Py δ] : RA1 K E (fun xs H Q => ∃ p ys, xs = [.ref p] ∧ (SqL K H p ys ∨ SqT K H p ys) ∧ Q (.int ys.length) H) (fun _ : T4 α β γ δ => (pure 4 : M Int)) := by
  rintro xs v Hi H Q s ⟨p, v1, v2, v3, v4, rfl, h1, h2⟩ h
  exact ⟨p, _, rfl, .inr (sqt_mono s h1), h.here s _ rfl⟩
end G

set_option Elab.async false
set_option linter.all false
set_option maxRecDepth 100000
set_option maxHeartbeats 2000000
namespace G
open PySem L2 TL
/-! ### places: where a tree stands that is changed in its place -/
/-- v leads to the tree t, and goes on doing so; what is made of it, put tells -/
structure AtP (b : Bs) (σ : L2.St) (put : Tr → List En) (t : Tr) (v : V) (Hi0 H0 : Hp) : Prop where
  go : ∀ Hi1 H1, Nx Hi0 H0 Hi1 H1 → ∃ A, t.r Hi1 H1 A v ∧ (∀ a, a ∈ A → H1 a ≠ none ∧ Hi1 a = none) ∧ (∀ Hi' H', Ok ⟨Hi1, H1, A⟩ Hi' H' → Ok b Hi' H') ∧
    ∀ t' A' Hi' H', Ok ⟨Hi1, H1, A⟩ Hi' H' → t'.r Hi' H' A' v → (∀ a, a ∈ A' → H' a ≠ none ∧ Hi' a = none ∧ (a ∈ A ∨ H1 a = none)) → EnvOk b (put t') σ Hi' H'
structure JP (X : Cx) (b : Bs) (L : List En) (e : Expr) (t : Tr) (put : Tr → List En) : Prop where
  go : ∀ σ Hi H, EnvOk b L σ Hi H → ∃ v, AtP b σ put t v Hi H ∧ ∀ Q : VK, Q v H → wpE X e σ H Q
/-- an expression that changes trees: what is told, and what the frame is behind it -/
structure JM (X : Cx) (K : Fg) (b : Bs) (L : List En) (E : XK) (e : Expr) {α S : Type} [Py α] (m : M (α × S)) (Lf : S → List En) : Prop where
  go : ∀ σ Hi H, EnvOk b L σ Hi H → ∀ Q : VK, PZ K E b m (fun r => ∀ Hi' H' v, EnvOk b (Lf r.2) σ Hi' H' → Py.rep K Hi' r.1 v → Q v H') → wpE X e σ H Q
structure JTM (X : Cx) (K : Fg) (b : Bs) (L : List En) (E : XK) (e : Expr) {S : Type} (m : M (Bool × S)) (Lf : S → List En) : Prop where
  go : ∀ σ Hi H, EnvOk b L σ Hi H → ∀ Q : Bool → Hp → Prop, PZ K E b m (fun r => ∀ Hi' H', EnvOk b (Lf r.2) σ Hi' H' → Q r.1 H') → wpT X e σ H Q
/-- a tree at a value that is known -/
def pin (v0 : V) (t : Tr) : Tr := ⟨fun Hi H A v => v = v0 ∧ t.r Hi H A v, fun s e ⟨h1, h2⟩ => ⟨h1, t.m s e h2⟩⟩
section
variable {b : Bs} {L : List En} {σ : L2.St} {Hi H Hi' H' : Hp}
theorem Ok.refl (s : Same Hi H) {A : List Addr} : Ok ⟨Hi, H, A⟩ Hi H := ⟨s, Same.refl _, fun _ _ _ h => h, fun _ h => h, fun _ _ h => h⟩
theorem EnvOk.atP {i : Nat} {w : Bool} {t : Tr} {v : V} (e : EnvOk b L σ Hi H) (hL : L[i]? = some (.tr w t)) (hv : σ[i]? = some (some v)) : AtP b σ (fun t' => L.set i (.tr w t')) t v Hi H :=
  ⟨fun Hi1 H1 x => by
    obtain ⟨v1, A, h1, h2, h3, h4⟩ := (e.nx x).updT hL
    rw [hv] at h1
    cases h1
    exact ⟨A, h2, fun a ha => ⟨(h3 a ha).1, (h3 a ha).2.1⟩, fun Hi' H' o => (e.nx x).ok.within o fun a ha => (h3 a ha).2.2.elim (fun z => .inl z.2) .inr, h4⟩⟩
theorem EnvOk.trV {i : Nat} {w : Bool} {t : Tr} (e : EnvOk b L σ Hi H) (hL : L[i]? = some (.tr w t)) : ∃ v, σ[i]? = some (some v) :=
  let ⟨v, _, h, _⟩ := e.updT hL
  ⟨v, h⟩
theorem AtP.pin {put : Tr → List En} {t : Tr} {v v0 : V} (h : AtP b σ put (pin v0 t) v Hi H) : AtP b σ (fun t' => put (G.pin v0 t')) t v Hi H :=
  ⟨fun Hi1 H1 x => by
    obtain ⟨A, ⟨h0, h1⟩, h2, h3, h4⟩ := h.go Hi1 H1 x
    exact ⟨A, h1, h2, h3, fun t' A' Hi' H' o r hA => h4 _ A' Hi' H' o ⟨h0, r⟩ hA⟩⟩
theorem AtP.nx {put : Tr → List En} {t : Tr} {v : V} (h : AtP b σ put t v Hi H) (x : Nx Hi H Hi' H') : AtP b σ put t v Hi' H' := ⟨fun Hi1 H1 y => h.go Hi1 H1 (x.trans y)⟩
theorem Ok.mutA {A : List Addr} {a : Addr} {u : HO} (s : Same Hi H) (hn : Hi a = none) (ha : a ∈ A) : Ok ⟨Hi, H, A⟩ Hi (upd H a u) := (Ok.refl s).mut hn (.inl ha)
/-- one object, changed in its place -/
theorem AtP.one {put : Tr → List En} {c c' : Ct} {v : V} (h : AtP b σ put (G.one c) v Hi H) (x : Nx Hi H Hi' H') : ∃ p o, v = .ref p ∧ H' p = some o ∧ c.r Hi' o ∧ ∀ o', c'.r Hi' o' → EnvOk b (put (G.one c')) σ Hi' (upd H' p o') := by
  obtain ⟨A, ⟨p, o, h1, h2, h3, h4⟩, g2, g3, g4⟩ := h.go Hi' H' x
  subst h1; subst h2
  have hp := (g2 p (List.mem_singleton.mpr rfl)).2
  refine ⟨p, o, rfl, h3, h4, fun o' r => g4 _ [p] Hi' _ (Ok.mutA x.sub hp (List.mem_singleton.mpr rfl)) ⟨p, o', rfl, rfl, upd_same, r⟩ fun a ha => ?_⟩
  cases List.mem_singleton.mp ha
  exact ⟨(by rw [upd_same]; exact fun z => nomatch z), hp, .inl (List.mem_singleton.mpr rfl)⟩
end
section
variable {X : Cx} {K : Fg} {mg : Str → Option Value} {b : Bs} {L : List En} {E : XK} {e c : Expr} {st : Stmt} {rest a bb : List Stmt} {α β S S' R : Type} {pos p2 p' : Pos} {tl : Ends → Prop} {post : α → Ends → Prop} {put : Tr → List En} {t : Tr}
/-- a name that holds a tree -/
theorem jp_name (i : Nat) {w : Bool} {x : Str} {pn : Pos} (hL : L[i]? = some (.tr w t)) (hN : X.N[i]? = some x := by rfl) (hv : Vis X.env.scope x := by first | exact Or.inl rfl | exact Or.inr (Or.inl rfl) | exact Or.inr (Or.inr rfl))
    (hd : (x == ("__debug__" : Str)) = false := by decide) (hcd : (x == ("__classdict__" : Str)) = false := by decide) : JP X b L (.Name x pn) t (fun t' => L.set i (.tr w t')) :=
  ⟨fun σ Hi H en => by
    obtain ⟨v, h1⟩ := en.trV hL
    exact ⟨v, en.atP hL h1, fun Q q => PE.wp (pe_var hN hv hd hcd) ⟨v, h1, q⟩⟩⟩
theorem jp_pin {v0 : V} (h : JP X b L e (pin v0 t) put) : JP X b L e t (fun t' => put (pin v0 t')) :=
  ⟨fun σ Hi H en =>
    let ⟨v, h1, h2⟩ := h.go σ Hi H en
    ⟨v, h1.pin, h2⟩⟩
/-! what changes a frame, as a statement -/
theorem j1_setM [Py α] {m : M (α × S)} {Lf : S → List En} (i : Nat) {x : Str} (h : JM X K b L E e m Lf) (hN : X.N.Nodup) (hi : X.N[i]? = some x := by rfl) (hx : Loc X.env.scope x := by first | exact Or.inl rfl | exact Or.inr rfl) (hs : swapsWith e (some (.Name x p')) pos.line X.env = pure false := by rfl)
    (hf : X.fn x = true ∨ X.env.scope.names.lookup x = some .local := by first | exact .inl rfl | exact .inr rfl) : J1 X K b L E (.Assign [.Name x p'] e pos) m (fun r => (Lf r.2).set i (.im (rp K r.1))) :=
  ⟨fun σ Hi H en D hz => PS.wp (ps_set hN hi hx pe_wp hs hf) (h.go σ Hi H en _ (hz.imp fun r q Hi' H' v en' rv => q _ Hi' H' (en'.set (p := rp K r.1) rv)))⟩
theorem j1_dropM [Py α] {m : M (α × S)} {Lf : S → List En} (h : JM X K b L E e m Lf) (hs : swapsWith e none pos.line X.env = pure false := by rfl) : J1 X K b L E (.Expr e pos) (m >>= fun r => pure r.2) Lf :=
  ⟨fun σ Hi H en D hz => PS.wp (ps_expr pe_wp hs) (h.go σ Hi H en _ (hz.bindz.imp fun r q Hi' H' v en' _ => (show ∀ σ' Hi' H', EnvOk b (Lf r.2) σ' Hi' H' → D.nx σ' H' from q) _ Hi' H' en'))⟩
theorem jt_valM {m : M (Bool × S)} {Lf : S → List En} (h : JM X K b L E e m Lf) (he : ∀ whole, isTrue e X.env whole = (do let v ← whole; standAt e.pos; holding [v] (truthy v)) := by intro _; rfl) : JTM X K b L E e m Lf :=
  ⟨fun σ Hi H en Q hq => PT.wp (pt_val pe_wp he) (h.go σ Hi H en _ (hq.imp fun r q Hi' H' v en' rv => ⟨r.1, rv, q Hi' H' en'⟩))⟩
theorem jt_notM {m : M (Bool × S)} {Lf : S → List En} (h : JTM X K b L E e m Lf) : JTM X K b L E (.UnaryOp .Not e pos) (m >>= fun r => pure (!r.1, r.2)) Lf :=
  ⟨fun σ Hi H en Q hq => PT.wp (pt_not pt_wp) (h.go σ Hi H en _ (hq.bindz.imp fun r q Hi' H' en' => (show ∀ Hi' H', EnvOk b (Lf r.2) σ Hi' H' → Q (!r.1) H' from q) Hi' H' en'))⟩
/-- if with a test that changes the frame -/
theorem j1_ifM {mc : M (Bool × S)} {Lc : S → List En} {ma mb : S → M S'} {Lf : S' → List En} (h : JTM X K b L E c mc Lc) (h1 : ∀ s, JS X K b (Lc s) E a tlAny (ma s) (pNx b Lf)) (h2 : ∀ s, JS X K b (Lc s) E bb tlAny (mb s) (pNx b Lf)) :
    J1 X K b L E (.If c a bb pos) (mc >>= fun r => if r.1 = true then ma r.2 else mb r.2) Lf :=
  ⟨fun σ Hi H en D hz => PS.wp (ps_if pt_wp pss_wp pss_wp) (h.go σ Hi H en _ (hz.bindz.imp fun r q Hi' H' en' => by
    obtain ⟨t, s⟩ := r
    cases t with
    | true => exact (h1 s).go σ Hi' H' en' D trivial (by rw [if_pos rfl] at q; exact q)
    | false => exact (h2 s).go σ Hi' H' en' D trivial (by rw [if_neg Bool.false_ne_true] at q; exact q)))⟩
theorem js_if1M {mc : M (Bool × S)} {Lc : S → List En} {ma mr : S → M α} (pi : PiOk post) (h : JTM X K b L E c mc Lc) (h1 : ∀ s, JS X K b (Lc s) E a tlAny (ma s) post) (h2 : ∀ s, JS X K b (Lc s) E rest tl (mr s) post) :
    JS X K b L E (.If c a [] pos :: rest) tl (mc >>= fun r => if r.1 = true then ma r.2 else mr r.2) post :=
  ⟨fun σ Hi H en D ht hz => PSs.wp (pss_cons (ps_if pt_wp pss_wp pss_nil) pss_wp) (h.go σ Hi H en _ (hz.bindz.imp fun r q Hi' H' en' => by
    obtain ⟨t, s⟩ := r
    cases t with
    | true => exact (h1 s).go σ Hi' H' en' _ trivial (PZ.imp (by rw [if_pos rfl] at q; exact q) fun a h => pi a D _ h)
    | false => exact (h2 s).go σ Hi' H' en' D ht (by rw [if_neg Bool.false_ne_true] at q; exact q)))⟩
/-! what a def tells that was lent a tree: its value, and the tree -/
def PinT (R S : Type) (t : S → Tr) (v0 : V) : Type := R × S
instance instRtPin [Py R] {t : S → Tr} {v0 : V} : Rt (PinT R S t v0) := ⟨fun K own Hb Hi H x v => Py.rep K Hi x.1 v ∧ ∃ A, (t x.2).r Hi H A v0 ∧ ∀ a, a ∈ A → H a ≠ none ∧ Hi a = none ∧ (a ∈ own ∨ Hb a = none)⟩
theorem EnvOk.pinned {σ : L2.St} {Hi H : Hp} {i : Nat} {w : Bool} {v0 : V} (e : EnvOk b L σ Hi H) (hL : L[i]? = some (.tr w (pin v0 t))) : ∃ A, t.r Hi H A v0 ∧ ∀ a, a ∈ A → H a ≠ none ∧ Hi a = none ∧ (a ∈ b.own ∨ b.H a = none) := by
  obtain ⟨v, A, h1, ⟨h0, h2⟩, h3, _⟩ := e.updT hL
  subst h0
  exact ⟨A, h2, fun a ha => ⟨(h3 a ha).1, (h3 a ha).2.1, (h3 a ha).2.2.elim (fun z => .inl z.2) .inr⟩⟩
theorem js_retP [Py R] {m : M R} {T : S → Tr} {v0 : V} {s : S} {w : Bool} (i : Nat) (h : JE X K b L E e m) (hL : L[i]? = some (.tr w (pin v0 (T s))) := by rfl) : JS X K b L E (.Return (some e) pos :: rest) tl (m >>= fun r => pure (r, s)) (pRt K b (R := PinT R S T v0)) :=
  ⟨fun σ Hi H en D _ hz => PSs.wp (pss_cons (ps_ret pe_wp) pss_wp) (h.go σ Hi H en D.rt ((PZ.bind en hz).imp fun r Hi' H' x q v rv => by
    have en' := en.nx x
    obtain ⟨A, g1, g2⟩ := en'.pinned hL
    exact (show pRt K b (R := PinT R S T v0) (r, s) D from q) v Hi' H' en'.ok ⟨rv, A, g1, g2⟩))⟩
theorem js_retPL [Py R] {m : M R} {T : S → Tr} {v0 : V} {s : S} {w : Bool} {Lf : S' → List En} (i : Nat) (h : JE X K b L E e m) (hL : L[i]? = some (.tr w (pin v0 (T s))) := by rfl) : JS X K b L E (.Return (some e) pos :: rest) tl (m >>= fun r => pure (.rt (r, s)) : M (Tl S' (PinT R S T v0))) (pTl K b Lf) :=
  ⟨fun σ Hi H en D _ hz => PSs.wp (pss_cons (ps_ret pe_wp) pss_wp) (h.go σ Hi H en D.rt ((PZ.bind en hz).imp fun r Hi' H' x q v rv => by
    have en' := en.nx x
    obtain ⟨A, g1, g2⟩ := en'.pinned hL
    exact (show pRt K b (R := PinT R S T v0) (r, s) D from q) v Hi' H' en'.ok ⟨rv, A, g1, g2⟩))⟩
/-- return of what changes the frame -/
theorem js_retPM [Py R] {m : M (R × S')} {Lf : S' → List En} {T : S → Tr} {v0 : V} {w : Bool} {g : S' → S} (i : Nat) (h : JM X K b L E e m Lf) (hL : ∀ s, (Lf s)[i]? = some (.tr w (pin v0 (T (g s)))) := by intro _; rfl) :
    JS X K b L E (.Return (some e) pos :: rest) tl (m >>= fun r => pure (r.1, g r.2)) (pRt K b (R := PinT R S T v0)) :=
  ⟨fun σ Hi H en D _ hz => PSs.wp (pss_cons (ps_ret pe_wp) pss_wp) (h.go σ Hi H en D.rt (hz.bindz.imp fun r q Hi' H' v en' rv => by
    obtain ⟨A, g1, g2⟩ := en'.pinned (hL r.2)
    exact (show pRt K b (R := PinT R S T v0) (r.1, g r.2) D from q) v Hi' H' en'.ok ⟨rv, A, g1, g2⟩))⟩
theorem js_retNP {T : S → Tr} {v0 : V} {s : S} {w : Bool} (i : Nat) (hL : L[i]? = some (.tr w (pin v0 (T s))) := by rfl) : JS X K b L E (.Return none pos :: rest) tl (pure ((), s)) (pRt K b (R := PinT Unit S T v0)) :=
  ⟨fun σ Hi H en D _ hz => PSs.wp (pss_cons ps_retN pss_wp) (by
    obtain ⟨A, g1, g2⟩ := en.pinned hL
    exact (show pRt K b (R := PinT Unit S T v0) ((), s) D from hz) .non Hi H en.ok ⟨rfl, A, g1, g2⟩)⟩
theorem js_nilP' {T : S → Tr} {v0 : V} {s : S} {w : Bool} (i : Nat) (hL : L[i]? = some (.tr w (pin v0 (T s))) := by rfl) : JS X K b L E [] tlFn (pure ((), s)) (pRt K b (R := PinT Unit S T v0)) :=
  ⟨fun σ Hi H en D ht hz => PSs.wp pss_nil (by
    obtain ⟨A, g1, g2⟩ := en.pinned hL
    exact ht σ H ((show pRt K b (R := PinT Unit S T v0) ((), s) D from hz) .non Hi H en.ok ⟨rfl, A, g1, g2⟩))⟩
end
end G

set_option Elab.async false
set_option linter.all false
set_option maxRecDepth 100000
set_option maxHeartbeats 2000000
namespace G
open PySem L2 TL
def prV (v0 : V) : Pr := ⟨fun _ v => v = v0, fun _ h => h⟩
def noTr (L : List En) : Prop := ∀ (i : Nat) (w : Bool) (t : Tr), L[i]? ≠ some (.tr w t)
theorem noTr_start {ps : List Pr} {k : Nat} : noTr (ps.map En.im ++ List.replicate k En.no) := fun i w t h => by
  rcases List.mem_append.mp (List.mem_of_getElem? h) with q | q
  · obtain ⟨_, _, z⟩ := List.mem_map.mp q
    cases z
  · cases (List.mem_replicate.mp q).2
theorem EnvOk.adopt {Hi H : Hp} {A : List Addr} {L : List En} {σ : L2.St} {t : Tr} {v : V} (e : EnvOk ⟨Hi, H, A⟩ L σ Hi H) (i : Nat) (nt : noTr L) (hi : i < L.length) (hv : σ[i]? = some (some v)) (r : t.r Hi H A v) (hA : ∀ a, a ∈ A → H a ≠ none ∧ Hi a = none) :
    EnvOk ⟨Hi, H, A⟩ (L.set i (.tr true (pin v t))) σ Hi H := by
  refine ⟨e.ok, by rw [List.length_set]; exact e.len, fun j p h => ?_, fun _ => A, fun j w t' h => ?_, fun j k w u t1 t2 a h1 h2 _ _ => ?_⟩
  · by_cases hj : i = j
    · exact nomatch (get_set_of hj h).1
    · rw [List.getElem?_set_ne hj] at h; exact e.im j p h
  · by_cases hj : i = j
    · cases (get_set_of hj h).1
      subst hj
      exact ⟨v, hv, ⟨rfl, r⟩, fun a ha => ⟨(hA a ha).1, (hA a ha).2, .inl ⟨rfl, ha⟩⟩⟩
    · rw [List.getElem?_set_ne hj] at h; exact absurd h (nt j w t')
  · have key : ∀ {j : Nat} {w : Bool} {t1 : Tr}, (L.set i (.tr true (pin v t)))[j]? = some (.tr w t1) → i = j := fun {j w t1} h => by
      by_cases hj : i = j
      · exact hj
      · rw [List.getElem?_set_ne hj] at h; exact absurd h (nt j w t1)
    exact (key h1).symm.trans (key h2)
theorem PZ.of_fnP {K : Fg} {E : XK} {R S : Type} [Py R] {t : S → Tr} {v0 : V} {m : M (R × S)} {Hi H : Hp} {A : List Addr} {Q : VK} {bkk ctt : L2.St → Hp → Prop}
    (h : PZ K E ⟨Hi, H, A⟩ m (fun r => ∀ Hi' H' A' v, Ok ⟨Hi, H, A⟩ Hi' H' → (t r.2).r Hi' H' A' v0 → (∀ a, a ∈ A' → H' a ≠ none ∧ Hi' a = none ∧ (a ∈ A ∨ H a = none)) → Py.rep K Hi' r.1 v → Q v H')) :
    PZ K E ⟨Hi, H, A⟩ m (fun a => pRt K ⟨Hi, H, A⟩ (R := PinT R S t v0) a { nx := fun _ H' => Q .non H', rt := Q, bk := bkk, ct := ctt }) :=
  PZ.imp h fun r z v Hi' H' o ⟨r1, A', r2, r3⟩ => z Hi' H' A' v o r2 r3 r1
def spO1_0 (K : Fg) {ρ S S' : Type}  [Py ρ] (t : S → Tr) (t' : S' → Tr) (f : S → M (ρ × S')) : Sp := fun vs H Q E => ∃ (x : S) (v0 : V) (Hi : Hp) (A : List Addr), vs = [v0] ∧ Same Hi H ∧ (t x).r Hi H A v0 ∧ (∀ a, a ∈ A → H a ≠ none ∧ Hi a = none) ∧ PZ K E ⟨Hi, H, A⟩ (f x) (fun r => ∀ Hi' H' A' v, Ok ⟨Hi, H, A⟩ Hi' H' → (t' r.2).r Hi' H' A' v0 → (∀ a, a ∈ A' → H' a ≠ none ∧ Hi' a = none ∧ (a ∈ A ∨ H a = none)) → Py.rep K Hi' r.1 v → Q v H')
theorem jm_callO1_0 {ρ S S' : Type}  [Py ρ] {X : Cx} {K : Fg} {b : Bs} {L : List En} {E : XK} {e0 : Expr}  {t : S → Tr} {t' : S' → Tr} {f : S → M (ρ × S')} {x0 : S} {put : Tr → List En} {x : Str} {p pos : Pos} {k : Nat} (F : OkF X.prog X.w X.K X.mg X.base x k (spO1_0 K t t' f)) (hr : Room k X.A) (hx : Passes (L2.CX X.prog X.w) X E) (hp : JP X b L e0 (t x0) put) (hg : Gl X x := by rfl) (hdb : (x == ("__debug__" : Str)) = false := by decide) (s0 : starEach [e0] X.env = (false, eval e0 X.env) :: starEach [] X.env := by rfl) (hpl : (backTo pos (starEach [] X.env)).any (·.1) = false := by rfl) : JM X K b L E (.Call (.Name x p) [e0] [] pos) (f x0) (fun s => put (t' s)) :=
  ⟨fun σ Hi0 H0 en0 Q z0 => by
    obtain ⟨fa, fd, ps, F1, F2, F3, F4⟩ := F.ex
    refine PE.wp (pe_call F3 hr hg F1 F2 F4 .nil hx (pa_cons pe_wp pa_nil s0) hdb s0 hpl) ?_
    obtain ⟨v0, at0, go⟩ := hp.go σ Hi0 H0 en0
    refine go _ ?_
    obtain ⟨A, g1, g2, g3, g4⟩ := at0.go Hi0 H0 en0.rf
    refine ⟨x0, v0, Hi0, A, rfl, en0.sub, g1, g2, ?_⟩
    cases hf : f x0 with
    | error y =>
      rw [hf] at z0
      cases y with
      | rs c => exact fun Hi' H' o => z0 Hi' H' (g3 Hi' H' o)
      | st => exact z0
    | ok r =>
      rw [hf] at z0
      exact fun Hi' H' A' v o r1 r2 r3 => z0 Hi' H' v (g4 _ A' Hi' H' o r1 r2) r3⟩
theorem mkCO1_0 {ρ S S' : Type}  [Py ρ] {P : Program} {w : World} {K : Fg} {mg : Str → Option Value} {base : Heap} {x0 q0 : Str} {fa : Addr} {N : List Str} {p0 : Str} {args : Arguments} {body : List Stmt} {sc : Scope} {k : Nat} {t : S → Tr} {t' : S' → Tr} {f : S → M (ρ × S')} {fd : FuncData} (F : FunD K x0 q0 args body sc [] [] fa fd) (Sc0 : FnScope N [p0] sc)
    (h : ∀ (cdv : Value) (A : Around) (outer : List Env) (s : Shared) (H : Hp) (E : XK), Room k (cxOf (L2.CX P w) P w K mg base N q0 sc fa cdv A outer s H E).A → ∀ (x : S) (b : Bs) (vx : V), JS (cxOf (L2.CX P w) P w K mg base N q0 sc fa cdv A outer s H E) K b ([.tr true (pin vx (t x))] ++ List.replicate (N.length - 1) .no) E body tlFn (f x) (pRt K b (R := PinT ρ S' t' vx))) : FnOk P w K mg base (L2.CX P w) (k + 1) fa fd [p0] (spO1_0 K t t' f) := by
  refine F.ok Sc0 (fun vs H Q E hh => ?_) (fun cdv A outer s H vs Q E hr hh => ?_)
  · obtain ⟨x, v0, Hi, A, rfl, _⟩ := hh
    rfl
  · obtain ⟨x, v0, Hi, A0, rfl, sm, g1, g2, q⟩ := hh
    have st : EnvOk ⟨Hi, H, A0⟩ _ _ Hi H := EnvOk.start (own := A0) (ps := [prV v0]) (vs := [v0]) (N := N) sm rfl (Paired.cons rfl Paired.nil)
    exact ⟨_, pss_wp, (h cdv A outer s H E hr x ⟨Hi, H, A0⟩ v0).go _ Hi H (st.adopt 0 noTr_start (by rw [List.length_append, List.length_map]; exact Nat.lt_of_lt_of_le (by show 0 < 1; decide) (Nat.le_add_right _ _)) rfl g1 g2) _ (fun σ' H' z => z) (PZ.of_fnP q)⟩
theorem mkFO1_0 {ρ S S' : Type}  [Py ρ] {P : Program} {w : World} {K : Fg} {mg : Str → Option Value} {base : Heap} {x0 : Str} {N : List Str} {p0 : Str} {args : Arguments} {body : List Stmt} {sc : Scope} {k : Nat} {t : S → Tr} {t' : S' → Tr} {f : S → M (ρ × S')} (F : ∃ fd, FunD K x0 x0 args body sc [] [] (He.ga K x0) fd) (g : mg x0 = some (.ref (He.ga K x0))) (Sc0 : FnScope N [p0] sc)
    (hb : ∀ (kV doc pm : Value) (an : Option Addr) (cdv ct : Value) (us : List Value), us.length = [p0].length → bindArgs (PySem.W.fnOf x0 x0 args body sc .none kV doc pm an cdv ct) ⟨us, []⟩ = pure ([p0].zip us))
    (h : ∀ (cdv : Value) (A : Around) (outer : List Env) (s : Shared) (H : Hp) (E : XK), Room k (cxOf (L2.CX P w) P w K mg base N x0 sc (He.ga K x0) cdv A outer s H E).A → ∀ (x : S) (b : Bs) (vx : V), JS (cxOf (L2.CX P w) P w K mg base N x0 sc (He.ga K x0) cdv A outer s H E) K b ([.tr true (pin vx (t x))] ++ List.replicate (N.length - 1) .no) E body tlFn (f x) (pRt K b (R := PinT ρ S' t' vx))) : OkF P w K mg base x0 (k + 1) (spO1_0 K t t' f) := by
  obtain ⟨fd, F⟩ := F
  exact ⟨_, fd, [p0], g, F.kp, mkCO1_0 F Sc0 h, F.bindsN hb⟩
def spO2_0 (K : Fg) {α1 ρ S S' : Type} [Py α1] [Py ρ] (t : S → Tr) (t' : S' → Tr) (f : S → α1 → M (ρ × S')) : Sp := fun vs H Q E => ∃ (x : S) (a1 : α1) (v0 v1 : V) (Hi : Hp) (A : List Addr), vs = [v0, v1] ∧ Same Hi H ∧ Py.rep K Hi a1 v1 ∧ (t x).r Hi H A v0 ∧ (∀ a, a ∈ A → H a ≠ none ∧ Hi a = none) ∧ PZ K E ⟨Hi, H, A⟩ (f x a1) (fun r => ∀ Hi' H' A' v, Ok ⟨Hi, H, A⟩ Hi' H' → (t' r.2).r Hi' H' A' v0 → (∀ a, a ∈ A' → H' a ≠ none ∧ Hi' a = none ∧ (a ∈ A ∨ H a = none)) → Py.rep K Hi' r.1 v → Q v H')
theorem jm_callO2_0 {α1 ρ S S' : Type} [Py α1] [Py ρ] {X : Cx} {K : Fg} {b : Bs} {L : List En} {E : XK} {e0 e1 : Expr} {m1 : M α1} {t : S → Tr} {t' : S' → Tr} {f : S → α1 → M (ρ × S')} {x0 : S} {put : Tr → List En} {x : Str} {p pos : Pos} {k : Nat} (F : OkF X.prog X.w X.K X.mg X.base x k (spO2_0 K t t' f)) (hr : Room k X.A) (hx : Passes (L2.CX X.prog X.w) X E) (hp : JP X b L e0 (t x0) put) (h1 : JE X K b L E e1 m1) (hg : Gl X x := by rfl) (hdb : (x == ("__debug__" : Str)) = false := by decide) (s0 : starEach [e0, e1] X.env = (false, eval e0 X.env) :: starEach [e1] X.env := by rfl) (s1 : starEach [e1] X.env = (false, eval e1 X.env) :: starEach [] X.env := by rfl) (hpl : (backTo pos (starEach [e1] X.env)).any (·.1) = false := by rfl) : JM X K b L E (.Call (.Name x p) [e0, e1] [] pos) (m1 >>= fun a1 => f x0 a1) (fun s => put (t' s)) :=
  ⟨fun σ Hi0 H0 en0 Q z0 => by
    obtain ⟨fa, fd, ps, F1, F2, F3, F4⟩ := F.ex
    refine PE.wp (pe_call F3 hr hg F1 F2 F4 .nil hx (pa_cons pe_wp (pa_cons pe_wp pa_nil s1) s0) hdb s0 hpl) ?_
    obtain ⟨v0, at0, go⟩ := hp.go σ Hi0 H0 en0
    refine go _ ?_
    refine h1.go σ Hi0 H0 en0 _ ((PZ.bind en0 z0).imp fun a1 Hi1 H1 n1 k1 v1 r1 => ?_)
    have en1 := en0.nx n1
    have at1 := at0.nx n1
    obtain ⟨A, g1, g2, g3, g4⟩ := at1.go Hi1 H1 en1.rf
    refine ⟨x0, a1, v0, v1, Hi1, A, rfl, en1.sub, r1, g1, g2, ?_⟩
    cases hf : f x0 a1 with
    | error y =>
      rw [hf] at k1
      cases y with
      | rs c => exact fun Hi' H' o => k1 Hi' H' (g3 Hi' H' o)
      | st => exact k1
    | ok r =>
      rw [hf] at k1
      exact fun Hi' H' A' v o r1 r2 r3 => k1 Hi' H' v (g4 _ A' Hi' H' o r1 r2) r3⟩
theorem mkCO2_0 {α1 ρ S S' : Type} [Py α1] [Py ρ] {P : Program} {w : World} {K : Fg} {mg : Str → Option Value} {base : Heap} {x0 q0 : Str} {fa : Addr} {N : List Str} {p0 p1 : Str} {args : Arguments} {body : List Stmt} {sc : Scope} {k : Nat} {t : S → Tr} {t' : S' → Tr} {f : S → α1 → M (ρ × S')} {fd : FuncData} (F : FunD K x0 q0 args body sc [] [] fa fd) (Sc0 : FnScope N [p0, p1] sc)
    (h : ∀ (cdv : Value) (A : Around) (outer : List Env) (s : Shared) (H : Hp) (E : XK), Room k (cxOf (L2.CX P w) P w K mg base N q0 sc fa cdv A outer s H E).A → ∀ (x : S) (a1 : α1) (b : Bs) (vx : V), JS (cxOf (L2.CX P w) P w K mg base N q0 sc fa cdv A outer s H E) K b ([.tr true (pin vx (t x)), .im (rp K a1)] ++ List.replicate (N.length - 2) .no) E body tlFn (f x a1) (pRt K b (R := PinT ρ S' t' vx))) : FnOk P w K mg base (L2.CX P w) (k + 1) fa fd [p0, p1] (spO2_0 K t t' f) := by
  refine F.ok Sc0 (fun vs H Q E hh => ?_) (fun cdv A outer s H vs Q E hr hh => ?_)
  · obtain ⟨x, a1, v0, v1, Hi, A, rfl, _⟩ := hh
    rfl
  · obtain ⟨x, a1, v0, v1, Hi, A0, rfl, sm, r1, g1, g2, q⟩ := hh
    have st : EnvOk ⟨Hi, H, A0⟩ _ _ Hi H := EnvOk.start (own := A0) (ps := [prV v0, rp K a1]) (vs := [v0, v1]) (N := N) sm rfl (Paired.cons rfl (Paired.cons r1 Paired.nil))
    exact ⟨_, pss_wp, (h cdv A outer s H E hr x a1 ⟨Hi, H, A0⟩ v0).go _ Hi H (st.adopt 0 noTr_start (by rw [List.length_append, List.length_map]; exact Nat.lt_of_lt_of_le (by show 0 < 2; decide) (Nat.le_add_right _ _)) rfl g1 g2) _ (fun σ' H' z => z) (PZ.of_fnP q)⟩
theorem mkFO2_0 {α1 ρ S S' : Type} [Py α1] [Py ρ] {P : Program} {w : World} {K : Fg} {mg : Str → Option Value} {base : Heap} {x0 : Str} {N : List Str} {p0 p1 : Str} {args : Arguments} {body : List Stmt} {sc : Scope} {k : Nat} {t : S → Tr} {t' : S' → Tr} {f : S → α1 → M (ρ × S')} (F : ∃ fd, FunD K x0 x0 args body sc [] [] (He.ga K x0) fd) (g : mg x0 = some (.ref (He.ga K x0))) (Sc0 : FnScope N [p0, p1] sc)
    (hb : ∀ (kV doc pm : Value) (an : Option Addr) (cdv ct : Value) (us : List Value), us.length = [p0, p1].length → bindArgs (PySem.W.fnOf x0 x0 args body sc .none kV doc pm an cdv ct) ⟨us, []⟩ = pure ([p0, p1].zip us))
    (h : ∀ (cdv : Value) (A : Around) (outer : List Env) (s : Shared) (H : Hp) (E : XK), Room k (cxOf (L2.CX P w) P w K mg base N x0 sc (He.ga K x0) cdv A outer s H E).A → ∀ (x : S) (a1 : α1) (b : Bs) (vx : V), JS (cxOf (L2.CX P w) P w K mg base N x0 sc (He.ga K x0) cdv A outer s H E) K b ([.tr true (pin vx (t x)), .im (rp K a1)] ++ List.replicate (N.length - 2) .no) E body tlFn (f x a1) (pRt K b (R := PinT ρ S' t' vx))) : OkF P w K mg base x0 (k + 1) (spO2_0 K t t' f) := by
  obtain ⟨fd, F⟩ := F
  exact ⟨_, fd, [p0, p1], g, F.kp, mkCO2_0 F Sc0 h, F.bindsN hb⟩
def spO3_0 (K : Fg) {α1 α2 ρ S S' : Type} [Py α1] [Py α2] [Py ρ] (t : S → Tr) (t' : S' → Tr) (f : S → α1 → α2 → M (ρ × S')) : Sp := fun vs H Q E => ∃ (x : S) (a1 : α1) (a2 : α2) (v0 v1 v2 : V) (Hi : Hp) (A : List Addr), vs = [v0, v1, v2] ∧ Same Hi H ∧ Py.rep K Hi a1 v1 ∧ Py.rep K Hi a2 v2 ∧ (t x).r Hi H A v0 ∧ (∀ a, a ∈ A → H a ≠ none ∧ Hi a = none) ∧ PZ K E ⟨Hi, H, A⟩ (f x a1 a2) (fun r => ∀ Hi' H' A' v, Ok ⟨Hi, H, A⟩ Hi' H' → (t' r.2).r Hi' H' A' v0 → (∀ a, a ∈ A' → H' a ≠ none ∧ Hi' a = none ∧ (a ∈ A ∨ H a = none)) → Py.rep K Hi' r.1 v → Q v H')
theorem jm_callO3_0 {α1 α2 ρ S S' : Type} [Py α1] [Py α2] [Py ρ] {X : Cx} {K : Fg} {b : Bs} {L : List En} {E : XK} {e0 e1 e2 : Expr} {m1 : M α1} {m2 : M α2} {t : S → Tr} {t' : S' → Tr} {f : S → α1 → α2 → M (ρ × S')} {x0 : S} {put : Tr → List En} {x : Str} {p pos : Pos} {k : Nat} (F : OkF X.prog X.w X.K X.mg X.base x k (spO3_0 K t t' f)) (hr : Room k X.A) (hx : Passes (L2.CX X.prog X.w) X E) (hp : JP X b L e0 (t x0) put) (h1 : JE X K b L E e1 m1) (h2 : JE X K b L E e2 m2) (hg : Gl X x := by rfl) (hdb : (x == ("__debug__" : Str)) = false := by decide) (s0 : starEach [e0, e1, e2] X.env = (false, eval e0 X.env) :: starEach [e1, e2] X.env := by rfl) (s1 : starEach [e1, e2] X.env = (false, eval e1 X.env) :: starEach [e2] X.env := by rfl) (s2 : starEach [e2] X.env = (false, eval e2 X.env) :: starEach [] X.env := by rfl) (hpl : (backTo pos (starEach [e1, e2] X.env)).any (·.1) = false := by rfl) : JM X K b L E (.Call (.Name x p) [e0, e1, e2] [] pos) (m1 >>= fun a1 => m2 >>= fun a2 => f x0 a1 a2) (fun s => put (t' s)) :=
  ⟨fun σ Hi0 H0 en0 Q z0 => by
    obtain ⟨fa, fd, ps, F1, F2, F3, F4⟩ := F.ex
    refine PE.wp (pe_call F3 hr hg F1 F2 F4 .nil hx (pa_cons pe_wp (pa_cons pe_wp (pa_cons pe_wp pa_nil s2) s1) s0) hdb s0 hpl) ?_
    obtain ⟨v0, at0, go⟩ := hp.go σ Hi0 H0 en0
    refine go _ ?_
    refine h1.go σ Hi0 H0 en0 _ ((PZ.bind en0 z0).imp fun a1 Hi1 H1 n1 k1 v1 r1 => ?_)
    have en1 := en0.nx n1
    have at1 := at0.nx n1
    refine h2.go σ Hi1 H1 en1 _ ((PZ.bind en1 k1).imp fun a2 Hi2 H2 n2 k2 v2 r2 => ?_)
    have en2 := en1.nx n2
    have at2 := at1.nx n2
    have r1 := Py.mono n2.im r1
    obtain ⟨A, g1, g2, g3, g4⟩ := at2.go Hi2 H2 en2.rf
    refine ⟨x0, a1, a2, v0, v1, v2, Hi2, A, rfl, en2.sub, r1, r2, g1, g2, ?_⟩
    cases hf : f x0 a1 a2 with
    | error y =>
      rw [hf] at k2
      cases y with
      | rs c => exact fun Hi' H' o => k2 Hi' H' (g3 Hi' H' o)
      | st => exact k2
    | ok r =>
      rw [hf] at k2
      exact fun Hi' H' A' v o r1 r2 r3 => k2 Hi' H' v (g4 _ A' Hi' H' o r1 r2) r3⟩
theorem mkCO3_0 {α1 α2 ρ S S' : Type} [Py α1] [Py α2] [Py ρ] {P : Program} {w : World} {K : Fg} {mg : Str → Option Value} {base : Heap} {x0 q0 : Str} {fa : Addr} {N : List Str} {p0 p1 p2 : Str} {args : Arguments} {body : List Stmt} {sc : Scope} {k : Nat} {t : S → Tr} {t' : S' → Tr} {f : S → α1 → α2 → M (ρ × S')} {fd : FuncData} (F : FunD K x0 q0 args body sc [] [] fa fd) (Sc0 : FnScope N [p0, p1, p2] sc)
    (h : ∀ (cdv : Value) (A : Around) (outer : List Env) (s : Shared) (H : Hp) (E : XK), Room k (cxOf (L2.CX P w) P w K mg base N q0 sc fa cdv A outer s H E).A → ∀ (x : S) (a1 : α1) (a2 : α2) (b : Bs) (vx : V), JS (cxOf (L2.CX P w) P w K mg base N q0 sc fa cdv A outer s H E) K b ([.tr true (pin vx (t x)), .im (rp K a1), .im (rp K a2)] ++ List.replicate (N.length - 3) .no) E body tlFn (f x a1 a2) (pRt K b (R := PinT ρ S' t' vx))) : FnOk P w K mg base (L2.CX P w) (k + 1) fa fd [p0, p1, p2] (spO3_0 K t t' f) := by
  refine F.ok Sc0 (fun vs H Q E hh => ?_) (fun cdv A outer s H vs Q E hr hh => ?_)
  · obtain ⟨x, a1, a2, v0, v1, v2, Hi, A, rfl, _⟩ := hh
    rfl
  · obtain ⟨x, a1, a2, v0, v1, v2, Hi, A0, rfl, sm, r1, r2, g1, g2, q⟩ := hh
    have st : EnvOk ⟨Hi, H, A0⟩ _ _ Hi H := EnvOk.start (own := A0) (ps := [prV v0, rp K a1, rp K a2]) (vs := [v0, v1, v2]) (N := N) sm rfl (Paired.cons rfl (Paired.cons r1 (Paired.cons r2 Paired.nil)))
    exact ⟨_, pss_wp, (h cdv A outer s H E hr x a1 a2 ⟨Hi, H, A0⟩ v0).go _ Hi H (st.adopt 0 noTr_start (by rw [List.length_append, List.length_map]; exact Nat.lt_of_lt_of_le (by show 0 < 3; decide) (Nat.le_add_right _ _)) rfl g1 g2) _ (fun σ' H' z => z) (PZ.of_fnP q)⟩
theorem mkFO3_0 {α1 α2 ρ S S' : Type} [Py α1] [Py α2] [Py ρ] {P : Program} {w : World} {K : Fg} {mg : Str → Option Value} {base : Heap} {x0 : Str} {N : List Str} {p0 p1 p2 : Str} {args : Arguments} {body : List Stmt} {sc : Scope} {k : Nat} {t : S → Tr} {t' : S' → Tr} {f : S → α1 → α2 → M (ρ × S')} (F : ∃ fd, FunD K x0 x0 args body sc [] [] (He.ga K x0) fd) (g : mg x0 = some (.ref (He.ga K x0))) (Sc0 : FnScope N [p0, p1, p2] sc)
    (hb : ∀ (kV doc pm : Value) (an : Option Addr) (cdv ct : Value) (us : List Value), us.length = [p0, p1, p2].length → bindArgs (PySem.W.fnOf x0 x0 args body sc .none kV doc pm an cdv ct) ⟨us, []⟩ = pure ([p0, p1, p2].zip us))
    (h : ∀ (cdv : Value) (A : Around) (outer : List Env) (s : Shared) (H : Hp) (E : XK), Room k (cxOf (L2.CX P w) P w K mg base N x0 sc (He.ga K x0) cdv A outer s H E).A → ∀ (x : S) (a1 : α1) (a2 : α2) (b : Bs) (vx : V), JS (cxOf (L2.CX P w) P w K mg base N x0 sc (He.ga K x0) cdv A outer s H E) K b ([.tr true (pin vx (t x)), .im (rp K a1), .im (rp K a2)] ++ List.replicate (N.length - 3) .no) E body tlFn (f x a1 a2) (pRt K b (R := PinT ρ S' t' vx))) : OkF P w K mg base x0 (k + 1) (spO3_0 K t t' f) := by
  obtain ⟨fd, F⟩ := F
  exact ⟨_, fd, [p0, p1, p2], g, F.kp, mkCO3_0 F Sc0 h, F.bindsN hb⟩
def spO4_0 (K : Fg) {α1 α2 α3 ρ S S' : Type} [Py α1] [Py α2] [Py α3] [Py ρ] (t : S → Tr) (t' : S' → Tr) (f : S → α1 → α2 → α3 → M (ρ × S')) : Sp := fun vs H Q E => ∃ (x : S) (a1 : α1) (a2 : α2) (a3 : α3) (v0 v1 v2 v3 : V) (Hi : Hp) (A : List Addr), vs = [v0, v1, v2, v3] ∧ Same Hi H ∧ Py.rep K Hi a1 v1 ∧ Py.rep K Hi a2 v2 ∧ Py.rep K Hi a3 v3 ∧ (t x).r Hi H A v0 ∧ (∀ a, a ∈ A → H a ≠ none ∧ Hi a = none) ∧ PZ K E ⟨Hi, H, A⟩ (f x a1 a2 a3) (fun r => ∀ Hi' H' A' v, Ok ⟨Hi, H, A⟩ Hi' H' → (t' r.2).r Hi' H' A' v0 → (∀ a, a ∈ A' → H' a ≠ none ∧ Hi' a = none ∧ (a ∈ A ∨ H a = none)) → Py.rep K Hi' r.1 v → Q v H')
theorem jm_callO4_0 {α1 α2 α3 ρ S S' : Type} [Py α1] [Py α2] [Py α3] [Py ρ] {X : Cx} {K : Fg} {b : Bs} {L : List En} {E : XK} {e0 e1 e2 e3 : Expr} {m1 : M α1} {m2 : M α2} {m3 : M α3} {t : S → Tr} {t' : S' → Tr} {f : S → α1 → α2 → α3 → M (ρ × S')} {x0 : S} {put : Tr → List En} {x : Str} {p pos : Pos} {k : Nat} (F : OkF X.prog X.w X.K X.mg X.base x k (spO4_0 K t t' f)) (hr : Room k X.A) (hx : Passes (L2.CX X.prog X.w) X E) (hp : JP X b L e0 (t x0) put) (h1 : JE X K b L E e1 m1) (h2 : JE X K b L E e2 m2) (h3 : JE X K b L E e3 m3) (hg : Gl X x := by rfl) (hdb : (x == ("__debug__" : Str)) = false := by decide) (s0 : starEach [e0, e1, e2, e3] X.env = (false, eval e0 X.env) :: starEach [e1, e2, e3] X.env := by rfl) (s1 : starEach [e1, e2, e3] X.env = (false, eval e1 X.env) :: starEach [e2, e3] X.env := by rfl) (s2 : starEach [e2, e3] X.env = (false, eval e2 X.env) :: starEach [e3] X.env := by rfl) (s3 : starEach [e3] X.env = (false, eval e3 X.env) :: starEach [] X.env := by rfl) (hpl : (backTo pos (starEach [e1, e2, e3] X.env)).any (·.1) = false := by rfl) : JM X K b L E (.Call (.Name x p) [e0, e1, e2, e3] [] pos) (m1 >>= fun a1 => m2 >>= fun a2 => m3 >>= fun a3 => f x0 a1 a2 a3) (fun s => put (t' s)) :=
  ⟨fun σ Hi0 H0 en0 Q z0 => by
    obtain ⟨fa, fd, ps, F1, F2, F3, F4⟩ := F.ex
    refine PE.wp (pe_call F3 hr hg F1 F2 F4 .nil hx (pa_cons pe_wp (pa_cons pe_wp (pa_cons pe_wp (pa_cons pe_wp pa_nil s3) s2) s1) s0) hdb s0 hpl) ?_
    obtain ⟨v0, at0, go⟩ := hp.go σ Hi0 H0 en0
    refine go _ ?_
    refine h1.go σ Hi0 H0 en0 _ ((PZ.bind en0 z0).imp fun a1 Hi1 H1 n1 k1 v1 r1 => ?_)
    have en1 := en0.nx n1
    have at1 := at0.nx n1
    refine h2.go σ Hi1 H1 en1 _ ((PZ.bind en1 k1).imp fun a2 Hi2 H2 n2 k2 v2 r2 => ?_)
    have en2 := en1.nx n2
    have at2 := at1.nx n2
    have r1 := Py.mono n2.im r1
    refine h3.go σ Hi2 H2 en2 _ ((PZ.bind en2 k2).imp fun a3 Hi3 H3 n3 k3 v3 r3 => ?_)
    have en3 := en2.nx n3
    have at3 := at2.nx n3
    have r1 := Py.mono n3.im r1
    have r2 := Py.mono n3.im r2
    obtain ⟨A, g1, g2, g3, g4⟩ := at3.go Hi3 H3 en3.rf
    refine ⟨x0, a1, a2, a3, v0, v1, v2, v3, Hi3, A, rfl, en3.sub, r1, r2, r3, g1, g2, ?_⟩
    cases hf : f x0 a1 a2 a3 with
    | error y =>
      rw [hf] at k3
      cases y with
      | rs c => exact fun Hi' H' o => k3 Hi' H' (g3 Hi' H' o)
      | st => exact k3
    | ok r =>
      rw [hf] at k3
      exact fun Hi' H' A' v o r1 r2 r3 => k3 Hi' H' v (g4 _ A' Hi' H' o r1 r2) r3⟩
theorem mkCO4_0 {α1 α2 α3 ρ S S' : Type} [Py α1] [Py α2] [Py α3] [Py ρ] {P : Program} {w : World} {K : Fg} {mg : Str → Option Value} {base : Heap} {x0 q0 : Str} {fa : Addr} {N : List Str} {p0 p1 p2 p3 : Str} {args : Arguments} {body : List Stmt} {sc : Scope} {k : Nat} {t : S → Tr} {t' : S' → Tr} {f : S → α1 → α2 → α3 → M (ρ × S')} {fd : FuncData} (F : FunD K x0 q0 args body sc [] [] fa fd) (Sc0 : FnScope N [p0, p1, p2, p3] sc)
    (h : ∀ (cdv : Value) (A : Around) (outer : List Env) (s : Shared) (H : Hp) (E : XK), Room k (cxOf (L2.CX P w) P w K mg base N q0 sc fa cdv A outer s H E).A → ∀ (x : S) (a1 : α1) (a2 : α2) (a3 : α3) (b : Bs) (vx : V), JS (cxOf (L2.CX P w) P w K mg base N q0 sc fa cdv A outer s H E) K b ([.tr true (pin vx (t x)), .im (rp K a1), .im (rp K a2), .im (rp K a3)] ++ List.replicate (N.length - 4) .no) E body tlFn (f x a1 a2 a3) (pRt K b (R := PinT ρ S' t' vx))) : FnOk P w K mg base (L2.CX P w) (k + 1) fa fd [p0, p1, p2, p3] (spO4_0 K t t' f) := by
  refine F.ok Sc0 (fun vs H Q E hh => ?_) (fun cdv A outer s H vs Q E hr hh => ?_)
  · obtain ⟨x, a1, a2, a3, v0, v1, v2, v3, Hi, A, rfl, _⟩ := hh
    rfl
  · obtain ⟨x, a1, a2, a3, v0, v1, v2, v3, Hi, A0, rfl, sm, r1, r2, r3, g1, g2, q⟩ := hh
    have st : EnvOk ⟨Hi, H, A0⟩ _ _ Hi H := EnvOk.start (own := A0) (ps := [prV v0, rp K a1, rp K a2, rp K a3]) (vs := [v0, v1, v2, v3]) (N := N) sm rfl (Paired.cons rfl (Paired.cons r1 (Paired.cons r2 (Paired.cons r3 Paired.nil))))
    exact ⟨_, pss_wp, (h cdv A outer s H E hr x a1 a2 a3 ⟨Hi, H, A0⟩ v0).go _ Hi H (st.adopt 0 noTr_start (by rw [List.length_append, List.length_map]; exact Nat.lt_of_lt_of_le (by show 0 < 4; decide) (Nat.le_add_right _ _)) rfl g1 g2) _ (fun σ' H' z => z) (PZ.of_fnP q)⟩
theorem mkFO4_0 {α1 α2 α3 ρ S S' : Type} [Py α1] [Py α2] [Py α3] [Py ρ] {P : Program} {w : World} {K : Fg} {mg : Str → Option Value} {base : Heap} {x0 : Str} {N : List Str} {p0 p1 p2 p3 : Str} {args : Arguments} {body : List Stmt} {sc : Scope} {k : Nat} {t : S → Tr} {t' : S' → Tr} {f : S → α1 → α2 → α3 → M (ρ × S')} (F : ∃ fd, FunD K x0 x0 args body sc [] [] (He.ga K x0) fd) (g : mg x0 = some (.ref (He.ga K x0))) (Sc0 : FnScope N [p0, p1, p2, p3] sc)
    (hb : ∀ (kV doc pm : Value) (an : Option Addr) (cdv ct : Value) (us : List Value), us.length = [p0, p1, p2, p3].length → bindArgs (PySem.W.fnOf x0 x0 args body sc .none kV doc pm an cdv ct) ⟨us, []⟩ = pure ([p0, p1, p2, p3].zip us))
    (h : ∀ (cdv : Value) (A : Around) (outer : List Env) (s : Shared) (H : Hp) (E : XK), Room k (cxOf (L2.CX P w) P w K mg base N x0 sc (He.ga K x0) cdv A outer s H E).A → ∀ (x : S) (a1 : α1) (a2 : α2) (a3 : α3) (b : Bs) (vx : V), JS (cxOf (L2.CX P w) P w K mg base N x0 sc (He.ga K x0) cdv A outer s H E) K b ([.tr true (pin vx (t x)), .im (rp K a1), .im (rp K a2), .im (rp K a3)] ++ List.replicate (N.length - 4) .no) E body tlFn (f x a1 a2 a3) (pRt K b (R := PinT ρ S' t' vx))) : OkF P w K mg base x0 (k + 1) (spO4_0 K t t' f) := by
  obtain ⟨fd, F⟩ := F
  exact ⟨_, fd, [p0, p1, p2, p3], g, F.kp, mkCO4_0 F Sc0 h, F.bindsN hb⟩
def spO3_1 (K : Fg) {α0 α2 ρ S S' : Type} [Py α0] [Py α2] [Py ρ] (t : S → Tr) (t' : S' → Tr) (f : α0 → S → α2 → M (ρ × S')) : Sp := fun vs H Q E => ∃ (a0 : α0) (x : S) (a2 : α2) (v0 v1 v2 : V) (Hi : Hp) (A : List Addr), vs = [v0, v1, v2] ∧ Same Hi H ∧ Py.rep K Hi a0 v0 ∧ Py.rep K Hi a2 v2 ∧ (t x).r Hi H A v1 ∧ (∀ a, a ∈ A → H a ≠ none ∧ Hi a = none) ∧ PZ K E ⟨Hi, H, A⟩ (f a0 x a2) (fun r => ∀ Hi' H' A' v, Ok ⟨Hi, H, A⟩ Hi' H' → (t' r.2).r Hi' H' A' v1 → (∀ a, a ∈ A' → H' a ≠ none ∧ Hi' a = none ∧ (a ∈ A ∨ H a = none)) → Py.rep K Hi' r.1 v → Q v H')
theorem jm_callO3_1 {α0 α2 ρ S S' : Type} [Py α0] [Py α2] [Py ρ] {X : Cx} {K : Fg} {b : Bs} {L : List En} {E : XK} {e0 e1 e2 : Expr} {m0 : M α0} {m2 : M α2} {t : S → Tr} {t' : S' → Tr} {f : α0 → S → α2 → M (ρ × S')} {x0 : S} {put : Tr → List En} {x : Str} {p pos : Pos} {k : Nat} (F : OkF X.prog X.w X.K X.mg X.base x k (spO3_1 K t t' f)) (hr : Room k X.A) (hx : Passes (L2.CX X.prog X.w) X E) (h0 : JE X K b L E e0 m0) (hp : JP X b L e1 (t x0) put) (h2 : JE X K b L E e2 m2) (hg : Gl X x := by rfl) (hdb : (x == ("__debug__" : Str)) = false := by decide) (s0 : starEach [e0, e1, e2] X.env = (false, eval e0 X.env) :: starEach [e1, e2] X.env := by rfl) (s1 : starEach [e1, e2] X.env = (false, eval e1 X.env) :: starEach [e2] X.env := by rfl) (s2 : starEach [e2] X.env = (false, eval e2 X.env) :: starEach [] X.env := by rfl) (hpl : (backTo pos (starEach [e1, e2] X.env)).any (·.1) = false := by rfl) : JM X K b L E (.Call (.Name x p) [e0, e1, e2] [] pos) (m0 >>= fun a0 => m2 >>= fun a2 => f a0 x0 a2) (fun s => put (t' s)) :=
  ⟨fun σ Hi0 H0 en0 Q z0 => by
    obtain ⟨fa, fd, ps, F1, F2, F3, F4⟩ := F.ex
    refine PE.wp (pe_call F3 hr hg F1 F2 F4 .nil hx (pa_cons pe_wp (pa_cons pe_wp (pa_cons pe_wp pa_nil s2) s1) s0) hdb s0 hpl) ?_
    refine h0.go σ Hi0 H0 en0 _ ((PZ.bind en0 z0).imp fun a0 Hi1 H1 n1 k1 v0 r0 => ?_)
    have en1 := en0.nx n1
    obtain ⟨v1, at1, go⟩ := hp.go σ Hi1 H1 en1
    refine go _ ?_
    refine h2.go σ Hi1 H1 en1 _ ((PZ.bind en1 k1).imp fun a2 Hi2 H2 n2 k2 v2 r2 => ?_)
    have en2 := en1.nx n2
    have at2 := at1.nx n2
    have r0 := Py.mono n2.im r0
    obtain ⟨A, g1, g2, g3, g4⟩ := at2.go Hi2 H2 en2.rf
    refine ⟨a0, x0, a2, v0, v1, v2, Hi2, A, rfl, en2.sub, r0, r2, g1, g2, ?_⟩
    cases hf : f a0 x0 a2 with
    | error y =>
      rw [hf] at k2
      cases y with
      | rs c => exact fun Hi' H' o => k2 Hi' H' (g3 Hi' H' o)
      | st => exact k2
    | ok r =>
      rw [hf] at k2
      exact fun Hi' H' A' v o r1 r2 r3 => k2 Hi' H' v (g4 _ A' Hi' H' o r1 r2) r3⟩
theorem mkCO3_1 {α0 α2 ρ S S' : Type} [Py α0] [Py α2] [Py ρ] {P : Program} {w : World} {K : Fg} {mg : Str → Option Value} {base : Heap} {x0 q0 : Str} {fa : Addr} {N : List Str} {p0 p1 p2 : Str} {args : Arguments} {body : List Stmt} {sc : Scope} {k : Nat} {t : S → Tr} {t' : S' → Tr} {f : α0 → S → α2 → M (ρ × S')} {fd : FuncData} (F : FunD K x0 q0 args body sc [] [] fa fd) (Sc0 : FnScope N [p0, p1, p2] sc)
    (h : ∀ (cdv : Value) (A : Around) (outer : List Env) (s : Shared) (H : Hp) (E : XK), Room k (cxOf (L2.CX P w) P w K mg base N q0 sc fa cdv A outer s H E).A → ∀ (a0 : α0) (x : S) (a2 : α2) (b : Bs) (vx : V), JS (cxOf (L2.CX P w) P w K mg base N q0 sc fa cdv A outer s H E) K b ([.im (rp K a0), .tr true (pin vx (t x)), .im (rp K a2)] ++ List.replicate (N.length - 3) .no) E body tlFn (f a0 x a2) (pRt K b (R := PinT ρ S' t' vx))) : FnOk P w K mg base (L2.CX P w) (k + 1) fa fd [p0, p1, p2] (spO3_1 K t t' f) := by
  refine F.ok Sc0 (fun vs H Q E hh => ?_) (fun cdv A outer s H vs Q E hr hh => ?_)
  · obtain ⟨a0, x, a2, v0, v1, v2, Hi, A, rfl, _⟩ := hh
    rfl
  · obtain ⟨a0, x, a2, v0, v1, v2, Hi, A0, rfl, sm, r0, r2, g1, g2, q⟩ := hh
    have st : EnvOk ⟨Hi, H, A0⟩ _ _ Hi H := EnvOk.start (own := A0) (ps := [rp K a0, prV v1, rp K a2]) (vs := [v0, v1, v2]) (N := N) sm rfl (Paired.cons r0 (Paired.cons rfl (Paired.cons r2 Paired.nil)))
    exact ⟨_, pss_wp, (h cdv A outer s H E hr a0 x a2 ⟨Hi, H, A0⟩ v1).go _ Hi H (st.adopt 1 noTr_start (by rw [List.length_append, List.length_map]; exact Nat.lt_of_lt_of_le (by show 1 < 3; decide) (Nat.le_add_right _ _)) rfl g1 g2) _ (fun σ' H' z => z) (PZ.of_fnP q)⟩
theorem mkFO3_1 {α0 α2 ρ S S' : Type} [Py α0] [Py α2] [Py ρ] {P : Program} {w : World} {K : Fg} {mg : Str → Option Value} {base : Heap} {x0 : Str} {N : List Str} {p0 p1 p2 : Str} {args : Arguments} {body : List Stmt} {sc : Scope} {k : Nat} {t : S → Tr} {t' : S' → Tr} {f : α0 → S → α2 → M (ρ × S')} (F : ∃ fd, FunD K x0 x0 args body sc [] [] (He.ga K x0) fd) (g : mg x0 = some (.ref (He.ga K x0))) (Sc0 : FnScope N [p0, p1, p2] sc)
    (hb : ∀ (kV doc pm : Value) (an : Option Addr) (cdv ct : Value) (us : List Value), us.length = [p0, p1, p2].length → bindArgs (PySem.W.fnOf x0 x0 args body sc .none kV doc pm an cdv ct) ⟨us, []⟩ = pure ([p0, p1, p2].zip us))
    (h : ∀ (cdv : Value) (A : Around) (outer : List Env) (s : Shared) (H : Hp) (E : XK), Room k (cxOf (L2.CX P w) P w K mg base N x0 sc (He.ga K x0) cdv A outer s H E).A → ∀ (a0 : α0) (x : S) (a2 : α2) (b : Bs) (vx : V), JS (cxOf (L2.CX P w) P w K mg base N x0 sc (He.ga K x0) cdv A outer s H E) K b ([.im (rp K a0), .tr true (pin vx (t x)), .im (rp K a2)] ++ List.replicate (N.length - 3) .no) E body tlFn (f a0 x a2) (pRt K b (R := PinT ρ S' t' vx))) : OkF P w K mg base x0 (k + 1) (spO3_1 K t t' f) := by
  obtain ⟨fd, F⟩ := F
  exact ⟨_, fd, [p0, p1, p2], g, F.kp, mkCO3_1 F Sc0 h, F.bindsN hb⟩
def spO3_2 (K : Fg) {α0 α1 ρ S S' : Type} [Py α0] [Py α1] [Py ρ] (t : S → Tr) (t' : S' → Tr) (f : α0 → α1 → S → M (ρ × S')) : Sp := fun vs H Q E => ∃ (a0 : α0) (a1 : α1) (x : S) (v0 v1 v2 : V) (Hi : Hp) (A : List Addr), vs = [v0, v1, v2] ∧ Same Hi H ∧ Py.rep K Hi a0 v0 ∧ Py.rep K Hi a1 v1 ∧ (t x).r Hi H A v2 ∧ (∀ a, a ∈ A → H a ≠ none ∧ Hi a = none) ∧ PZ K E ⟨Hi, H, A⟩ (f a0 a1 x) (fun r => ∀ Hi' H' A' v, Ok ⟨Hi, H, A⟩ Hi' H' → (t' r.2).r Hi' H' A' v2 → (∀ a, a ∈ A' → H' a ≠ none ∧ Hi' a = none ∧ (a ∈ A ∨ H a = none)) → Py.rep K Hi' r.1 v → Q v H')
theorem jm_callO3_2 {α0 α1 ρ S S' : Type} [Py α0] [Py α1] [Py ρ] {X : Cx} {K : Fg} {b : Bs} {L : List En} {E : XK} {e0 e1 e2 : Expr} {m0 : M α0} {m1 : M α1} {t : S → Tr} {t' : S' → Tr} {f : α0 → α1 → S → M (ρ × S')} {x0 : S} {put : Tr → List En} {x : Str} {p pos : Pos} {k : Nat} (F : OkF X.prog X.w X.K X.mg X.base x k (spO3_2 K t t' f)) (hr : Room k X.A) (hx : Passes (L2.CX X.prog X.w) X E) (h0 : JE X K b L E e0 m0) (h1 : JE X K b L E e1 m1) (hp : JP X b L e2 (t x0) put) (hg : Gl X x := by rfl) (hdb : (x == ("__debug__" : Str)) = false := by decide) (s0 : starEach [e0, e1, e2] X.env = (false, eval e0 X.env) :: starEach [e1, e2] X.env := by rfl) (s1 : starEach [e1, e2] X.env = (false, eval e1 X.env) :: starEach [e2] X.env := by rfl) (s2 : starEach [e2] X.env = (false, eval e2 X.env) :: starEach [] X.env := by rfl) (hpl : (backTo pos (starEach [e1, e2] X.env)).any (·.1) = false := by rfl) : JM X K b L E (.Call (.Name x p) [e0, e1, e2] [] pos) (m0 >>= fun a0 => m1 >>= fun a1 => f a0 a1 x0) (fun s => put (t' s)) :=
  ⟨fun σ Hi0 H0 en0 Q z0 => by
    obtain ⟨fa, fd, ps, F1, F2, F3, F4⟩ := F.ex
    refine PE.wp (pe_call F3 hr hg F1 F2 F4 .nil hx (pa_cons pe_wp (pa_cons pe_wp (pa_cons pe_wp pa_nil s2) s1) s0) hdb s0 hpl) ?_
    refine h0.go σ Hi0 H0 en0 _ ((PZ.bind en0 z0).imp fun a0 Hi1 H1 n1 k1 v0 r0 => ?_)
    have en1 := en0.nx n1
    refine h1.go σ Hi1 H1 en1 _ ((PZ.bind en1 k1).imp fun a1 Hi2 H2 n2 k2 v1 r1 => ?_)
    have en2 := en1.nx n2
    have r0 := Py.mono n2.im r0
    obtain ⟨v2, at2, go⟩ := hp.go σ Hi2 H2 en2
    refine go _ ?_
    obtain ⟨A, g1, g2, g3, g4⟩ := at2.go Hi2 H2 en2.rf
    refine ⟨a0, a1, x0, v0, v1, v2, Hi2, A, rfl, en2.sub, r0, r1, g1, g2, ?_⟩
    cases hf : f a0 a1 x0 with
    | error y =>
      rw [hf] at k2
      cases y with
      | rs c => exact fun Hi' H' o => k2 Hi' H' (g3 Hi' H' o)
      | st => exact k2
    | ok r =>
      rw [hf] at k2
      exact fun Hi' H' A' v o r1 r2 r3 => k2 Hi' H' v (g4 _ A' Hi' H' o r1 r2) r3⟩
theorem mkCO3_2 {α0 α1 ρ S S' : Type} [Py α0] [Py α1] [Py ρ] {P : Program} {w : World} {K : Fg} {mg : Str → Option Value} {base : Heap} {x0 q0 : Str} {fa : Addr} {N : List Str} {p0 p1 p2 : Str} {args : Arguments} {body : List Stmt} {sc : Scope} {k : Nat} {t : S → Tr} {t' : S' → Tr} {f : α0 → α1 → S → M (ρ × S')} {fd : FuncData} (F : FunD K x0 q0 args body sc [] [] fa fd) (Sc0 : FnScope N [p0, p1, p2] sc)
    (h : ∀ (cdv : Value) (A : Around) (outer : List Env) (s : Shared) (H : Hp) (E : XK), Room k (cxOf (L2.CX P w) P w K mg base N q0 sc fa cdv A outer s H E).A → ∀ (a0 : α0) (a1 : α1) (x : S) (b : Bs) (vx : V), JS (cxOf (L2.CX P w) P w K mg base N q0 sc fa cdv A outer s H E) K b ([.im (rp K a0), .im (rp K a1), .tr true (pin vx (t x))] ++ List.replicate (N.length - 3) .no) E body tlFn (f a0 a1 x) (pRt K b (R := PinT ρ S' t' vx))) : FnOk P w K mg base (L2.CX P w) (k + 1) fa fd [p0, p1, p2] (spO3_2 K t t' f) := by
  refine F.ok Sc0 (fun vs H Q E hh => ?_) (fun cdv A outer s H vs Q E hr hh => ?_)
  · obtain ⟨a0, a1, x, v0, v1, v2, Hi, A, rfl, _⟩ := hh
    rfl
  · obtain ⟨a0, a1, x, v0, v1, v2, Hi, A0, rfl, sm, r0, r1, g1, g2, q⟩ := hh
    have st : EnvOk ⟨Hi, H, A0⟩ _ _ Hi H := EnvOk.start (own := A0) (ps := [rp K a0, rp K a1, prV v2]) (vs := [v0, v1, v2]) (N := N) sm rfl (Paired.cons r0 (Paired.cons r1 (Paired.cons rfl Paired.nil)))
    exact ⟨_, pss_wp, (h cdv A outer s H E hr a0 a1 x ⟨Hi, H, A0⟩ v2).go _ Hi H (st.adopt 2 noTr_start (by rw [List.length_append, List.length_map]; exact Nat.lt_of_lt_of_le (by show 2 < 3; decide) (Nat.le_add_right _ _)) rfl g1 g2) _ (fun σ' H' z => z) (PZ.of_fnP q)⟩
theorem mkFO3_2 {α0 α1 ρ S S' : Type} [Py α0] [Py α1] [Py ρ] {P : Program} {w : World} {K : Fg} {mg : Str → Option Value} {base : Heap} {x0 : Str} {N : List Str} {p0 p1 p2 : Str} {args : Arguments} {body : List Stmt} {sc : Scope} {k : Nat} {t : S → Tr} {t' : S' → Tr} {f : α0 → α1 → S → M (ρ × S')} (F : ∃ fd, FunD K x0 x0 args body sc [] [] (He.ga K x0) fd) (g : mg x0 = some (.ref (He.ga K x0))) (Sc0 : FnScope N [p0, p1, p2] sc)
    (hb : ∀ (kV doc pm : Value) (an : Option Addr) (cdv ct : Value) (us : List Value), us.length = [p0, p1, p2].length → bindArgs (PySem.W.fnOf x0 x0 args body sc .none kV doc pm an cdv ct) ⟨us, []⟩ = pure ([p0, p1, p2].zip us))
    (h : ∀ (cdv : Value) (A : Around) (outer : List Env) (s : Shared) (H : Hp) (E : XK), Room k (cxOf (L2.CX P w) P w K mg base N x0 sc (He.ga K x0) cdv A outer s H E).A → ∀ (a0 : α0) (a1 : α1) (x : S) (b : Bs) (vx : V), JS (cxOf (L2.CX P w) P w K mg base N x0 sc (He.ga K x0) cdv A outer s H E) K b ([.im (rp K a0), .im (rp K a1), .tr true (pin vx (t x))] ++ List.replicate (N.length - 3) .no) E body tlFn (f a0 a1 x) (pRt K b (R := PinT ρ S' t' vx))) : OkF P w K mg base x0 (k + 1) (spO3_2 K t t' f) := by
  obtain ⟨fd, F⟩ := F
  exact ⟨_, fd, [p0, p1, p2], g, F.kp, mkCO3_2 F Sc0 h, F.bindsN hb⟩
def spO4_1 (K : Fg) {α0 α2 α3 ρ S S' : Type} [Py α0] [Py α2] [Py α3] [Py ρ] (t : S → Tr) (t' : S' → Tr) (f : α0 → S → α2 → α3 → M (ρ × S')) : Sp := fun vs H Q E => ∃ (a0 : α0) (x : S) (a2 : α2) (a3 : α3) (v0 v1 v2 v3 : V) (Hi : Hp) (A : List Addr), vs = [v0, v1, v2, v3] ∧ Same Hi H ∧ Py.rep K Hi a0 v0 ∧ Py.rep K Hi a2 v2 ∧ Py.rep K Hi a3 v3 ∧ (t x).r Hi H A v1 ∧ (∀ a, a ∈ A → H a ≠ none ∧ Hi a = none) ∧ PZ K E ⟨Hi, H, A⟩ (f a0 x a2 a3) (fun r => ∀ Hi' H' A' v, Ok ⟨Hi, H, A⟩ Hi' H' → (t' r.2).r Hi' H' A' v1 → (∀ a, a ∈ A' → H' a ≠ none ∧ Hi' a = none ∧ (a ∈ A ∨ H a = none)) → Py.rep K Hi' r.1 v → Q v H')
theorem jm_callO4_1 {α0 α2 α3 ρ S S' : Type} [Py α0] [Py α2] [Py α3] [Py ρ] {X : Cx} {K : Fg} {b : Bs} {L : List En} {E : XK} {e0 e1 e2 e3 : Expr} {m0 : M α0} {m2 : M α2} {m3 : M α3} {t : S → Tr} {t' : S' → Tr} {f : α0 → S → α2 → α3 → M (ρ × S')} {x0 : S} {put : Tr → List En} {x : Str} {p pos : Pos} {k : Nat} (F : OkF X.prog X.w X.K X.mg X.base x k (spO4_1 K t t' f)) (hr : Room k X.A) (hx : Passes (L2.CX X.prog X.w) X E) (h0 : JE X K b L E e0 m0) (hp : JP X b L e1 (t x0) put) (h2 : JE X K b L E e2 m2) (h3 : JE X K b L E e3 m3) (hg : Gl X x := by rfl) (hdb : (x == ("__debug__" : Str)) = false := by decide) (s0 : starEach [e0, e1, e2, e3] X.env = (false, eval e0 X.env) :: starEach [e1, e2, e3] X.env := by rfl) (s1 : starEach [e1, e2, e3] X.env = (false, eval e1 X.env) :: starEach [e2, e3] X.env := by rfl) (s2 : starEach [e2, e3] X.env = (false, eval e2 X.env) :: starEach [e3] X.env := by rfl) (s3 : starEach [e3] X.env = (false, eval e3 X.env) :: starEach [] X.env := by rfl) (hpl : (backTo pos (starEach [e1, e2, e3] X.env)).any (·.1) = false := by rfl) : JM X K b L E (.Call (.Name x p) [e0, e1, e2, e3] [] pos) (m0 >>= fun a0 => m2 >>= fun a2 => m3 >>= fun a3 => f a0 x0 a2 a3) (fun s => put (t' s)) :=
  ⟨fun σ Hi0 H0 en0 Q z0 => by
    obtain ⟨fa, fd, ps, F1, F2, F3, F4⟩ := F.ex
    refine PE.wp (pe_call F3 hr hg F1 F2 F4 .nil hx (pa_cons pe_wp (pa_cons pe_wp (pa_cons pe_wp (pa_cons pe_wp pa_nil s3) s2) s1) s0) hdb s0 hpl) ?_
    refine h0.go σ Hi0 H0 en0 _ ((PZ.bind en0 z0).imp fun a0 Hi1 H1 n1 k1 v0 r0 => ?_)
    have en1 := en0.nx n1
    obtain ⟨v1, at1, go⟩ := hp.go σ Hi1 H1 en1
    refine go _ ?_
    refine h2.go σ Hi1 H1 en1 _ ((PZ.bind en1 k1).imp fun a2 Hi2 H2 n2 k2 v2 r2 => ?_)
    have en2 := en1.nx n2
    have at2 := at1.nx n2
    have r0 := Py.mono n2.im r0
    refine h3.go σ Hi2 H2 en2 _ ((PZ.bind en2 k2).imp fun a3 Hi3 H3 n3 k3 v3 r3 => ?_)
    have en3 := en2.nx n3
    have at3 := at2.nx n3
    have r0 := Py.mono n3.im r0
    have r2 := Py.mono n3.im r2
    obtain ⟨A, g1, g2, g3, g4⟩ := at3.go Hi3 H3 en3.rf
    refine ⟨a0, x0, a2, a3, v0, v1, v2, v3, Hi3, A, rfl, en3.sub, r0, r2, r3, g1, g2, ?_⟩
    cases hf : f a0 x0 a2 a3 with
    | error y =>
      rw [hf] at k3
      cases y with
      | rs c => exact fun Hi' H' o => k3 Hi' H' (g3 Hi' H' o)
      | st => exact k3
    | ok r =>
      rw [hf] at k3
      exact fun Hi' H' A' v o r1 r2 r3 => k3 Hi' H' v (g4 _ A' Hi' H' o r1 r2) r3⟩
theorem mkCO4_1 {α0 α2 α3 ρ S S' : Type} [Py α0] [Py α2] [Py α3] [Py ρ] {P : Program} {w : World} {K : Fg} {mg : Str → Option Value} {base : Heap} {x0 q0 : Str} {fa : Addr} {N : List Str} {p0 p1 p2 p3 : Str} {args : Arguments} {body : List Stmt} {sc : Scope} {k : Nat} {t : S → Tr} {t' : S' → Tr} {f : α0 → S → α2 → α3 → M (ρ × S')} {fd : FuncData} (F : FunD K x0 q0 args body sc [] [] fa fd) (Sc0 : FnScope N [p0, p1, p2, p3] sc)
    (h : ∀ (cdv : Value) (A : Around) (outer : List Env) (s : Shared) (H : Hp) (E : XK), Room k (cxOf (L2.CX P w) P w K mg base N q0 sc fa cdv A outer s H E).A → ∀ (a0 : α0) (x : S) (a2 : α2) (a3 : α3) (b : Bs) (vx : V), JS (cxOf (L2.CX P w) P w K mg base N q0 sc fa cdv A outer s H E) K b ([.im (rp K a0), .tr true (pin vx (t x)), .im (rp K a2), .im (rp K a3)] ++ List.replicate (N.length - 4) .no) E body tlFn (f a0 x a2 a3) (pRt K b (R := PinT ρ S' t' vx))) : FnOk P w K mg base (L2.CX P w) (k + 1) fa fd [p0, p1, p2, p3] (spO4_1 K t t' f) := by
  refine F.ok Sc0 (fun vs H Q E hh => ?_) (fun cdv A outer s H vs Q E hr hh => ?_)
  · obtain ⟨a0, x, a2, a3, v0, v1, v2, v3, Hi, A, rfl, _⟩ := hh
    rfl
  · obtain ⟨a0, x, a2, a3, v0, v1, v2, v3, Hi, A0, rfl, sm, r0, r2, r3, g1, g2, q⟩ := hh
    have st : EnvOk ⟨Hi, H, A0⟩ _ _ Hi H := EnvOk.start (own := A0) (ps := [rp K a0, prV v1, rp K a2, rp K a3]) (vs := [v0, v1, v2, v3]) (N := N) sm rfl (Paired.cons r0 (Paired.cons rfl (Paired.cons r2 (Paired.cons r3 Paired.nil))))
    exact ⟨_, pss_wp, (h cdv A outer s H E hr a0 x a2 a3 ⟨Hi, H, A0⟩ v1).go _ Hi H (st.adopt 1 noTr_start (by rw [List.length_append, List.length_map]; exact Nat.lt_of_lt_of_le (by show 1 < 4; decide) (Nat.le_add_right _ _)) rfl g1 g2) _ (fun σ' H' z => z) (PZ.of_fnP q)⟩
theorem mkFO4_1 {α0 α2 α3 ρ S S' : Type} [Py α0] [Py α2] [Py α3] [Py ρ] {P : Program} {w : World} {K : Fg} {mg : Str → Option Value} {base : Heap} {x0 : Str} {N : List Str} {p0 p1 p2 p3 : Str} {args : Arguments} {body : List Stmt} {sc : Scope} {k : Nat} {t : S → Tr} {t' : S' → Tr} {f : α0 → S → α2 → α3 → M (ρ × S')} (F : ∃ fd, FunD K x0 x0 args body sc [] [] (He.ga K x0) fd) (g : mg x0 = some (.ref (He.ga K x0))) (Sc0 : FnScope N [p0, p1, p2, p3] sc)
    (hb : ∀ (kV doc pm : Value) (an : Option Addr) (cdv ct : Value) (us : List Value), us.length = [p0, p1, p2, p3].length → bindArgs (PySem.W.fnOf x0 x0 args body sc .none kV doc pm an cdv ct) ⟨us, []⟩ = pure ([p0, p1, p2, p3].zip us))
    (h : ∀ (cdv : Value) (A : Around) (outer : List Env) (s : Shared) (H : Hp) (E : XK), Room k (cxOf (L2.CX P w) P w K mg base N x0 sc (He.ga K x0) cdv A outer s H E).A → ∀ (a0 : α0) (x : S) (a2 : α2) (a3 : α3) (b : Bs) (vx : V), JS (cxOf (L2.CX P w) P w K mg base N x0 sc (He.ga K x0) cdv A outer s H E) K b ([.im (rp K a0), .tr true (pin vx (t x)), .im (rp K a2), .im (rp K a3)] ++ List.replicate (N.length - 4) .no) E body tlFn (f a0 x a2 a3) (pRt K b (R := PinT ρ S' t' vx))) : OkF P w K mg base x0 (k + 1) (spO4_1 K t t' f) := by
  obtain ⟨fd, F⟩ := F
  exact ⟨_, fd, [p0, p1, p2, p3], g, F.kp, mkCO4_1 F Sc0 h, F.bindsN hb⟩
def spO5_0 (K : Fg) {α1 α2 α3 α4 ρ S S' : Type} [Py α1] [Py α2] [Py α3] [Py α4] [Py ρ] (t : S → Tr) (t' : S' → Tr) (f : S → α1 → α2 → α3 → α4 → M (ρ × S')) : Sp := fun vs H Q E => ∃ (x : S) (a1 : α1) (a2 : α2) (a3 : α3) (a4 : α4) (v0 v1 v2 v3 v4 : V) (Hi : Hp) (A : List Addr), vs = [v0, v1, v2, v3, v4] ∧ Same Hi H ∧ Py.rep K Hi a1 v1 ∧ Py.rep K Hi a2 v2 ∧ Py.rep K Hi a3 v3 ∧ Py.rep K Hi a4 v4 ∧ (t x).r Hi H A v0 ∧ (∀ a, a ∈ A → H a ≠ none ∧ Hi a = none) ∧ PZ K E ⟨Hi, H, A⟩ (f x a1 a2 a3 a4) (fun r => ∀ Hi' H' A' v, Ok ⟨Hi, H, A⟩ Hi' H' → (t' r.2).r Hi' H' A' v0 → (∀ a, a ∈ A' → H' a ≠ none ∧ Hi' a = none ∧ (a ∈ A ∨ H a = none)) → Py.rep K Hi' r.1 v → Q v H')
theorem jm_callO5_0 {α1 α2 α3 α4 ρ S S' : Type} [Py α1] [Py α2] [Py α3] [Py α4] [Py ρ] {X : Cx} {K : Fg} {b : Bs} {L : List En} {E : XK} {e0 e1 e2 e3 e4 : Expr} {m1 : M α1} {m2 : M α2} {m3 : M α3} {m4 : M α4} {t : S → Tr} {t' : S' → Tr} {f : S → α1 → α2 → α3 → α4 → M (ρ × S')} {x0 : S} {put : Tr → List En} {x : Str} {p pos : Pos} {k : Nat} (F : OkF X.prog X.w X.K X.mg X.base x k (spO5_0 K t t' f)) (hr : Room k X.A) (hx : Passes (L2.CX X.prog X.w) X E) (hp : JP X b L e0 (t x0) put) (h1 : JE X K b L E e1 m1) (h2 : JE X K b L E e2 m2) (h3 : JE X K b L E e3 m3) (h4 : JE X K b L E e4 m4) (hg : Gl X x := by rfl) (hdb : (x == ("__debug__" : Str)) = false := by decide) (s0 : starEach [e0, e1, e2, e3, e4] X.env = (false, eval e0 X.env) :: starEach [e1, e2, e3, e4] X.env := by rfl) (s1 : starEach [e1, e2, e3, e4] X.env = (false, eval e1 X.env) :: starEach [e2, e3, e4] X.env := by rfl) (s2 : starEach [e2, e3, e4] X.env = (false, eval e2 X.env) :: starEach [e3, e4] X.env := by rfl) (s3 : starEach [e3, e4] X.env = (false, eval e3 X.env) :: starEach [e4] X.env := by rfl) (s4 : starEach [e4] X.env = (false, eval e4 X.env) :: starEach [] X.env := by rfl) (hpl : (backTo pos (starEach [e1, e2, e3, e4] X.env)).any (·.1) = false := by rfl) : JM X K b L E (.Call (.Name x p) [e0, e1, e2, e3, e4] [] pos) (m1 >>= fun a1 => m2 >>= fun a2 => m3 >>= fun a3 => m4 >>= fun a4 => f x0 a1 a2 a3 a4) (fun s => put (t' s)) :=
  ⟨fun σ Hi0 H0 en0 Q z0 => by
    obtain ⟨fa, fd, ps, F1, F2, F3, F4⟩ := F.ex
    refine PE.wp (pe_call F3 hr hg F1 F2 F4 .nil hx (pa_cons pe_wp (pa_cons pe_wp (pa_cons pe_wp (pa_cons pe_wp (pa_cons pe_wp pa_nil s4) s3) s2) s1) s0) hdb s0 hpl) ?_
    obtain ⟨v0, at0, go⟩ := hp.go σ Hi0 H0 en0
    refine go _ ?_
    refine h1.go σ Hi0 H0 en0 _ ((PZ.bind en0 z0).imp fun a1 Hi1 H1 n1 k1 v1 r1 => ?_)
    have en1 := en0.nx n1
    have at1 := at0.nx n1
    refine h2.go σ Hi1 H1 en1 _ ((PZ.bind en1 k1).imp fun a2 Hi2 H2 n2 k2 v2 r2 => ?_)
    have en2 := en1.nx n2
    have at2 := at1.nx n2
    have r1 := Py.mono n2.im r1
    refine h3.go σ Hi2 H2 en2 _ ((PZ.bind en2 k2).imp fun a3 Hi3 H3 n3 k3 v3 r3 => ?_)
    have en3 := en2.nx n3
    have at3 := at2.nx n3
    have r1 := Py.mono n3.im r1
    have r2 := Py.mono n3.im r2
    refine h4.go σ Hi3 H3 en3 _ ((PZ.bind en3 k3).imp fun a4 Hi4 H4 n4 k4 v4 r4 => ?_)
    have en4 := en3.nx n4
    have at4 := at3.nx n4
    have r1 := Py.mono n4.im r1
    have r2 := Py.mono n4.im r2
    have r3 := Py.mono n4.im r3
    obtain ⟨A, g1, g2, g3, g4⟩ := at4.go Hi4 H4 en4.rf
    refine ⟨x0, a1, a2, a3, a4, v0, v1, v2, v3, v4, Hi4, A, rfl, en4.sub, r1, r2, r3, r4, g1, g2, ?_⟩
    cases hf : f x0 a1 a2 a3 a4 with
    | error y =>
      rw [hf] at k4
      cases y with
      | rs c => exact fun Hi' H' o => k4 Hi' H' (g3 Hi' H' o)
      | st => exact k4
    | ok r =>
      rw [hf] at k4
      exact fun Hi' H' A' v o r1 r2 r3 => k4 Hi' H' v (g4 _ A' Hi' H' o r1 r2) r3⟩
theorem mkCO5_0 {α1 α2 α3 α4 ρ S S' : Type} [Py α1] [Py α2] [Py α3] [Py α4] [Py ρ] {P : Program} {w : World} {K : Fg} {mg : Str → Option Value} {base : Heap} {x0 q0 : Str} {fa : Addr} {N : List Str} {p0 p1 p2 p3 p4 : Str} {args : Arguments} {body : List Stmt} {sc : Scope} {k : Nat} {t : S → Tr} {t' : S' → Tr} {f : S → α1 → α2 → α3 → α4 → M (ρ × S')} {fd : FuncData} (F : FunD K x0 q0 args body sc [] [] fa fd) (Sc0 : FnScope N [p0, p1, p2, p3, p4] sc)
    (h : ∀ (cdv : Value) (A : Around) (outer : List Env) (s : Shared) (H : Hp) (E : XK), Room k (cxOf (L2.CX P w) P w K mg base N q0 sc fa cdv A outer s H E).A → ∀ (x : S) (a1 : α1) (a2 : α2) (a3 : α3) (a4 : α4) (b : Bs) (vx : V), JS (cxOf (L2.CX P w) P w K mg base N q0 sc fa cdv A outer s H E) K b ([.tr true (pin vx (t x)), .im (rp K a1), .im (rp K a2), .im (rp K a3), .im (rp K a4)] ++ List.replicate (N.length - 5) .no) E body tlFn (f x a1 a2 a3 a4) (pRt K b (R := PinT ρ S' t' vx))) : FnOk P w K mg base (L2.CX P w) (k + 1) fa fd [p0, p1, p2, p3, p4] (spO5_0 K t t' f) := by
  refine F.ok Sc0 (fun vs H Q E hh => ?_) (fun cdv A outer s H vs Q E hr hh => ?_)
  · obtain ⟨x, a1, a2, a3, a4, v0, v1, v2, v3, v4, Hi, A, rfl, _⟩ := hh
    rfl
  · obtain ⟨x, a1, a2, a3, a4, v0, v1, v2, v3, v4, Hi, A0, rfl, sm, r1, r2, r3, r4, g1, g2, q⟩ := hh
    have st : EnvOk ⟨Hi, H, A0⟩ _ _ Hi H := EnvOk.start (own := A0) (ps := [prV v0, rp K a1, rp K a2, rp K a3, rp K a4]) (vs := [v0, v1, v2, v3, v4]) (N := N) sm rfl (Paired.cons rfl (Paired.cons r1 (Paired.cons r2 (Paired.cons r3 (Paired.cons r4 Paired.nil)))))
    exact ⟨_, pss_wp, (h cdv A outer s H E hr x a1 a2 a3 a4 ⟨Hi, H, A0⟩ v0).go _ Hi H (st.adopt 0 noTr_start (by rw [List.length_append, List.length_map]; exact Nat.lt_of_lt_of_le (by show 0 < 5; decide) (Nat.le_add_right _ _)) rfl g1 g2) _ (fun σ' H' z => z) (PZ.of_fnP q)⟩
theorem mkFO5_0 {α1 α2 α3 α4 ρ S S' : Type} [Py α1] [Py α2] [Py α3] [Py α4] [Py ρ] {P : Program} {w : World} {K : Fg} {mg : Str → Option Value} {base : Heap} {x0 : Str} {N : List Str} {p0 p1 p2 p3 p4 : Str} {args : Arguments} {body : List Stmt} {sc : Scope} {k : Nat} {t : S → Tr} {t' : S' → Tr} {f : S → α1 → α2 → α3 → α4 → M (ρ × S')} (F : ∃ fd, FunD K x0 x0 args body sc [] [] (He.ga K x0) fd) (g : mg x0 = some (.ref (He.ga K x0))) (Sc0 : FnScope N [p0, p1, p2, p3, p4] sc)
    (hb : ∀ (kV doc pm : Value) (an : Option Addr) (cdv ct : Value) (us : List Value), us.length = [p0, p1, p2, p3, p4].length → bindArgs (PySem.W.fnOf x0 x0 args body sc .none kV doc pm an cdv ct) ⟨us, []⟩ = pure ([p0, p1, p2, p3, p4].zip us))
    (h : ∀ (cdv : Value) (A : Around) (outer : List Env) (s : Shared) (H : Hp) (E : XK), Room k (cxOf (L2.CX P w) P w K mg base N x0 sc (He.ga K x0) cdv A outer s H E).A → ∀ (x : S) (a1 : α1) (a2 : α2) (a3 : α3) (a4 : α4) (b : Bs) (vx : V), JS (cxOf (L2.CX P w) P w K mg base N x0 sc (He.ga K x0) cdv A outer s H E) K b ([.tr true (pin vx (t x)), .im (rp K a1), .im (rp K a2), .im (rp K a3), .im (rp K a4)] ++ List.replicate (N.length - 5) .no) E body tlFn (f x a1 a2 a3 a4) (pRt K b (R := PinT ρ S' t' vx))) : OkF P w K mg base x0 (k + 1) (spO5_0 K t t' f) := by
  obtain ⟨fd, F⟩ := F
  exact ⟨_, fd, [p0, p1, p2, p3, p4], g, F.kp, mkCO5_0 F Sc0 h, F.bindsN hb⟩
def spO5_3 (K : Fg) {α0 α1 α2 α4 ρ S S' : Type} [Py α0] [Py α1] [Py α2] [Py α4] [Py ρ] (t : S → Tr) (t' : S' → Tr) (f : α0 → α1 → α2 → S → α4 → M (ρ × S')) : Sp := fun vs H Q E => ∃ (a0 : α0) (a1 : α1) (a2 : α2) (x : S) (a4 : α4) (v0 v1 v2 v3 v4 : V) (Hi : Hp) (A : List Addr), vs = [v0, v1, v2, v3, v4] ∧ Same Hi H ∧ Py.rep K Hi a0 v0 ∧ Py.rep K Hi a1 v1 ∧ Py.rep K Hi a2 v2 ∧ Py.rep K Hi a4 v4 ∧ (t x).r Hi H A v3 ∧ (∀ a, a ∈ A → H a ≠ none ∧ Hi a = none) ∧ PZ K E ⟨Hi, H, A⟩ (f a0 a1 a2 x a4) (fun r => ∀ Hi' H' A' v, Ok ⟨Hi, H, A⟩ Hi' H' → (t' r.2).r Hi' H' A' v3 → (∀ a, a ∈ A' → H' a ≠ none ∧ Hi' a = none ∧ (a ∈ A ∨ H a = none)) → Py.rep K Hi' r.1 v → Q v H')
theorem jm_callO5_3 {α0 α1 α2 α4 ρ S S' : Type} [Py α0] [Py α1] [Py α2] [Py α4] [Py ρ] {X : Cx} {K : Fg} {b : Bs} {L : List En} {E : XK} {e0 e1 e2 e3 e4 : Expr} {m0 : M α0} {m1 : M α1} {m2 : M α2} {m4 : M α4} {t : S → Tr} {t' : S' → Tr} {f : α0 → α1 → α2 → S → α4 → M (ρ × S')} {x0 : S} {put : Tr → List En} {x : Str} {p pos : Pos} {k : Nat} (F : OkF X.prog X.w X.K X.mg X.base x k (spO5_3 K t t' f)) (hr : Room k X.A) (hx : Passes (L2.CX X.prog X.w) X E) (h0 : JE X K b L E e0 m0) (h1 : JE X K b L E e1 m1) (h2 : JE X K b L E e2 m2) (hp : JP X b L e3 (t x0) put) (h4 : JE X K b L E e4 m4) (hg : Gl X x := by rfl) (hdb : (x == ("__debug__" : Str)) = false := by decide) (s0 : starEach [e0, e1, e2, e3, e4] X.env = (false, eval e0 X.env) :: starEach [e1, e2, e3, e4] X.env := by rfl) (s1 : starEach [e1, e2, e3, e4] X.env = (false, eval e1 X.env) :: starEach [e2, e3, e4] X.env := by rfl) (s2 : starEach [e2, e3, e4] X.env = (false, eval e2 X.env) :: starEach [e3, e4] X.env := by rfl) (s3 : starEach [e3, e4] X.env = (false, eval e3 X.env) :: starEach [e4] X.env := by rfl) (s4 : starEach [e4] X.env = (false, eval e4 X.env) :: starEach [] X.env := by rfl) (hpl : (backTo pos (starEach [e1, e2, e3, e4] X.env)).any (·.1) = false := by rfl) : JM X K b L E (.Call (.Name x p) [e0, e1, e2, e3, e4] [] pos) (m0 >>= fun a0 => m1 >>= fun a1 => m2 >>= fun a2 => m4 >>= fun a4 => f a0 a1 a2 x0 a4) (fun s => put (t' s)) :=
  ⟨fun σ Hi0 H0 en0 Q z0 => by
    obtain ⟨fa, fd, ps, F1, F2, F3, F4⟩ := F.ex
    refine PE.wp (pe_call F3 hr hg F1 F2 F4 .nil hx (pa_cons pe_wp (pa_cons pe_wp (pa_cons pe_wp (pa_cons pe_wp (pa_cons pe_wp pa_nil s4) s3) s2) s1) s0) hdb s0 hpl) ?_
    refine h0.go σ Hi0 H0 en0 _ ((PZ.bind en0 z0).imp fun a0 Hi1 H1 n1 k1 v0 r0 => ?_)
    have en1 := en0.nx n1
    refine h1.go σ Hi1 H1 en1 _ ((PZ.bind en1 k1).imp fun a1 Hi2 H2 n2 k2 v1 r1 => ?_)
    have en2 := en1.nx n2
    have r0 := Py.mono n2.im r0
    refine h2.go σ Hi2 H2 en2 _ ((PZ.bind en2 k2).imp fun a2 Hi3 H3 n3 k3 v2 r2 => ?_)
    have en3 := en2.nx n3
    have r0 := Py.mono n3.im r0
    have r1 := Py.mono n3.im r1
    obtain ⟨v3, at3, go⟩ := hp.go σ Hi3 H3 en3
    refine go _ ?_
    refine h4.go σ Hi3 H3 en3 _ ((PZ.bind en3 k3).imp fun a4 Hi4 H4 n4 k4 v4 r4 => ?_)
    have en4 := en3.nx n4
    have at4 := at3.nx n4
    have r0 := Py.mono n4.im r0
    have r1 := Py.mono n4.im r1
    have r2 := Py.mono n4.im r2
    obtain ⟨A, g1, g2, g3, g4⟩ := at4.go Hi4 H4 en4.rf
    refine ⟨a0, a1, a2, x0, a4, v0, v1, v2, v3, v4, Hi4, A, rfl, en4.sub, r0, r1, r2, r4, g1, g2, ?_⟩
    cases hf : f a0 a1 a2 x0 a4 with
    | error y =>
      rw [hf] at k4
      cases y with
      | rs c => exact fun Hi' H' o => k4 Hi' H' (g3 Hi' H' o)
      | st => exact k4
    | ok r =>
      rw [hf] at k4
      exact fun Hi' H' A' v o r1 r2 r3 => k4 Hi' H' v (g4 _ A' Hi' H' o r1 r2) r3⟩
theorem mkCO5_3 {α0 α1 α2 α4 ρ S S' : Type} [Py α0] [Py α1] [Py α2] [Py α4] [Py ρ] {P : Program} {w : World} {K : Fg} {mg : Str → Option Value} {base : Heap} {x0 q0 : Str} {fa : Addr} {N : List Str} {p0 p1 p2 p3 p4 : Str} {args : Arguments} {body : List Stmt} {sc : Scope} {k : Nat} {t : S → Tr} {t' : S' → Tr} {f : α0 → α1 → α2 → S → α4 → M (ρ × S')} {fd : FuncData} (F : FunD K x0 q0 args body sc [] [] fa fd) (Sc0 : FnScope N [p0, p1, p2, p3, p4] sc)
    (h : ∀ (cdv : Value) (A : Around) (outer : List Env) (s : Shared) (H : Hp) (E : XK), Room k (cxOf (L2.CX P w) P w K mg base N q0 sc fa cdv A outer s H E).A → ∀ (a0 : α0) (a1 : α1) (a2 : α2) (x : S) (a4 : α4) (b : Bs) (vx : V), JS (cxOf (L2.CX P w) P w K mg base N q0 sc fa cdv A outer s H E) K b ([.im (rp K a0), .im (rp K a1), .im (rp K a2), .tr true (pin vx (t x)), .im (rp K a4)] ++ List.replicate (N.length - 5) .no) E body tlFn (f a0 a1 a2 x a4) (pRt K b (R := PinT ρ S' t' vx))) : FnOk P w K mg base (L2.CX P w) (k + 1) fa fd [p0, p1, p2, p3, p4] (spO5_3 K t t' f) := by
  refine F.ok Sc0 (fun vs H Q E hh => ?_) (fun cdv A outer s H vs Q E hr hh => ?_)
  · obtain ⟨a0, a1, a2, x, a4, v0, v1, v2, v3, v4, Hi, A, rfl, _⟩ := hh
    rfl
  · obtain ⟨a0, a1, a2, x, a4, v0, v1, v2, v3, v4, Hi, A0, rfl, sm, r0, r1, r2, r4, g1, g2, q⟩ := hh
    have st : EnvOk ⟨Hi, H, A0⟩ _ _ Hi H := EnvOk.start (own := A0) (ps := [rp K a0, rp K a1, rp K a2, prV v3, rp K a4]) (vs := [v0, v1, v2, v3, v4]) (N := N) sm rfl (Paired.cons r0 (Paired.cons r1 (Paired.cons r2 (Paired.cons rfl (Paired.cons r4 Paired.nil)))))
    exact ⟨_, pss_wp, (h cdv A outer s H E hr a0 a1 a2 x a4 ⟨Hi, H, A0⟩ v3).go _ Hi H (st.adopt 3 noTr_start (by rw [List.length_append, List.length_map]; exact Nat.lt_of_lt_of_le (by show 3 < 5; decide) (Nat.le_add_right _ _)) rfl g1 g2) _ (fun σ' H' z => z) (PZ.of_fnP q)⟩
theorem mkFO5_3 {α0 α1 α2 α4 ρ S S' : Type} [Py α0] [Py α1] [Py α2] [Py α4] [Py ρ] {P : Program} {w : World} {K : Fg} {mg : Str → Option Value} {base : Heap} {x0 : Str} {N : List Str} {p0 p1 p2 p3 p4 : Str} {args : Arguments} {body : List Stmt} {sc : Scope} {k : Nat} {t : S → Tr} {t' : S' → Tr} {f : α0 → α1 → α2 → S → α4 → M (ρ × S')} (F : ∃ fd, FunD K x0 x0 args body sc [] [] (He.ga K x0) fd) (g : mg x0 = some (.ref (He.ga K x0))) (Sc0 : FnScope N [p0, p1, p2, p3, p4] sc)
    (hb : ∀ (kV doc pm : Value) (an : Option Addr) (cdv ct : Value) (us : List Value), us.length = [p0, p1, p2, p3, p4].length → bindArgs (PySem.W.fnOf x0 x0 args body sc .none kV doc pm an cdv ct) ⟨us, []⟩ = pure ([p0, p1, p2, p3, p4].zip us))
    (h : ∀ (cdv : Value) (A : Around) (outer : List Env) (s : Shared) (H : Hp) (E : XK), Room k (cxOf (L2.CX P w) P w K mg base N x0 sc (He.ga K x0) cdv A outer s H E).A → ∀ (a0 : α0) (a1 : α1) (a2 : α2) (x : S) (a4 : α4) (b : Bs) (vx : V), JS (cxOf (L2.CX P w) P w K mg base N x0 sc (He.ga K x0) cdv A outer s H E) K b ([.im (rp K a0), .im (rp K a1), .im (rp K a2), .tr true (pin vx (t x)), .im (rp K a4)] ++ List.replicate (N.length - 5) .no) E body tlFn (f a0 a1 a2 x a4) (pRt K b (R := PinT ρ S' t' vx))) : OkF P w K mg base x0 (k + 1) (spO5_3 K t t' f) := by
  obtain ⟨fd, F⟩ := F
  exact ⟨_, fd, [p0, p1, p2, p3, p4], g, F.kp, mkCO5_3 F Sc0 h, F.bindsN hb⟩
def spO2_1 (K : Fg) {α0 ρ S S' : Type} [Py α0] [Py ρ] (t : S → Tr) (t' : S' → Tr) (f : α0 → S → M (ρ × S')) : Sp := fun vs H Q E => ∃ (a0 : α0) (x : S) (v0 v1 : V) (Hi : Hp) (A : List Addr), vs = [v0, v1] ∧ Same Hi H ∧ Py.rep K Hi a0 v0 ∧ (t x).r Hi H A v1 ∧ (∀ a, a ∈ A → H a ≠ none ∧ Hi a = none) ∧ PZ K E ⟨Hi, H, A⟩ (f a0 x) (fun r => ∀ Hi' H' A' v, Ok ⟨Hi, H, A⟩ Hi' H' → (t' r.2).r Hi' H' A' v1 → (∀ a, a ∈ A' → H' a ≠ none ∧ Hi' a = none ∧ (a ∈ A ∨ H a = none)) → Py.rep K Hi' r.1 v → Q v H')
theorem jm_callO2_1 {α0 ρ S S' : Type} [Py α0] [Py ρ] {X : Cx} {K : Fg} {b : Bs} {L : List En} {E : XK} {e0 e1 : Expr} {m0 : M α0} {t : S → Tr} {t' : S' → Tr} {f : α0 → S → M (ρ × S')} {x0 : S} {put : Tr → List En} {x : Str} {p pos : Pos} {k : Nat} (F : OkF X.prog X.w X.K X.mg X.base x k (spO2_1 K t t' f)) (hr : Room k X.A) (hx : Passes (L2.CX X.prog X.w) X E) (h0 : JE X K b L E e0 m0) (hp : JP X b L e1 (t x0) put) (hg : Gl X x := by rfl) (hdb : (x == ("__debug__" : Str)) = false := by decide) (s0 : starEach [e0, e1] X.env = (false, eval e0 X.env) :: starEach [e1] X.env := by rfl) (s1 : starEach [e1] X.env = (false, eval e1 X.env) :: starEach [] X.env := by rfl) (hpl : (backTo pos (starEach [e1] X.env)).any (·.1) = false := by rfl) : JM X K b L E (.Call (.Name x p) [e0, e1] [] pos) (m0 >>= fun a0 => f a0 x0) (fun s => put (t' s)) :=
  ⟨fun σ Hi0 H0 en0 Q z0 => by
    obtain ⟨fa, fd, ps, F1, F2, F3, F4⟩ := F.ex
    refine PE.wp (pe_call F3 hr hg F1 F2 F4 .nil hx (pa_cons pe_wp (pa_cons pe_wp pa_nil s1) s0) hdb s0 hpl) ?_
    refine h0.go σ Hi0 H0 en0 _ ((PZ.bind en0 z0).imp fun a0 Hi1 H1 n1 k1 v0 r0 => ?_)
    have en1 := en0.nx n1
    obtain ⟨v1, at1, go⟩ := hp.go σ Hi1 H1 en1
    refine go _ ?_
    obtain ⟨A, g1, g2, g3, g4⟩ := at1.go Hi1 H1 en1.rf
    refine ⟨a0, x0, v0, v1, Hi1, A, rfl, en1.sub, r0, g1, g2, ?_⟩
    cases hf : f a0 x0 with
    | error y =>
      rw [hf] at k1
      cases y with
      | rs c => exact fun Hi' H' o => k1 Hi' H' (g3 Hi' H' o)
      | st => exact k1
    | ok r =>
      rw [hf] at k1
      exact fun Hi' H' A' v o r1 r2 r3 => k1 Hi' H' v (g4 _ A' Hi' H' o r1 r2) r3⟩
theorem mkCO2_1 {α0 ρ S S' : Type} [Py α0] [Py ρ] {P : Program} {w : World} {K : Fg} {mg : Str → Option Value} {base : Heap} {x0 q0 : Str} {fa : Addr} {N : List Str} {p0 p1 : Str} {args : Arguments} {body : List Stmt} {sc : Scope} {k : Nat} {t : S → Tr} {t' : S' → Tr} {f : α0 → S → M (ρ × S')} {fd : FuncData} (F : FunD K x0 q0 args body sc [] [] fa fd) (Sc0 : FnScope N [p0, p1] sc)
    (h : ∀ (cdv : Value) (A : Around) (outer : List Env) (s : Shared) (H : Hp) (E : XK), Room k (cxOf (L2.CX P w) P w K mg base N q0 sc fa cdv A outer s H E).A → ∀ (a0 : α0) (x : S) (b : Bs) (vx : V), JS (cxOf (L2.CX P w) P w K mg base N q0 sc fa cdv A outer s H E) K b ([.im (rp K a0), .tr true (pin vx (t x))] ++ List.replicate (N.length - 2) .no) E body tlFn (f a0 x) (pRt K b (R := PinT ρ S' t' vx))) : FnOk P w K mg base (L2.CX P w) (k + 1) fa fd [p0, p1] (spO2_1 K t t' f) := by
  refine F.ok Sc0 (fun vs H Q E hh => ?_) (fun cdv A outer s H vs Q E hr hh => ?_)
  · obtain ⟨a0, x, v0, v1, Hi, A, rfl, _⟩ := hh
    rfl
  · obtain ⟨a0, x, v0, v1, Hi, A0, rfl, sm, r0, g1, g2, q⟩ := hh
    have st : EnvOk ⟨Hi, H, A0⟩ _ _ Hi H := EnvOk.start (own := A0) (ps := [rp K a0, prV v1]) (vs := [v0, v1]) (N := N) sm rfl (Paired.cons r0 (Paired.cons rfl Paired.nil))
    exact ⟨_, pss_wp, (h cdv A outer s H E hr a0 x ⟨Hi, H, A0⟩ v1).go _ Hi H (st.adopt 1 noTr_start (by rw [List.length_append, List.length_map]; exact Nat.lt_of_lt_of_le (by show 1 < 2; decide) (Nat.le_add_right _ _)) rfl g1 g2) _ (fun σ' H' z => z) (PZ.of_fnP q)⟩
theorem mkFO2_1 {α0 ρ S S' : Type} [Py α0] [Py ρ] {P : Program} {w : World} {K : Fg} {mg : Str → Option Value} {base : Heap} {x0 : Str} {N : List Str} {p0 p1 : Str} {args : Arguments} {body : List Stmt} {sc : Scope} {k : Nat} {t : S → Tr} {t' : S' → Tr} {f : α0 → S → M (ρ × S')} (F : ∃ fd, FunD K x0 x0 args body sc [] [] (He.ga K x0) fd) (g : mg x0 = some (.ref (He.ga K x0))) (Sc0 : FnScope N [p0, p1] sc)
    (hb : ∀ (kV doc pm : Value) (an : Option Addr) (cdv ct : Value) (us : List Value), us.length = [p0, p1].length → bindArgs (PySem.W.fnOf x0 x0 args body sc .none kV doc pm an cdv ct) ⟨us, []⟩ = pure ([p0, p1].zip us))
    (h : ∀ (cdv : Value) (A : Around) (outer : List Env) (s : Shared) (H : Hp) (E : XK), Room k (cxOf (L2.CX P w) P w K mg base N x0 sc (He.ga K x0) cdv A outer s H E).A → ∀ (a0 : α0) (x : S) (b : Bs) (vx : V), JS (cxOf (L2.CX P w) P w K mg base N x0 sc (He.ga K x0) cdv A outer s H E) K b ([.im (rp K a0), .tr true (pin vx (t x))] ++ List.replicate (N.length - 2) .no) E body tlFn (f a0 x) (pRt K b (R := PinT ρ S' t' vx))) : OkF P w K mg base x0 (k + 1) (spO2_1 K t t' f) := by
  obtain ⟨fd, F⟩ := F
  exact ⟨_, fd, [p0, p1], g, F.kp, mkCO2_1 F Sc0 h, F.bindsN hb⟩
end G

set_option Elab.async false
set_option linter.all false
set_option maxRecDepth 100000
set_option maxHeartbeats 2000000
namespace G
open PySem L2 TL
/-! what is told of it does not rest on objects of some sort -/
class Wo (B : HO → Prop) (α : Type) [Py α] : Prop where
  go : ∀ {K : Fg} {H H' : Hp} {a : α} {v : V}, (∀ x o, H x = some o → ¬ B o → H' x = some o) → Py.rep K H a v → Py.rep K H' a v
class TupNot (B : HO → Prop) : Prop where
  t : ∀ xs, ¬ B (.tup xs)
  f : ∀ o xs, ¬ B (.frz o (.tup xs))
class LstNot (B : HO → Prop) : Prop where
  t : ∀ xs, ¬ B (.lst xs)
  f : ∀ o xs, ¬ B (.frz o (.lst xs))
class DicNot (B : HO → Prop) : Prop where
  t : ∀ kvs, ¬ B (.dK kvs)
def isD (o : HO) : Prop := ∃ kvs, o = .dK kvs
def isL (o : HO) : Prop := ∃ xs, o = .lst xs
instance : TupNot isD := ⟨fun _ ⟨_, h⟩ => (nomatch h), fun _ _ ⟨_, h⟩ => (nomatch h)⟩
instance : TupNot isL := ⟨fun _ ⟨_, h⟩ => (nomatch h), fun _ _ ⟨_, h⟩ => (nomatch h)⟩
instance : LstNot isD := ⟨fun _ ⟨_, h⟩ => (nomatch h), fun _ _ ⟨_, h⟩ => (nomatch h)⟩
instance : DicNot isL := ⟨fun _ ⟨_, h⟩ => nomatch h⟩
section
variable {B : HO → Prop} {K : Fg} {H H' : Hp} {α β γ δ : Type}
theorem sqt_wo [TupNot B] {a : Addr} {xs : List V} (e : ∀ x o, H x = some o → ¬ B o → H' x = some o) (h : SqT K H a xs) : SqT K H' a xs := by
  rcases h with (h | ⟨o, h⟩) | h
  · exact .inl (.inl (e _ _ h (TupNot.t _)))
  · exact .inl (.inr ⟨o, e _ _ h (TupNot.f _ _)⟩)
  · exact .inr h
theorem sql_wo [LstNot B] {a : Addr} {xs : List V} (e : ∀ x o, H x = some o → ¬ B o → H' x = some o) (h : SqL K H a xs) : SqL K H' a xs := by
  rcases h with (h | ⟨o, h⟩) | h
  · exact .inl (.inl (e _ _ h (LstNot.t _)))
  · exact .inl (.inr ⟨o, e _ _ h (LstNot.f _ _)⟩)
  · exact .inr h
theorem rl_wo [Py α] [Wo B α] {xs : List α} {vs : List V} (e : ∀ x o, H x = some o → ¬ B o → H' x = some o) (h : Rl K H xs vs) : Rl K H' xs vs := Paired.mapP h fun _ _ r => Wo.go e r
instance : Wo B Int := ⟨fun _ h => h⟩
instance : Wo B Bool := ⟨fun _ h => h⟩
instance : Wo B Unit := ⟨fun _ h => h⟩
instance : Wo B Tx := ⟨fun _ h => h⟩
instance [Py α] [TupNot B] [Wo B α] : Wo B (Tup α) := ⟨fun e ⟨p, vs, h1, h2, h3⟩ => ⟨p, vs, h1, sqt_wo e h2, rl_wo e h3⟩⟩
instance [Py α] [LstNot B] [Wo B α] : Wo B (List α) := ⟨fun e ⟨p, vs, h1, h2, h3⟩ => ⟨p, vs, h1, sql_wo e h2, rl_wo e h3⟩⟩
instance [Py α] [Py β] [TupNot B] [Wo B α] [Wo B β] : Wo B (α × β) := ⟨fun e ⟨p, v1, v2, h1, h2, h3, h4⟩ => ⟨p, v1, v2, h1, sqt_wo e h2, Wo.go e h3, Wo.go e h4⟩⟩
instance [Py α] [Py β] [Py γ] [TupNot B] [Wo B α] [Wo B β] [Wo B γ] : Wo B (T3 α β γ) := ⟨fun e ⟨p, v1, v2, v3, h1, h2, h3, h4, h5⟩ => ⟨p, v1, v2, v3, h1, sqt_wo e h2, Wo.go e h3, Wo.go e h4, Wo.go e h5⟩⟩
instance [Py α] [Py β] [Py γ] [Py δ] [TupNot B] [Wo B α] [Wo B β] [Wo B γ] [Wo B δ] : Wo B (T4 α β γ δ) := ⟨fun e ⟨p, v1, v2, v3, v4, h1, h2, h3, h4, h5, h6⟩ => ⟨p, v1, v2, v3, v4, h1, sqt_wo e h2, Wo.go e h3, Wo.go e h4, Wo.go e h5, Wo.go e h6⟩⟩
instance [Py α] [Wo B α] : Wo B (Option α) := ⟨fun {K H H' a v} e h => by
  cases a with
  | none => exact h
  | some a => exact Wo.go (α := α) e h⟩
instance [Py α] [Py β] [Wo B α] [Wo B β] : Wo B (α ⊕ β) := ⟨fun {K H H' a v} e h => by
  cases a with
  | inl a => exact Wo.go (α := α) e h
  | inr a => exact Wo.go (α := β) e h⟩
class WoC (B : HO → Prop) (c : α → Ct) : Prop where
  go : ∀ {H H' : Hp} {a : α} {o : HO}, (∀ x o, H x = some o → ¬ B o → H' x = some o) → (c a).r H o → (c a).r H' o
instance {K : Fg} [Py α] [Wo B α] : WoC B (ctL K (α := α)) := ⟨fun e ⟨vs, h1, h2⟩ => ⟨vs, h1, rl_wo e h2⟩⟩
instance {K : Fg} [Py α] [Wo B α] : WoC B (ctD K (α := α)) := ⟨fun e ⟨kvs, h1, h2⟩ => ⟨kvs, h1, Paired.mapP h2 fun _ _ r => ⟨r.1, Wo.go e r.2⟩⟩⟩
/-- all that a tree stands on is of this sort -/
def TreeB (t : Tr) (B : HO → Prop) : Prop := ∀ Hi H A v, t.r Hi H A v → ∀ a, a ∈ A → ∃ o, H a = some o ∧ B o
theorem treeB_D [Py α] {d : List (Tx × α)} : TreeB (one (ctD K d)) isD := fun Hi H A v ⟨a, o, h1, h2, h3, kvs, h4, _⟩ x hx => by
  subst h2
  cases List.mem_singleton.mp hx
  exact ⟨o, h3, kvs, h4⟩
theorem treeB_L [Py α] {xs : List α} : TreeB (one (ctL K xs)) isL := fun Hi H A v ⟨a, o, h1, h2, h3, vs, h4, _⟩ x hx => by
  subst h2
  cases List.mem_singleton.mp hx
  exact ⟨o, h3, vs, h4⟩
theorem TreeB.pin {t : Tr} {v0 : V} (h : TreeB t B) : TreeB (G.pin v0 t) B := fun Hi H A v ⟨_, r⟩ => h Hi H A v r
theorem Tells.pin {t : Tr} {p : Pr} {v0 : V} (h : Tells t p) : Tells (G.pin v0 t) p := fun Hi H A v hn s ⟨_, r⟩ => h Hi H A v hn s r
theorem tells_D [Py α] {d : List (Tx × α)} : Tells (one (ctD K d)) (rp K (α := Dic α) d) := tells_one fun Hi a Hi' o sm hr ha => by
  obtain ⟨kvs, rfl, r⟩ := hr
  exact ⟨a, kvs, rfl, ha, r.mono sm⟩
end
/-! ### what a tree tells, for a while -/
def cutA (A : List Addr) (H : Hp) : Hp := fun a => if a ∈ A then none else H a
theorem cutA_nx {Hi H Hi2 H2 : Hp} {A : List Addr} (hn : ∀ a, a ∈ A → Hi a = none) (n : Nx (plus Hi H A) H Hi2 H2) : Nx Hi H (cutA A Hi2) H2 :=
  ⟨fun a o h => by
    have na : a ∉ A := fun z => by rw [hn a z] at h; cases h
    show (if a ∈ A then none else Hi2 a) = some o
    rw [if_neg na]
    exact n.im a o (by rw [plus_out na]; exact h), n.al, fun a o h => by
    by_cases z : a ∈ A
    · rw [show cutA A Hi2 a = none from if_pos z] at h; cases h
    · rw [show cutA A Hi2 a = Hi2 a from if_neg z] at h; exact n.sub a o h, fun a h1 h2 => by
    by_cases z : a ∈ A
    · exact if_pos z
    · rw [show cutA A Hi2 a = Hi2 a from if_neg z]
      exact n.cap a h1 (by rw [plus_out z]; exact h2)⟩
theorem cutA_keep {B : HO → Prop} {Hi H Hi2 H2 : Hp} {A : List Addr} {t : Tr} {v : V} (tb : TreeB t B) (r : t.r Hi H A v) (n : Nx (plus Hi H A) H Hi2 H2) : ∀ x o, Hi2 x = some o → ¬ B o → cutA A Hi2 x = some o := fun x o h nb => by
  by_cases z : x ∈ A
  · obtain ⟨o', h1, h2⟩ := tb Hi H A v r x z
    have := n.im x o' (by rw [plus_in z]; exact h1)
    rw [this] at h
    cases h
    exact absurd h2 nb
  · rw [show cutA A Hi2 x = Hi2 x from if_neg z]; exact h
theorem PX.thawN {K : Fg} {E : XK} {α : Type} {m : M α} {Hi H : Hp} {A : List Addr} {k k' : α → Hp → Hp → Prop} (hn : ∀ a, a ∈ A → Hi a = none) (h : PX K E m Hi H k) (i : ∀ a Hi2 H2, Nx (plus Hi H A) H Hi2 H2 → k a (cutA A Hi2) H2 → k' a Hi2 H2) : PX K E m (plus Hi H A) H k' := by
  cases m with
  | ok a => exact fun Hi2 H2 n => i a Hi2 H2 n (h _ _ (cutA_nx hn n))
  | error z =>
    cases z with
    | rs c => exact fun Hi2 H2 n => h _ _ (cutA_nx hn n)
    | st => exact h
section
variable {X : Cx} {K : Fg} {mg : Str → Option Value} {b : Bs} {L : List En} {E : XK} {e ed e1 e2 c : Expr} {st : Stmt} {rest a bb : List Stmt} {α β S S' R : Type} {pos p2 p' : Pos} {tl : Ends → Prop} {post : α → Ends → Prop} {put : Tr → List En} {t : Tr} {p : Pr} {w : Bool} {B : HO → Prop}
theorem je_thaw [Py α] [Wo B α] {m : M α} (i : Nat) (ts : Tells t p) (tb : TreeB t B) (h : ∀ b', JE X K b' (L.set i (.im p)) E e m) (hL : L[i]? = some (.tr w t) := by rfl) : JE X K b L E e m :=
  ⟨fun σ Hi H en Q hq => by
    obtain ⟨A, v, b', h1, h2, h3, h4⟩ := en.thawA hL ts
    exact (h b').go σ _ H h4 Q (PX.thawN h2 hq fun a Hi2 H2 n k u ru => k u (Wo.go (cutA_keep tb h1 n) ru))⟩
theorem jf_thaw {m : M α} {cf : α → Ct} [WoC B cf] (i : Nat) (ts : Tells t p) (tb : TreeB t B) (h : ∀ b', JF X K b' (L.set i (.im p)) E e cf m) (hL : L[i]? = some (.tr w t) := by rfl) : JF X K b L E e cf m :=
  ⟨fun σ Hi H en Q hq => by
    obtain ⟨A, v, b', h1, h2, h3, h4⟩ := en.thawA hL ts
    exact (h b').go σ _ H h4 Q (PX.thawN h2 hq fun a Hi2 H2 n k q o g1 g2 g3 g4 => k q o g1 g2 (by
      unfold cutA
      split
      · rfl
      · exact g3) (WoC.go (cutA_keep tb h1 n) g4))⟩
theorem jt_thawG {m : M Bool} (i : Nat) (ts : Tells t p) (h : ∀ b', JT X K b' (L.set i (.im p)) E e m) (hL : L[i]? = some (.tr w t) := by rfl) : JT X K b L E e m :=
  ⟨fun σ Hi H en Q hq => by
    obtain ⟨A, v, b', h1, h2, h3, h4⟩ := en.thawA hL ts
    exact (h b').go σ _ H h4 Q (PX.thawN h2 hq fun a Hi2 H2 n k => k)⟩
theorem js_frzG {m : M α} {post : α → Ends → Prop} (i : Nat) (ts : Tells t p) (h : JS X K b (L.set i (.im p)) E rest tl m post) (hL : L[i]? = some (.tr false t) := by rfl) : JS X K b L E rest tl m post :=
  ⟨fun σ Hi H en D ht hz => by
    obtain ⟨Hi', _, en'⟩ := en.frzT hL ts
    exact h.go σ Hi' H en' D ht hz⟩
/-! ### dicts and lists at a place -/
theorem jd_at [Py α] {d : List (Tx × α)} (h : JP X b L e (one (ctD K d)) put) : JD X K b L E e (pure d : M (Dic α)) :=
  ⟨fun σ Hi H en Q hq => by
    obtain ⟨v, at0, go⟩ := h.go σ Hi H en
    obtain ⟨q, o, rfl, h2, ⟨kvs, rfl, h3⟩, _⟩ := at0.one (c' := ctD K d) en.rf
    exact go Q (PX.here (α := Dic α) (a := d) hq en.sub q kvs h2 h3)⟩
theorem j1_dputP [Py α] {m : M α} {mk : M Tx} {d : List (Tx × α)} (hu : X.A.units + 64 < cLine) (h : JE X K b L E e m) (hp : JP X b L ed (one (ctD K d)) put) (hk : JE X K b L E e1 mk) (hs : swapsWith e (some (.Subscript ed e1 p')) pos.line X.env = pure false := by rfl) :
    J1 X K b L E (.Assign [.Subscript ed e1 p'] e pos) (m >>= fun a => mk >>= fun k => chk (d.length < SZ) >>= fun _ => (pure (dputM d k a) : M (List (Tx × α)))) (fun d' => put (one (ctD K d'))) :=
  ⟨fun σ Hi H en D hz => by
    refine PS.wp (ps_dput (by omega) pe_wp pe_wp pe_wp hs) (h.go σ Hi H en _ ((PZ.bind en hz).imp fun a Hi1 H1 y1 q1 v rv => ?_))
    have en1 := en.nx y1
    obtain ⟨v0, at0, go⟩ := hp.go σ Hi1 H1 en1
    refine go _ (hk.go σ Hi1 H1 en1 _ ((PZ.bind en1 q1).imp fun k Hi2 H2 y2 q2 w rw' => ?_))
    obtain ⟨c, q2⟩ := PZ.chk q2
    have rw' : w = V.str (G.S k) := rw'
    subst rw'
    obtain ⟨q, o, rfl, h2, ⟨kvs, rfl, h3⟩, up⟩ := at0.one (c' := ctD K (dputM d k a)) y2
    refine ⟨q, _, rfl, DPut.k (k := kT k) h2 (by rw [← h3.length]; exact c), ?_⟩
    exact (show ∀ σ' Hi' H', EnvOk b (put (one (ctD K (dputM d k a)))) σ' Hi' H' → D.nx σ' H' from q2) _ Hi2 _ (up _ ⟨_, rfl, h3.put (Py.mono y2.im rv)⟩)⟩
theorem jp_set {put' : Tr → List En} (h : JP X b L e t put) (hp : ∀ t', put t' = put' t' := by intro _; rfl) : JP X b L e t put' := by
  have : put = put' := funext hp
  exact this ▸ h
/-- list(d): the keys of a dict -/
theorem je_keys [Py α] {m : M (Dic α)} (hc : X.calm = true) (hm : mg "list" = none) (h : JD X K b L E e m) (hK : X.K = K := by rfl) (hM : X.mg = mg := by rfl)
    (hg : Gl X "list" := by rfl) (he : starEach [e] X.env = (false, eval e X.env) :: starEach [] X.env := by rfl) (hpl : (backTo pos (starEach [] X.env)).any (·.1) = false := by rfl) : JE X K b L E (.Call (.Name "list" p2) [e] [] pos) (m >>= fun d => (pure (List.map (fun (q : Tx × α) => q.1) d) : M (List Tx))) :=
  ⟨fun σ Hi H en Q hq => PE.wp (pe_callTy (call_listD hc) hg (by rw [hM]; exact hm) bt_list (pa_cons pe_wp pa_nil he) (by decide) (by decide) he hpl) (h.go σ Hi H en _ ((PX.bind hq).imp fun d Hi1 H1 n1 k q kvs g1 g2 => by
    refine ⟨q, kvs, rfl, .inl g1, fun r hr => ?_⟩
    refine (PX.go (a := List.map (fun (q : Tx × α) => q.1) d) k (Nx.new n1.sub hr)) _ ⟨r, _, rfl, .of upd_same, ?_⟩
    clear hq k g1
    induction g2 with
    | nil => exact .nil
    | cons r' _ ih => exact .cons (show kV _ = V.str (G.S _) from by rw [show _ = _ from r'.1]; rfl) ih))⟩
end
end G

set_option Elab.async false
set_option linter.all false
set_option maxRecDepth 100000
set_option maxHeartbeats 2000000
namespace G
open PySem L2 TL
/-! ### defs that return a new object -/
def FrT (α : Type) (c : α → Ct) : Type := α
instance instRtFr {α : Type} {c : α → Ct} : Rt (FrT α c) := ⟨fun K own Hb Hi H x v => ∃ p o, v = .ref p ∧ H p = some o ∧ Hi p = none ∧ Hb p = none ∧ (c x).r Hi o⟩
theorem none_back {H H' : Hp} (s : Same H H') {p : Addr} (h : H' p = none) : H p = none := by
  cases q : H p with
  | none => rfl
  | some u => rw [s p u q] at h; cases h
theorem PZ.of_fnF {K : Fg} {E : XK} {α : Type} {c : α → Ct} {m : M α} {Hi H : Hp} {Q : VK} {bkk ctt : L2.St → Hp → Prop} (h : PF K E c m Hi H Q) : PZ K E ⟨Hi, H, []⟩ m (fun a => pRt K ⟨Hi, H, []⟩ (R := FrT α c) a { nx := fun _ H' => Q .non H', rt := Q, bk := bkk, ct := ctt }) := by
  have key : ∀ {Hi' H' : Hp}, Ok ⟨Hi, H, []⟩ Hi' H' → Nx Hi H Hi' H' := fun {Hi' H'} o => ⟨o.base, fun a u e => o.fr a u (by simp) e, o.sub, o.cap⟩
  cases m with
  | ok a => exact fun v Hi' H' o ⟨p, ob, e, h1, h2, h3, h4⟩ => by subst e; exact h Hi' H' (key o) p ob h1 h3 h2 h4
  | error z =>
    cases z with
    | rs c => exact fun Hi' H' o => h Hi' H' (key o)
    | st => exact h
theorem EnvOk.mu0 {b : Bs} {L : List En} {σ : L2.St} {Hi H : Hp} (e : EnvOk b L σ Hi H) (i : Nat) (c : Ct) (h : L[i]? = some (.mu c)) : ∃ (a : Addr) (o : HO), σ[i]? = some (some (V.ref a)) ∧ H a = some o ∧ Hi a = none ∧ b.H a = none ∧ c.r Hi o := by
  obtain ⟨f, ft, fd⟩ := e.fp
  obtain ⟨v, h1, ⟨a, o, rfl, h4, h5, h6⟩, h3⟩ := ft i false _ h
  obtain ⟨k1, k2, k3⟩ := h3 a (by rw [h4]; exact List.mem_singleton.mpr rfl)
  exact ⟨a, o, h1, h5, k2, k3.elim (fun z => nomatch z.1) id, h6⟩
theorem none_of_keep {b : Bs} {L : List En} {σ : L2.St} {Hi H : Hp} (en : EnvOk b L σ Hi H) {p : Addr} (h : H p = none) : b.H p = none := by
  cases q : b.H p with
  | none => rfl
  | some u => exact absurd h (en.ok.keep p (by rw [q]; exact fun z => nomatch z))
section
variable {X : Cx} {K : Fg} {b : Bs} {L : List En} {E : XK} {e : Expr} {rest : List Stmt} {α S : Type} {pos pn : Pos} {tl : Ends → Prop} {c : α → Ct}
theorem js_retF (i : Nat) {x : Str} {a : α} (hL : L[i]? = some (.mu (c a)) := by rfl) (hN : X.N[i]? = some x := by rfl) (hv : Vis X.env.scope x := by first | exact Or.inl rfl | exact Or.inr (Or.inl rfl) | exact Or.inr (Or.inr rfl))
    (hd : (x == ("__debug__" : Str)) = false := by decide) (hcd : (x == ("__classdict__" : Str)) = false := by decide) : JS X K b L E (.Return (some (.Name x pn)) pos :: rest) tl (pure a : M α) (pRt K b (R := FrT α c)) :=
  ⟨fun σ Hi H en D _ hz => by
    obtain ⟨p, o, h1, h2, h3, h4, h5⟩ := en.mu0 i (c a) hL
    exact PSs.wp (pss_cons (ps_ret (pe_var hN hv hd hcd)) pss_wp) ⟨_, h1, (show pRt K b (R := FrT α c) a D from hz) _ Hi H en.ok ⟨p, o, rfl, h2, h3, h4, h5⟩⟩⟩
theorem js_retFL {Lf : S → List En} (i : Nat) {x : Str} {a : α} (hL : L[i]? = some (.mu (c a)) := by rfl) (hN : X.N[i]? = some x := by rfl) (hv : Vis X.env.scope x := by first | exact Or.inl rfl | exact Or.inr (Or.inl rfl) | exact Or.inr (Or.inr rfl))
    (hd : (x == ("__debug__" : Str)) = false := by decide) (hcd : (x == ("__classdict__" : Str)) = false := by decide) : JS X K b L E (.Return (some (.Name x pn)) pos :: rest) tl (pure (.rt a) : M (Tl S (FrT α c))) (pTl K b Lf) :=
  ⟨fun σ Hi H en D _ hz => by
    obtain ⟨p, o, h1, h2, h3, h4, h5⟩ := en.mu0 i (c a) hL
    exact PSs.wp (pss_cons (ps_ret (pe_var hN hv hd hcd)) pss_wp) ⟨_, h1, (show pRt K b (R := FrT α c) a D from hz) _ Hi H en.ok ⟨p, o, rfl, h2, h3, h4, h5⟩⟩⟩
theorem js_retFJ {m : M α} (h : JF X K b L E e c m) : JS X K b L E (.Return (some e) pos :: rest) tl m (pRt K b (R := FrT α c)) :=
  ⟨fun σ Hi H en D _ hz => PSs.wp (pss_cons (ps_ret pe_wp) pss_wp) (h.go σ Hi H en D.rt ((PZ.px en hz).imp fun a Hi' H' x q p o h1 h2 h3 h4 => (show pRt K b (R := FrT α c) a D from q) _ Hi' H' (en.ok.nx x) ⟨p, o, rfl, h1, h3, none_of_keep en h2, h4⟩))⟩
theorem js_retFJL {m : M α} {Lf : S → List En} (h : JF X K b L E e c m) : JS X K b L E (.Return (some e) pos :: rest) tl (m >>= fun r => pure (.rt r) : M (Tl S (FrT α c))) (pTl K b Lf) :=
  ⟨fun σ Hi H en D _ hz => PSs.wp (pss_cons (ps_ret pe_wp) pss_wp) (h.go σ Hi H en D.rt ((PZ.bind en hz).imp fun a Hi' H' x q p o h1 h2 h3 h4 => (show pRt K b (R := FrT α c) a D from q) _ Hi' H' (en.ok.nx x) ⟨p, o, rfl, h1, h3, none_of_keep en h2, h4⟩))⟩
end
def spF1 (K : Fg) {α0 ρ : Type} [Py α0] (c : ρ → Ct) (f : α0 → M ρ) : Sp := fun vs H Q E => ∃ (a0 : α0) (v0 : V) (Hi : Hp), vs = [v0] ∧ Same Hi H ∧ Py.rep K Hi a0 v0 ∧ PF K E c (f a0) Hi H Q
theorem jf_call1 {α0 ρ : Type} [Py α0] {X : Cx} {K : Fg} {b : Bs} {L : List En} {E : XK} {e0 : Expr} {m0 : M α0} {c : ρ → Ct} {f : α0 → M ρ} {x : Str} {p pos : Pos} {k : Nat} (F : OkF X.prog X.w X.K X.mg X.base x k (spF1 K c f)) (hr : Room k X.A) (hx : Passes (L2.CX X.prog X.w) X E) (h0 : JE X K b L E e0 m0) (hg : Gl X x := by rfl) (hdb : (x == ("__debug__" : Str)) = false := by decide) (s0 : starEach [e0] X.env = (false, eval e0 X.env) :: starEach [] X.env := by rfl) (hpl : (backTo pos (starEach [] X.env)).any (·.1) = false := by rfl) : JF X K b L E (.Call (.Name x p) [e0] [] pos) c (m0 >>= fun a0 => f a0) :=
  ⟨fun σ Hi0 H0 en0 Q z0 => by
    obtain ⟨fa, fd, ps, F1, F2, F3, F4⟩ := F.ex
    refine PE.wp (pe_call F3 hr hg F1 F2 F4 .nil hx (pa_cons pe_wp pa_nil s0) hdb s0 hpl) ?_
    refine h0.go σ Hi0 H0 en0 _ ((PX.bind z0).imp fun a0 Hi1 H1 n1 k1 v0 r0 => ?_)
    have en1 := en0.nx n1
    refine ⟨a0, v0, Hi1, rfl, en1.sub, r0, ?_⟩
    exact PX.imp k1 fun r Hi' H' y z q o g1 g2 g3 g4 => z q o g1 (none_back n1.al g2) g3 g4⟩
theorem mkFF1 {α0 ρ : Type} [Py α0] {P : Program} {w : World} {K : Fg} {mg : Str → Option Value} {base : Heap} {x0 : Str} {N : List Str} {p0 : Str} {args : Arguments} {body : List Stmt} {sc : Scope} {k : Nat} {c : ρ → Ct} {f : α0 → M ρ} (F : ∃ fd, FunD K x0 x0 args body sc [] [] (He.ga K x0) fd) (g : mg x0 = some (.ref (He.ga K x0))) (Sc0 : FnScope N [p0] sc)
    (hb : ∀ (kV doc pm : Value) (an : Option Addr) (cdv ct : Value) (us : List Value), us.length = [p0].length → bindArgs (PySem.W.fnOf x0 x0 args body sc .none kV doc pm an cdv ct) ⟨us, []⟩ = pure ([p0].zip us))
    (h : ∀ (cdv : Value) (A : Around) (outer : List Env) (s : Shared) (H : Hp) (E : XK), Room k (cxOf (L2.CX P w) P w K mg base N x0 sc (He.ga K x0) cdv A outer s H E).A → ∀ (a0 : α0) (b : Bs), b.own = [] → JS (cxOf (L2.CX P w) P w K mg base N x0 sc (He.ga K x0) cdv A outer s H E) K b ([.im (rp K a0)] ++ List.replicate (N.length - 1) .no) E body tlFn (f a0) (pRt K b (R := FrT ρ c))) : OkF P w K mg base x0 (k + 1) (spF1 K c f) := by
  obtain ⟨fd, F⟩ := F
  refine ⟨_, fd, [p0], g, F.kp, F.ok Sc0 (fun vs H Q E hh => ?_) (fun cdv A outer s H vs Q E hr hh => ?_), F.bindsN hb⟩
  · obtain ⟨a0, v0, Hi, rfl, _⟩ := hh
    rfl
  · obtain ⟨a0, v0, Hi, rfl, sm, r0, q⟩ := hh
    exact ⟨_, pss_wp, (h cdv A outer s H E hr a0 ⟨Hi, H, []⟩ rfl).go _ Hi H (EnvOk.start (ps := [rp K a0]) sm rfl (Paired.cons r0 Paired.nil)) _ (fun σ' H' z => z) (PZ.of_fnF q)⟩
def spF2 (K : Fg) {α0 α1 ρ : Type} [Py α0] [Py α1] (c : ρ → Ct) (f : α0 → α1 → M ρ) : Sp := fun vs H Q E => ∃ (a0 : α0) (a1 : α1) (v0 v1 : V) (Hi : Hp), vs = [v0, v1] ∧ Same Hi H ∧ Py.rep K Hi a0 v0 ∧ Py.rep K Hi a1 v1 ∧ PF K E c (f a0 a1) Hi H Q
theorem jf_call2 {α0 α1 ρ : Type} [Py α0] [Py α1] {X : Cx} {K : Fg} {b : Bs} {L : List En} {E : XK} {e0 e1 : Expr} {m0 : M α0} {m1 : M α1} {c : ρ → Ct} {f : α0 → α1 → M ρ} {x : Str} {p pos : Pos} {k : Nat} (F : OkF X.prog X.w X.K X.mg X.base x k (spF2 K c f)) (hr : Room k X.A) (hx : Passes (L2.CX X.prog X.w) X E) (h0 : JE X K b L E e0 m0) (h1 : JE X K b L E e1 m1) (hg : Gl X x := by rfl) (hdb : (x == ("__debug__" : Str)) = false := by decide) (s0 : starEach [e0, e1] X.env = (false, eval e0 X.env) :: starEach [e1] X.env := by rfl) (s1 : starEach [e1] X.env = (false, eval e1 X.env) :: starEach [] X.env := by rfl) (hpl : (backTo pos (starEach [e1] X.env)).any (·.1) = false := by rfl) : JF X K b L E (.Call (.Name x p) [e0, e1] [] pos) c (m0 >>= fun a0 => m1 >>= fun a1 => f a0 a1) :=
  ⟨fun σ Hi0 H0 en0 Q z0 => by
    obtain ⟨fa, fd, ps, F1, F2, F3, F4⟩ := F.ex
    refine PE.wp (pe_call F3 hr hg F1 F2 F4 .nil hx (pa_cons pe_wp (pa_cons pe_wp pa_nil s1) s0) hdb s0 hpl) ?_
    refine h0.go σ Hi0 H0 en0 _ ((PX.bind z0).imp fun a0 Hi1 H1 n1 k1 v0 r0 => ?_)
    have en1 := en0.nx n1
    refine h1.go σ Hi1 H1 en1 _ ((PX.bind k1).imp fun a1 Hi2 H2 n2 k2 v1 r1 => ?_)
    have en2 := en1.nx n2
    have r0 := Py.mono n2.im r0
    refine ⟨a0, a1, v0, v1, Hi2, rfl, en2.sub, r0, r1, ?_⟩
    exact PX.imp k2 fun r Hi' H' y z q o g1 g2 g3 g4 => z q o g1 (none_back (n1.trans n2).al g2) g3 g4⟩
theorem mkFF2 {α0 α1 ρ : Type} [Py α0] [Py α1] {P : Program} {w : World} {K : Fg} {mg : Str → Option Value} {base : Heap} {x0 : Str} {N : List Str} {p0 p1 : Str} {args : Arguments} {body : List Stmt} {sc : Scope} {k : Nat} {c : ρ → Ct} {f : α0 → α1 → M ρ} (F : ∃ fd, FunD K x0 x0 args body sc [] [] (He.ga K x0) fd) (g : mg x0 = some (.ref (He.ga K x0))) (Sc0 : FnScope N [p0, p1] sc)
    (hb : ∀ (kV doc pm : Value) (an : Option Addr) (cdv ct : Value) (us : List Value), us.length = [p0, p1].length → bindArgs (PySem.W.fnOf x0 x0 args body sc .none kV doc pm an cdv ct) ⟨us, []⟩ = pure ([p0, p1].zip us))
    (h : ∀ (cdv : Value) (A : Around) (outer : List Env) (s : Shared) (H : Hp) (E : XK), Room k (cxOf (L2.CX P w) P w K mg base N x0 sc (He.ga K x0) cdv A outer s H E).A → ∀ (a0 : α0) (a1 : α1) (b : Bs), b.own = [] → JS (cxOf (L2.CX P w) P w K mg base N x0 sc (He.ga K x0) cdv A outer s H E) K b ([.im (rp K a0), .im (rp K a1)] ++ List.replicate (N.length - 2) .no) E body tlFn (f a0 a1) (pRt K b (R := FrT ρ c))) : OkF P w K mg base x0 (k + 1) (spF2 K c f) := by
  obtain ⟨fd, F⟩ := F
  refine ⟨_, fd, [p0, p1], g, F.kp, F.ok Sc0 (fun vs H Q E hh => ?_) (fun cdv A outer s H vs Q E hr hh => ?_), F.bindsN hb⟩
  · obtain ⟨a0, a1, v0, v1, Hi, rfl, _⟩ := hh
    rfl
  · obtain ⟨a0, a1, v0, v1, Hi, rfl, sm, r0, r1, q⟩ := hh
    exact ⟨_, pss_wp, (h cdv A outer s H E hr a0 a1 ⟨Hi, H, []⟩ rfl).go _ Hi H (EnvOk.start (ps := [rp K a0, rp K a1]) sm rfl (Paired.cons r0 (Paired.cons r1 Paired.nil))) _ (fun σ' H' z => z) (PZ.of_fnF q)⟩
def spF3 (K : Fg) {α0 α1 α2 ρ : Type} [Py α0] [Py α1] [Py α2] (c : ρ → Ct) (f : α0 → α1 → α2 → M ρ) : Sp := fun vs H Q E => ∃ (a0 : α0) (a1 : α1) (a2 : α2) (v0 v1 v2 : V) (Hi : Hp), vs = [v0, v1, v2] ∧ Same Hi H ∧ Py.rep K Hi a0 v0 ∧ Py.rep K Hi a1 v1 ∧ Py.rep K Hi a2 v2 ∧ PF K E c (f a0 a1 a2) Hi H Q
theorem jf_call3 {α0 α1 α2 ρ : Type} [Py α0] [Py α1] [Py α2] {X : Cx} {K : Fg} {b : Bs} {L : List En} {E : XK} {e0 e1 e2 : Expr} {m0 : M α0} {m1 : M α1} {m2 : M α2} {c : ρ → Ct} {f : α0 → α1 → α2 → M ρ} {x : Str} {p pos : Pos} {k : Nat} (F : OkF X.prog X.w X.K X.mg X.base x k (spF3 K c f)) (hr : Room k X.A) (hx : Passes (L2.CX X.prog X.w) X E) (h0 : JE X K b L E e0 m0) (h1 : JE X K b L E e1 m1) (h2 : JE X K b L E e2 m2) (hg : Gl X x := by rfl) (hdb : (x == ("__debug__" : Str)) = false := by decide) (s0 : starEach [e0, e1, e2] X.env = (false, eval e0 X.env) :: starEach [e1, e2] X.env := by rfl) (s1 : starEach [e1, e2] X.env = (false, eval e1 X.env) :: starEach [e2] X.env := by rfl) (s2 : starEach [e2] X.env = (false, eval e2 X.env) :: starEach [] X.env := by rfl) (hpl : (backTo pos (starEach [e1, e2] X.env)).any (·.1) = false := by rfl) : JF X K b L E (.Call (.Name x p) [e0, e1, e2] [] pos) c (m0 >>= fun a0 => m1 >>= fun a1 => m2 >>= fun a2 => f a0 a1 a2) :=
  ⟨fun σ Hi0 H0 en0 Q z0 => by
    obtain ⟨fa, fd, ps, F1, F2, F3, F4⟩ := F.ex
    refine PE.wp (pe_call F3 hr hg F1 F2 F4 .nil hx (pa_cons pe_wp (pa_cons pe_wp (pa_cons pe_wp pa_nil s2) s1) s0) hdb s0 hpl) ?_
    refine h0.go σ Hi0 H0 en0 _ ((PX.bind z0).imp fun a0 Hi1 H1 n1 k1 v0 r0 => ?_)
    have en1 := en0.nx n1
    refine h1.go σ Hi1 H1 en1 _ ((PX.bind k1).imp fun a1 Hi2 H2 n2 k2 v1 r1 => ?_)
    have en2 := en1.nx n2
    have r0 := Py.mono n2.im r0
    refine h2.go σ Hi2 H2 en2 _ ((PX.bind k2).imp fun a2 Hi3 H3 n3 k3 v2 r2 => ?_)
    have en3 := en2.nx n3
    have r0 := Py.mono n3.im r0
    have r1 := Py.mono n3.im r1
    refine ⟨a0, a1, a2, v0, v1, v2, Hi3, rfl, en3.sub, r0, r1, r2, ?_⟩
    exact PX.imp k3 fun r Hi' H' y z q o g1 g2 g3 g4 => z q o g1 (none_back ((n1.trans n2).trans n3).al g2) g3 g4⟩
theorem mkFF3 {α0 α1 α2 ρ : Type} [Py α0] [Py α1] [Py α2] {P : Program} {w : World} {K : Fg} {mg : Str → Option Value} {base : Heap} {x0 : Str} {N : List Str} {p0 p1 p2 : Str} {args : Arguments} {body : List Stmt} {sc : Scope} {k : Nat} {c : ρ → Ct} {f : α0 → α1 → α2 → M ρ} (F : ∃ fd, FunD K x0 x0 args body sc [] [] (He.ga K x0) fd) (g : mg x0 = some (.ref (He.ga K x0))) (Sc0 : FnScope N [p0, p1, p2] sc)
    (hb : ∀ (kV doc pm : Value) (an : Option Addr) (cdv ct : Value) (us : List Value), us.length = [p0, p1, p2].length → bindArgs (PySem.W.fnOf x0 x0 args body sc .none kV doc pm an cdv ct) ⟨us, []⟩ = pure ([p0, p1, p2].zip us))
    (h : ∀ (cdv : Value) (A : Around) (outer : List Env) (s : Shared) (H : Hp) (E : XK), Room k (cxOf (L2.CX P w) P w K mg base N x0 sc (He.ga K x0) cdv A outer s H E).A → ∀ (a0 : α0) (a1 : α1) (a2 : α2) (b : Bs), b.own = [] → JS (cxOf (L2.CX P w) P w K mg base N x0 sc (He.ga K x0) cdv A outer s H E) K b ([.im (rp K a0), .im (rp K a1), .im (rp K a2)] ++ List.replicate (N.length - 3) .no) E body tlFn (f a0 a1 a2) (pRt K b (R := FrT ρ c))) : OkF P w K mg base x0 (k + 1) (spF3 K c f) := by
  obtain ⟨fd, F⟩ := F
  refine ⟨_, fd, [p0, p1, p2], g, F.kp, F.ok Sc0 (fun vs H Q E hh => ?_) (fun cdv A outer s H vs Q E hr hh => ?_), F.bindsN hb⟩
  · obtain ⟨a0, a1, a2, v0, v1, v2, Hi, rfl, _⟩ := hh
    rfl
  · obtain ⟨a0, a1, a2, v0, v1, v2, Hi, rfl, sm, r0, r1, r2, q⟩ := hh
    exact ⟨_, pss_wp, (h cdv A outer s H E hr a0 a1 a2 ⟨Hi, H, []⟩ rfl).go _ Hi H (EnvOk.start (ps := [rp K a0, rp K a1, rp K a2]) sm rfl (Paired.cons r0 (Paired.cons r1 (Paired.cons r2 Paired.nil)))) _ (fun σ' H' z => z) (PZ.of_fnF q)⟩
def spF4 (K : Fg) {α0 α1 α2 α3 ρ : Type} [Py α0] [Py α1] [Py α2] [Py α3] (c : ρ → Ct) (f : α0 → α1 → α2 → α3 → M ρ) : Sp := fun vs H Q E => ∃ (a0 : α0) (a1 : α1) (a2 : α2) (a3 : α3) (v0 v1 v2 v3 : V) (Hi : Hp), vs = [v0, v1, v2, v3] ∧ Same Hi H ∧ Py.rep K Hi a0 v0 ∧ Py.rep K Hi a1 v1 ∧ Py.rep K Hi a2 v2 ∧ Py.rep K Hi a3 v3 ∧ PF K E c (f a0 a1 a2 a3) Hi H Q
theorem jf_call4 {α0 α1 α2 α3 ρ : Type} [Py α0] [Py α1] [Py α2] [Py α3] {X : Cx} {K : Fg} {b : Bs} {L : List En} {E : XK} {e0 e1 e2 e3 : Expr} {m0 : M α0} {m1 : M α1} {m2 : M α2} {m3 : M α3} {c : ρ → Ct} {f : α0 → α1 → α2 → α3 → M ρ} {x : Str} {p pos : Pos} {k : Nat} (F : OkF X.prog X.w X.K X.mg X.base x k (spF4 K c f)) (hr : Room k X.A) (hx : Passes (L2.CX X.prog X.w) X E) (h0 : JE X K b L E e0 m0) (h1 : JE X K b L E e1 m1) (h2 : JE X K b L E e2 m2) (h3 : JE X K b L E e3 m3) (hg : Gl X x := by rfl) (hdb : (x == ("__debug__" : Str)) = false := by decide) (s0 : starEach [e0, e1, e2, e3] X.env = (false, eval e0 X.env) :: starEach [e1, e2, e3] X.env := by rfl) (s1 : starEach [e1, e2, e3] X.env = (false, eval e1 X.env) :: starEach [e2, e3] X.env := by rfl) (s2 : starEach [e2, e3] X.env = (false, eval e2 X.env) :: starEach [e3] X.env := by rfl) (s3 : starEach [e3] X.env = (false, eval e3 X.env) :: starEach [] X.env := by rfl) (hpl : (backTo pos (starEach [e1, e2, e3] X.env)).any (·.1) = false := by rfl) : JF X K b L E (.Call (.Name x p) [e0, e1, e2, e3] [] pos) c (m0 >>= fun a0 => m1 >>= fun a1 => m2 >>= fun a2 => m3 >>= fun a3 => f a0 a1 a2 a3) :=
  ⟨fun σ Hi0 H0 en0 Q z0 => by
    obtain ⟨fa, fd, ps, F1, F2, F3, F4⟩ := F.ex
    refine PE.wp (pe_call F3 hr hg F1 F2 F4 .nil hx (pa_cons pe_wp (pa_cons pe_wp (pa_cons pe_wp (pa_cons pe_wp pa_nil s3) s2) s1) s0) hdb s0 hpl) ?_
    refine h0.go σ Hi0 H0 en0 _ ((PX.bind z0).imp fun a0 Hi1 H1 n1 k1 v0 r0 => ?_)
    have en1 := en0.nx n1
    refine h1.go σ Hi1 H1 en1 _ ((PX.bind k1).imp fun a1 Hi2 H2 n2 k2 v1 r1 => ?_)
    have en2 := en1.nx n2
    have r0 := Py.mono n2.im r0
    refine h2.go σ Hi2 H2 en2 _ ((PX.bind k2).imp fun a2 Hi3 H3 n3 k3 v2 r2 => ?_)
    have en3 := en2.nx n3
    have r0 := Py.mono n3.im r0
    have r1 := Py.mono n3.im r1
    refine h3.go σ Hi3 H3 en3 _ ((PX.bind k3).imp fun a3 Hi4 H4 n4 k4 v3 r3 => ?_)
    have en4 := en3.nx n4
    have r0 := Py.mono n4.im r0
    have r1 := Py.mono n4.im r1
    have r2 := Py.mono n4.im r2
    refine ⟨a0, a1, a2, a3, v0, v1, v2, v3, Hi4, rfl, en4.sub, r0, r1, r2, r3, ?_⟩
    exact PX.imp k4 fun r Hi' H' y z q o g1 g2 g3 g4 => z q o g1 (none_back (((n1.trans n2).trans n3).trans n4).al g2) g3 g4⟩
theorem mkFF4 {α0 α1 α2 α3 ρ : Type} [Py α0] [Py α1] [Py α2] [Py α3] {P : Program} {w : World} {K : Fg} {mg : Str → Option Value} {base : Heap} {x0 : Str} {N : List Str} {p0 p1 p2 p3 : Str} {args : Arguments} {body : List Stmt} {sc : Scope} {k : Nat} {c : ρ → Ct} {f : α0 → α1 → α2 → α3 → M ρ} (F : ∃ fd, FunD K x0 x0 args body sc [] [] (He.ga K x0) fd) (g : mg x0 = some (.ref (He.ga K x0))) (Sc0 : FnScope N [p0, p1, p2, p3] sc)
    (hb : ∀ (kV doc pm : Value) (an : Option Addr) (cdv ct : Value) (us : List Value), us.length = [p0, p1, p2, p3].length → bindArgs (PySem.W.fnOf x0 x0 args body sc .none kV doc pm an cdv ct) ⟨us, []⟩ = pure ([p0, p1, p2, p3].zip us))
    (h : ∀ (cdv : Value) (A : Around) (outer : List Env) (s : Shared) (H : Hp) (E : XK), Room k (cxOf (L2.CX P w) P w K mg base N x0 sc (He.ga K x0) cdv A outer s H E).A → ∀ (a0 : α0) (a1 : α1) (a2 : α2) (a3 : α3) (b : Bs), b.own = [] → JS (cxOf (L2.CX P w) P w K mg base N x0 sc (He.ga K x0) cdv A outer s H E) K b ([.im (rp K a0), .im (rp K a1), .im (rp K a2), .im (rp K a3)] ++ List.replicate (N.length - 4) .no) E body tlFn (f a0 a1 a2 a3) (pRt K b (R := FrT ρ c))) : OkF P w K mg base x0 (k + 1) (spF4 K c f) := by
  obtain ⟨fd, F⟩ := F
  refine ⟨_, fd, [p0, p1, p2, p3], g, F.kp, F.ok Sc0 (fun vs H Q E hh => ?_) (fun cdv A outer s H vs Q E hr hh => ?_), F.bindsN hb⟩
  · obtain ⟨a0, a1, a2, a3, v0, v1, v2, v3, Hi, rfl, _⟩ := hh
    rfl
  · obtain ⟨a0, a1, a2, a3, v0, v1, v2, v3, Hi, rfl, sm, r0, r1, r2, r3, q⟩ := hh
    exact ⟨_, pss_wp, (h cdv A outer s H E hr a0 a1 a2 a3 ⟨Hi, H, []⟩ rfl).go _ Hi H (EnvOk.start (ps := [rp K a0, rp K a1, rp K a2, rp K a3]) sm rfl (Paired.cons r0 (Paired.cons r1 (Paired.cons r2 (Paired.cons r3 Paired.nil))))) _ (fun σ' H' z => z) (PZ.of_fnF q)⟩
end G

set_option Elab.async false
set_option linter.all false
set_option maxRecDepth 100000
set_option maxHeartbeats 2000000
namespace G
open PySem L2 TL PySem.Spec PyProof.Rows
/-! ### tuples that are known to have no dict of their own -/
def TupN (α : Type) := List α
def SqN (K : Fg) (H : Hp) (a : Addr) (xs : List V) : Prop := ∃ (o : Obj) (its : Array Value) (n : Nat), o.cls = .type "tuple" ∧ o.dict = none ∧ o.data = .seq its n ∧ (H a = some (.frz o (.tup xs)) ∨ (K.lookup a = some o ∧ its.size ≤ sizeLine ∧ Vals xs its.toList))
theorem SqN.t {K : Fg} {H : Hp} {a : Addr} {xs : List V} (h : SqN K H a xs) : SqT K H a xs := by
  obtain ⟨o, its, n, h1, h2, h3, h4 | ⟨h4, h5, h6⟩⟩ := h
  · exact .inl (.inr ⟨o, h4⟩)
  · exact .inr ⟨o, its, n, h4, h1, h3, h5, h6⟩
theorem SqN.mono {K : Fg} {H H' : Hp} {a : Addr} {xs : List V} (s : Same H H') (h : SqN K H a xs) : SqN K H' a xs := by
  obtain ⟨o, its, n, h1, h2, h3, h4⟩ := h
  exact ⟨o, its, n, h1, h2, h3, h4.elim (fun z => .inl (s _ _ z)) .inr⟩
theorem SqN.at {X : Cx} {pins : List (Addr × Obj)} {σ : L2.St} {H : Hp} {s : Shared} {a : Addr} {xs : List V} (I : Inv X pins σ H s) (h : SqN X.K H a xs) : ∃ its : List Value, Vals xs its ∧ PySem.PlainSeq "tuple" s.heap a its.toArray ∧ xs.length ≤ sizeLine := by
  obtain ⟨o, its, n, h1, h2, h3, h4 | ⟨h4, h5, h6⟩⟩ := h
  · obtain ⟨g1, g2, its', g3, o', g4, g5, m, g6⟩ := I.hok a _ h4
    rw [g1] at g4
    cases g4
    exact ⟨its', g3, ⟨o, m, g1, h1, h2, g6⟩, g2⟩
  · have := h6.length
    exact ⟨its.toList, h6, ⟨o, n, I.kIn a o h4, h1, h2, by rw [Array.toArray_toList]; exact h3⟩, by rw [this, Array.length_toList]; exact h5⟩
instance instPyTupN {α : Type} [Py α] : Py (TupN α) := ⟨fun K H xs v => ∃ p vs, v = .ref p ∧ SqN K H p vs ∧ Rl K H (α := α) xs vs, fun e ⟨p, vs, h1, h2, h3⟩ => ⟨p, vs, h1, h2.mono e, h3.mono e⟩⟩
theorem TupN.u {α : Type} [Py α] {K : Fg} {H : Hp} {xs : TupN α} {v : V} (h : Py.rep K H xs v) : Py.rep K H (show Tup α from xs) v :=
  let ⟨p, vs, h1, h2, h3⟩ := h
  ⟨p, vs, h1, h2.t, h3⟩
instance {α : Type} [DecidableEq α] : DecidableEq (TupN α) := inferInstanceAs (DecidableEq (List α))
instance instPyETupN {α : Type} [Py α] [DecidableEq α] [PyE α] : PyE (TupN α) where
  dep := PyE.dep (Tup α)
  inj := fun {X pins σ H s} I {a b x} h1 h2 => PyE.inj (α := Tup α) I (TupN.u h1) (TupN.u h2)
  eq := fun I A a b x y v u hu h1 h2 => PyE.eq (α := Tup α) I A a b x y v u hu (TupN.u h1) (TupN.u h2)
  rc := fun I A a b x y v u hu h1 h2 => PyE.rc (α := Tup α) I A a b x y v u hu (TupN.u h1) (TupN.u h2)
  ne := fun I A a b x y v u hu h1 h2 => PyE.ne (α := Tup α) I A a b x y v u hu (TupN.u h1) (TupN.u h2)
instance instPyDTupN {α : Type} [Py α] [DecidableEq α] [PyD α] : PyD (TupN α) := ⟨fun xs => PyD.dat (show Tup α from xs), fun h => PyD.dp (α := Tup α) (TupN.u h), fun a b => PyD.eqv (α := Tup α) a b⟩
instance {B : HO → Prop} {α : Type} [Py α] [TupNot B] [Wo B α] : Wo B (TupN α) := ⟨fun {K H H' a v} e ⟨p, vs, h1, ⟨o, its, n, g1, g2, g3, g4⟩, h3⟩ => ⟨p, vs, h1, ⟨o, its, n, g1, g2, g3, g4.elim (fun z => .inl (e _ _ z (TupNot.f _ _))) .inr⟩, rl_wo e h3⟩⟩
section
variable {X : Cx}
/-- tuple(list) -/
theorem call_tupleN : CallR X (.type "tuple") (fun xs H Q => ∃ p ys, xs = [.ref p] ∧ SqL X.K H p ys ∧ ∀ l H', H l = none → SqN X.K H' l ys → Nx H H H' H' → Q (.ref l) H') := by
  intro pins s σ H xs us Q I r h
  obtain ⟨p, ys, rfl, hq, q⟩ := h
  obtain ⟨u, rfl, rx⟩ := vals1 r
  cases rx
  obtain ⟨its, r', pl, hz⟩ := I.list hq
  have hlen := r'.length
  refine call_tuple_list pl.isList (fun h' kp => ?_) (by simp only [List.size_toArray] <;> omega)
  have I1 : Inv X pins σ H { s with heap := h' } := I.kept (t' := s.toks) kp
  have I2 : Inv X pins σ (upd H h'.objs.size (.frz { cls := .type "tuple", data := .seq its.toArray } (.tup ys))) { s with heap := h'.push { cls := .type "tuple", data := .seq its.toArray } } :=
    I1.laid (t' := s.toks) (fun b o e => Heap.get?_push_of_some _ e) (Nat.le_refl _) (show ObjOk X.prog X.w _ _ _ (.frz _ (.tup ys)) from ⟨Heap.get?_push_size _ rfl, hz, its, r', IsTup.new _ _⟩)
  have hf := I1.hok.fresh (Nat.le_refl _)
  exact ⟨.ref h'.objs.size, _, I2, rfl, q _ _ hf ⟨_, its.toArray, _, rfl, rfl, rfl, .inl upd_same⟩ (Nx.new (Same.refl _) hf)⟩
def rTupN (K : Fg) : List V → Hp → VK → Prop := fun xs H Q => ∃ p ys, xs = [.ref p] ∧ SqL K H p ys ∧ ∀ l H', H l = none → SqN K H' l ys → Nx H H H' H' → Q (.ref l) H'
/-- dict(pairs) -/
def rDictN (K : Fg) : List V → Hp → VK → Prop := fun xs H Q => ∃ (a : Addr) (ts : List Addr) (kvs : List (Key × V)), xs = [.ref a] ∧ SqN K H a (ts.map V.ref) ∧ Paired (fun (t : Addr) (kv : Key × V) => SqT K H t [kV kv.1, kv.2]) ts kvs ∧
  ∀ p, H p = none → Q (.ref p) (upd H p (.dK (mergeK [] kvs)))
theorem pairs_raw {pins : List (Addr × Obj)} {σ : L2.St} {H : Hp} {s : Shared} (I : Inv X pins σ H s) : ∀ {ts : List Addr} {kvs : List (Key × V)}, Paired (fun (t : Addr) (kv : Key × V) => SqT X.K H t [kV kv.1, kv.2]) ts kvs →
    ∃ (ps : List (Value × Value)) (vs : List (Key × Value)), KV kvs vs ∧ Paired (fun (t : Addr) (p : Value × Value) => PySem.PairAt s.heap t p.1 p.2) ts ps ∧ Paired (fun (p : Value × Value) (q : Key × Value) => p.2 = q.2 ∧ (mixKind X.prog X.w).is q.1 p.1 = true) ps vs
  | _, _, .nil => ⟨[], [], .nil, .nil, .nil⟩
  | _, _, .cons r t => by
    obtain ⟨ps, vs, h1, h2, h3⟩ := pairs_raw I t
    obtain ⟨its, g1, g2, g3⟩ := I.tuple r
    obtain ⟨u1, u2, rfl, r1, r2⟩ := g1.two
    exact ⟨(u1, u2) :: ps, (_, u2) :: vs, .cons ⟨rfl, r2⟩ h1, .cons (.inl g2) h2, .cons ⟨rfl, kV_is r1⟩ h3⟩
theorem pget' {α β : Type} {F : α → β → Prop} : ∀ {l₁ : List α} {l₂ : List β}, Paired F l₁ l₂ → ∀ {j : Nat} {y : β}, l₂[j]? = some y → ∃ x, l₁[j]? = some x ∧ F x y
  | _, _, .nil, j, y, h => by cases h
  | _, _, .cons r t, 0, y, h => by cases h; exact ⟨_, rfl, r⟩
  | _, _, .cons r t, j + 1, y, h => pget' t h
theorem pget1 {α β : Type} {F : α → β → Prop} : ∀ {l₁ : List α} {l₂ : List β}, Paired F l₁ l₂ → ∀ {j : Nat} {x : α}, l₁[j]? = some x → ∃ y, l₂[j]? = some y ∧ F x y
  | _, _, .nil, j, y, h => by cases h
  | _, _, .cons r t, 0, y, h => by cases h; exact ⟨_, rfl, r⟩
  | _, _, .cons r t, j + 1, y, h => pget1 t h
theorem refs_of {us : List Value} : ∀ {ts : List Addr}, Vals (ts.map V.ref) us → us = ts.map Value.ref := by
  intro ts
  induction ts generalizing us with
  | nil => intro h; cases h; rfl
  | cons t ts ih =>
    intro h
    cases h with
    | cons r h => rw [ih h]; cases r; rfl
theorem call_dictN (hc : X.calm = true) : CallR X (.type "dict") (rDictN X.K) := by
  intro pins s σ H xs us Q I r h
  obtain ⟨a, ts, kvs, rfl, h1, h2, q⟩ := h
  obtain ⟨u, rfl, rx⟩ := vals1 r
  cases rx
  obtain ⟨its, g1, g2, g3⟩ := h1.at I
  obtain ⟨ps, vs, k1, k2, k3⟩ := pairs_raw I h2
  have ei := refs_of g1
  have lp : ts.length = ps.length := Paired.length k2
  have lv : ps.length = vs.length := Paired.length k3
  have lk : kvs.length = vs.length := Paired.length k1
  rw [List.length_map] at g3
  let Ts : Nat → Addr := fun j => ts.getD j 0
  have tj : ∀ {j t}, ts[j]? = some t → Ts j = t := fun {j t} e => by
    show ts.getD j 0 = t
    rw [List.getD_eq_getElem?_getD, e]; rfl
  have ok : PySem.PlainSeq "tuple" s.heap a its.toArray ∧ PySem.PairItems s.heap its.toArray Ts ps := ⟨g2, by rw [List.size_toArray, ei, List.length_map]; exact lp, fun j k v e => by
    obtain ⟨t, e1, e2⟩ := pget' k2 e
    refine ⟨?_, by rw [tj e1]; exact e2⟩
    rw [tj e1, List.getElem?_toArray, ei, List.getElem?_map, e1]
    rfl⟩
  refine PySem.call_dict_pairs (knd := mixKind X.prog X.w) (kvs := vs) (PySem.PairArg.tuple a its.toArray Ts ps) (I.ok.hd hc) ok ⟨lv.symm, fun i key v e => ?_⟩ (by omega) fun h' tk hd hk => ?_
  · obtain ⟨qq, e1, e2, e3⟩ := pget1 k3 e
    exact ⟨qq.1, by rw [e1]; exact congrArg some (Prod.ext rfl e2.symm), e3⟩
  · have hm : (s.heap.objs.size == sysModules) = false := beq_eq_false_iff_ne.mpr (Nat.ne_of_gt I.big)
    have hl : (mergeK [] kvs).length ≤ sizeLine := by have := length_mergeK kvs []; simp only [List.length_nil] at this; omega
    exact ⟨.ref s.heap.objs.size, upd H s.heap.objs.size (.dK (mergeK [] kvs)), I.laid (t' := tk) (fun b u e => hk b u (by simp) e) (Nat.le_refl _) (show ObjOk X.prog X.w _ _ _ (.dK _) from ⟨hl, hm, _, KV.merge k1 .nil, hd⟩), rfl, q _ (I.hok.fresh (Nat.le_refl _))⟩
end
/-- the dict of pairs -/
def mkD {α : Type} (ps : List (Tx × α)) : List (Tx × α) := ps.foldl (fun d q => dputM d q.1 q.2) []
section
variable {X : Cx} {K : Fg} {mg : Str → Option Value} {b : Bs} {L : List En} {E : XK} {e : Expr} {α β γ : Type} {pos p2 : Pos}
theorem je_tupN [Py α] {m : M (List α)} (hm : mg "tuple" = none) (h : JE X K b L E e m) (hK : X.K = K := by rfl) (hM : X.mg = mg := by rfl)
    (hg : Gl X "tuple" := by rfl) (he : starEach [e] X.env = (false, eval e X.env) :: starEach [] X.env := by rfl) (hpl : (backTo pos (starEach [] X.env)).any (·.1) = false := by rfl) : JE X K b L E (.Call (.Name "tuple" p2) [e] [] pos) (m >>= fun xs => (pure xs : M (TupN α))) := by
  subst hK
  exact ⟨fun σ Hi H en Q hq => PE.wp (pe_callTy (call_tupleN (X := X)) hg (by rw [hM]; exact hm) bt_tuple (pa_cons pe_wp pa_nil he) (by decide) (by decide) he hpl) (h.go σ Hi H en _ ((PX.bind hq).imp fun xs Hi1 H1 n1 k v rv => by
    obtain ⟨p, vs, rfl, h1, h2⟩ := rv
    refine ⟨p, vs, rfl, Same.seq n1.sub h1, fun l H' hl hs hn => ?_⟩
    obtain ⟨o, its, n, g1, g2, g3, g4⟩ := hs
    have hcut : Nx Hi1 H1 (plus Hi1 H' [l]) H' := ⟨same_plus (fun a ha => by cases List.mem_singleton.mp ha; exact hi_none n1.sub hl), hn.al, fun a u h => by
      by_cases z : a ∈ [l]
      · rw [plus_in z] at h; exact h
      · rw [plus_out z] at h; exact hn.al a u (n1.sub a u h), fun a h1 h2 => by
      rw [plus_out fun z => by cases List.mem_singleton.mp z; exact h1 hl]; exact h2⟩
    exact (PX.go (α := TupN α) (a := xs) k hcut) _ ⟨l, vs, rfl, ⟨o, its, n, g1, g2, g3, g4.elim (fun z => .inl (by rw [plus_in (List.mem_singleton.mpr rfl)]; exact z)) .inr⟩, h2.mono hcut.im⟩))⟩
theorem KvOk.merge [Py α] {K : Fg} {H : Hp} : ∀ {ps : List (Tx × α)} {more : List (Key × V)} (_ : KvOk K H ps more) {d : List (Tx × α)} {kvs : List (Key × V)}, KvOk K H d kvs → KvOk K H (ps.foldl (fun d q => dputM d q.1 q.2) d) (mergeK kvs more)
  | _, _, .nil, _, _, h => h
  | q :: ps, kv :: more, .cons r t, d, kvs, h => by
    show KvOk K H (ps.foldl (fun d q => dputM d q.1 q.2) (dputM d q.1 q.2)) (mergeK (putK kvs kv.1 kv.2) more)
    rw [r.1]
    exact KvOk.merge t (h.put r.2)
theorem pairs_of [Py α] {K : Fg} {H : Hp} : ∀ {ps : List (Tx × α)} {vs : List V}, Rl K H ps vs → ∃ (ts : List Addr) (kvs : List (Key × V)), vs = ts.map V.ref ∧ Paired (fun (t : Addr) (kv : Key × V) => SqT K H t [kV kv.1, kv.2]) ts kvs ∧ KvOk K H ps kvs
  | [], [], _ => ⟨[], [], rfl, .nil, .nil⟩
  | q :: ps, v :: vs, h => by
    cases h with
    | cons h1 h2 =>
      obtain ⟨ts, kvs, rfl, g2, g3⟩ := pairs_of h2
      obtain ⟨t, v1, v2, rfl, k1, k2, k3⟩ := h1
      have k2 : v1 = V.str (G.S q.1) := k2
      subst k2
      exact ⟨t :: ts, (kT q.1, v2) :: kvs, rfl, .cons k1 g2, .cons ⟨rfl, k3⟩ g3⟩
  | [], _ :: _, h => by cases h
  | _ :: _, [], h => by cases h
theorem jf_dictN [Py α] {m : M (TupN (Tx × α))} (hc : X.calm = true) (hm : mg "dict" = none) (h : JE X K b L E e m) (hK : X.K = K := by rfl) (hM : X.mg = mg := by rfl)
    (hg : Gl X "dict" := by rfl) (he : starEach [e] X.env = (false, eval e X.env) :: starEach [] X.env := by rfl) (hpl : (backTo pos (starEach [] X.env)).any (·.1) = false := by rfl) : JF X K b L E (.Call (.Name "dict" p2) [e] [] pos) (ctD K (α := α)) (m >>= fun xs => (pure (mkD xs) : M (List (Tx × α)))) := by
  subst hK
  exact ⟨fun σ Hi H en Q hq => PE.wp (pe_callTy (call_dictN hc) hg (by rw [hM]; exact hm) (by rfl) (pa_cons pe_wp pa_nil he) (by decide) (by decide) he hpl) (h.go σ Hi H en _ ((PX.bind hq).imp fun xs Hi1 H1 n1 k v rv => by
    obtain ⟨p, vs, rfl, h1, h2⟩ := rv
    obtain ⟨ts, kvs, rfl, g2, g3⟩ := pairs_of h2
    refine ⟨p, ts, kvs, rfl, h1.mono n1.sub, Paired.mapP g2 (fun _ _ r => sqt_mono n1.sub r), fun r hr => ?_⟩
    exact (PX.go (a := mkD (α := α) xs) k (Nx.temp n1.sub hr)) r _ upd_same (none_back n1.al hr) (hi_none n1.sub hr) ⟨_, rfl, KvOk.merge g3 .nil⟩))⟩
/-- three empty tuples and a truth value, the third known to have no dict -/
theorem emptN_ok {K : Fg} {a : Addr} (h : emptN K a = true) (H : Hp) : SqN K H a [] := by
  unfold emptN at h
  rw [Bool.and_eq_true] at h
  obtain ⟨h1, h2⟩ := h
  unfold emptT at h1
  cases q : K.lookup a with
  | none => rw [q] at h1; cases h1
  | some o =>
    rw [q] at h1 h2
    cases d : o.data with
    | seq its n =>
      simp only [d, Bool.and_eq_true, decide_eq_true_eq] at h1 h2
      have e : its.toList = [] := List.isEmpty_iff.mp h1.2
      exact ⟨o, its, n, h1.1, h2, d, .inr ⟨q, by rw [← Array.length_toList, e]; exact Nat.zero_le _, by rw [e]; exact .nil⟩⟩
    | _ => simp [d] at h1
theorem emp4N_ok {K : Fg} {x : Str} {z : Bool} (h : emp4N K x z = true) (H : Hp) : ∃ a b c : Addr, SqT K H (He.ga K x) [.ref a, .ref b, .ref c, .bl z] ∧ SqT K H a [] ∧ SqT K H b [] ∧ SqN K H c [] := by
  unfold emp4N at h
  rw [Bool.and_eq_true] at h
  obtain ⟨h, h0⟩ := h
  unfold emp4B at h
  cases q : K.lookup (He.ga K x) with
  | none => rw [q] at h; cases h
  | some o =>
    rw [q] at h h0
    cases d : o.data with
    | seq its n =>
      simp only [d, Bool.and_eq_true, decide_eq_true_eq] at h h0
      obtain ⟨h1, h2⟩ := h
      split at h2
      · rename_i a b c w e
        rw [e] at h0
        simp only [Bool.and_eq_true, beq_iff_eq] at h2
        obtain ⟨rfl, ha, hb, hc⟩ := h2
        refine ⟨a, b, c, .inr ⟨o, its, n, q, h1, d, ?_, ?_⟩, emptT_ok ha H, emptT_ok hb H, emptN_ok h0 H⟩
        · rw [← Array.length_toList, e]; exact (by decide : (4 : Nat) ≤ sizeLine)
        · rw [e]; exact .cons rfl (.cons rfl (.cons rfl (.cons rfl .nil)))
      · cases h2
    | _ => simp [d] at h
theorem je_emp4N {x : Str} {z : Bool} [Py α] [Py β] [Py γ] (hm : mg x = some (.ref (He.ga K x))) (hb : emp4N K x z = true) (hK : X.K = K := by rfl) (hM : X.mg = mg := by rfl) (hg : Gl X x := by rfl) (hd : (x == ("__debug__" : Str)) = false := by decide) :
    JE X K b L E (.Name x pos) (pure (T4.mk [] [] [] z) : M (T4 (Tup α) (Tup β) (TupN γ) Bool)) := by
  subst hK
  refine .of ⟨_, pe_glob (v := .ref (He.ga X.K x)) hg (by rw [hM]; exact hm) rfl hd, fun σ Hi H en Q hq => ?_⟩
  obtain ⟨a, b, c, h1, h2, h3, h4⟩ := emp4N_ok hb Hi
  exact hq.here en.sub _ ⟨_, _, _, _, _, rfl, h1, ⟨a, [], rfl, h2, Paired.nil⟩, ⟨b, [], rfl, h3, Paired.nil⟩, ⟨c, [], rfl, h4, Paired.nil⟩, rfl⟩
end
end G

set_option Elab.async false
set_option linter.all false
set_option maxRecDepth 100000
set_option maxHeartbeats 2000000
namespace G
open PySem L2 TL PySem.Spec PyProof.Rows PySem.W L2.DX
/-! ### sorted(..) of what is collected: a new list, then its sort -/
theorem sort_new {prog : Program} {w : World} {A : Around} {E : Value → Shared → Prop} {s : Shared} {h' : Heap} {tk : Nat} {β : Type} {R : Value → β → Prop} {enc : β → PyData} {vs : List Value} {bs : List β} {Q : Value → Shared → Prop}
    (e : PySem.W.EachIs R vs bs) (er : PySem.W.EachIs (fun v b => ∃ as, Reads h' v (enc b) as) vs bs) (hal : PySem.W.AllAlike (bs.map enc)) (hk : PySem.W.Sortable (bs.map enc)) (hL : bs.length ≤ sizeLine) (hu : ∀ b, b ∈ bs → A.units + 1 + (enc b).depth < cLine)
    (h : ∀ out, out.length = bs.length → PySem.W.EachIs R out (bs.mergeSort (PySem.W.dataLe false enc)) → Q .none { s with heap := sortedHeap (h'.push (seqObj "list" vs.toArray 0)) h'.objs.size vs (List.toArray out), toks := tk }) :
    wpAny (model prog w) A (call (.builtin "list.sort") [.ref h'.objs.size]) Q E { s with heap := h'.push (seqObj "list" vs.toArray 0), toks := tk } := by
  have ho : (h'.push (seqObj "list" vs.toArray 0)).get? h'.objs.size = some (seqObj "list" vs.toArray 0) := Heap.get?_push_size _ rfl
  have er' : PySem.W.EachIs (fun v b => ∃ as, Reads (sortingHeap (h'.push (seqObj "list" vs.toArray 0)) h'.objs.size vs) v (enc b) as) vs bs :=
    er.mono fun _ _ ⟨as, r⟩ => ⟨as, PyProof.Rows.Reads.keeps (fun b o q => sortingHeap_old (Nat.ne_of_lt (Heap.lt_size q)) (Heap.get?_push_of_some _ q)) r⟩
  refine wpAny_call_entry slot_list_sort ⟨_, ho, rfl⟩ entry_list_sort (PySem.W.list_sort_vals (κ := PySem.W.dataKind (sortingHeap (h'.push (seqObj "list" vs.toArray 0)) h'.objs.size vs) (bs.map enc)) ho (PySem.W.SortsAt.data (s := { s with heap := sortingHeap (h'.push (seqObj "list" vs.toArray 0)) h'.objs.size vs, toks := tk }) (PySem.W.each_map (R := fun v d => ∃ as, Reads (sortingHeap (h'.push (seqObj "list" vs.toArray 0)) h'.objs.size vs) v d as) enc er') hal hk (PySem.W.bound_map hu)) (by rw [e.length]; exact hL) ⟨.none, rfl, ?_⟩) (args_list_sort _)
  exact h _ (by rw [PySem.W.sortVals_length false rfl]; exact e.length) (PySem.W.sortVals_data false e er' hal)
section
variable {X : Cx} {α : Type} [Py α] [DecidableEq α] [PyD α] [PyL α] [PySo α]
/-- sorted(r), where collecting r gives these things -/
theorem sorted_by {pins : List (Addr × Obj)} {σ : L2.St} {H Hi : Hp} {s : Shared} {r : Addr} {E : Value → Shared → Prop} {Q : Value → Shared → Prop} (hu : X.A.units + 70 < cLine) (ys : List α) (shp : ∀ b ∈ ys, Shp b) (hz : ys.length ≤ sizeLine)
    (col : ∀ R : List Value → Shared → Prop, (∀ h' tk us H' Hi', Inv X pins σ H' { s with heap := h', toks := tk } → Nx Hi H Hi' H' → PySem.W.EachIs (fun (v : Value) (b : α) => ∃ x, RelV x v ∧ Py.rep X.K Hi' b x) us ys → R us { s with heap := h', toks := tk }) → wpAny (model X.prog X.w) X.A.in1 (collect (.ref r)) R E s)
    (fin : ∀ s' Hi' H' p ws, Inv X pins σ H' s' → Nx Hi H Hi' H' → H p = none → Hi' p = none → H' p = some (.lst ws) → Rl X.K Hi' (srtD ys) ws → Q (.ref p) s') : wpAny (model X.prog X.w) X.A (call (.builtin "sorted") [.ref r]) Q E s := by
  refine Calls.call_function_entry PyProof.Rows.kind_sorted PyProof.Rows.plain_sorted PyProof.Rows.entry_sorted (PyProof.Rows.args_sorted1 _) ?_
  unfold Builtin.«sorted»
  refine wpAny_bind (m := checkCount "sorted" 1 1 _) (wpAny_pure ?_)
  refine wpAny_bind (col _ fun h' tk us H' Hi' I1 nx e => ?_)
  have hlen : us.length ≤ sizeLine := by rw [e.length]; exact hz
  refine wpAny_bind (wpAny_newList ?_ hlen)
  show wpAny _ _ _ _ _ { s with heap := h'.push (seqObj "list" us.toArray 0), toks := tk }
  have er : PySem.W.EachIs (fun (v : Value) (b : α) => ∃ as, Reads h' v (PyD.dat b) as) us ys := e.mono fun v b ⟨x, r1, r2⟩ => Dp.reads I1 _ x v (PyD.dp (Py.mono nx.sub r2)) r1
  refine wpAny_bind (wpAny_holding (sort_new e er (PySem.W.AllAlike.of PyL.al) (PySo.so ys) hz (fun b hb => by have := SeqAt.depth_of_shaped (shp b hb); rw [Around.in1_units]; omega) fun out ho eo => ?_))
  have hoL : (h'.push (seqObj "list" us.toArray 0)).get? h'.objs.size = some (seqObj "list" us.toArray 0) := Heap.get?_push_size _ rfl
  obtain ⟨ep, he'⟩ := PyProof.Rows.sortedHeap_at (vs := us) (out := out.toArray) hoL
  obtain ⟨ws, w1, w2⟩ := of_each eo
  have hl2 : ws.length ≤ sizeLine := by rw [w1.length, ho]; exact hz
  have hf := I1.hok.fresh (Nat.le_refl h'.objs.size)
  have hfi : Hi' h'.objs.size = none := hi_none nx.sub hf
  refine wpAny_pure ⟨_, rfl, fin _ Hi' (upd H' h'.objs.size (.lst ws)) _ ws (I1.laid (t' := tk) (fun b u q => ?_) (Nat.le_refl _) (show ObjOk X.prog X.w _ _ _ (.lst ws) from ⟨hl2, out, ep, w1, he'⟩)) ⟨nx.im, nx.al.trans (same_new hf), nx.sub.trans (same_new hf), nx.cap⟩ (none_back nx.al hf) hfi upd_same w2⟩
  have hb : b < h'.objs.size := Heap.lt_size q
  rw [PyProof.Rows.sortedHeap_old (Nat.ne_of_lt hb) (by rw [size_push']; exact Nat.lt_succ_of_lt hb)]
  exact Heap.get?_push_of_some _ q
end
/-! ### d.items() of a dict with text keys, sorted -/
section
variable {X : Cx}
def rItemsK : V → List V → Hp → VK → Prop := fun x xs H Q => ∃ (a : Addr) (kvs : List (Key × V)), x = .ref a ∧ xs = [] ∧ H a = some (.dK kvs) ∧ ∀ p, H p = none → Q (.ref p) (upd H p (itemsO p a))
theorem mt_itemsK : MtR X "dict.items" rItemsK := by
  intro pins s σ H x xs v us Q I rx rxs h
  obtain ⟨a, kvs, rfl, rfl, ha, q⟩ := h
  cases rx
  cases rxs
  obtain ⟨z, hd, vs, kv, o, es, ep, ho, hx, hdat, _⟩ := dk_of I.hok ha
  refine DT.callItems (es := es) (ep := ep) hd ⟨o, ho, hx, hdat⟩ ?_
  have hf : H s.heap.objs.size = none := I.hok.fresh (Nat.le_refl _)
  exact ⟨.ref s.heap.objs.size, upd H s.heap.objs.size (itemsO s.heap.objs.size a), I.laid (t' := s.toks) (fun b u e => Heap.get?_push_of_some _ e) (Nat.le_refl _) (itemsO_ok (Heap.get?_push_size _ rfl)), rfl, q _ hf⟩
theorem tups_laid {pins : List (Addr × Obj)} {σ : L2.St} {H : Hp} {s : Shared} {h' : Heap} {tk : Nat} {kvs : List (Key × V)} {vs : List (Key × Value)} {as : List Addr} (I : Inv X pins σ H s) (kv : KV kvs vs)
    (hk : ∀ b o, s.heap.get? b = some o → h'.get? b = some o) (hl : as.length = vs.length) (hG : PySem.W.KdxG (mixKind X.prog X.w) vs s.heap.objs.size h' as) :
    ∃ H' : Hp, (∀ b o, H b = some o → H' b = some o) ∧ (∀ b, b ∉ as → H' b = H b) ∧ (∀ t ∈ as, H t = none) ∧ Paired (fun (t : Addr) (q : Key × V) => H' t = some (.tup [kV q.1, q.2])) as kvs ∧ Inv X pins σ H' { s with heap := h', toks := tk } := by
  have lk : kvs.length = vs.length := Paired.length kv
  have nd : as.Nodup := List.Pairwise.imp (fun {a b} (h : a < b) => Nat.ne_of_lt h) hG.rise
  have new : ∀ t ∈ as, H t = none := fun t ht => I.hok.fresh (Nat.le_of_lt (hG.above t ht))
  have atP := LiI.putT_at as kvs H (by omega) nd
  have off : ∀ b, b ∉ as → LiI.putT H as kvs b = H b := fun b h1 => LiI.putT_off as kvs _ h1
  have low : ∀ b o, s.heap.get? b = some o → b ∉ as := fun b o e z => absurd (Heap.lt_size e) (Nat.not_lt.mpr (Nat.le_of_lt (hG.above b z)))
  have kp : ∀ b u, H b = some u → (LiI.putT H as kvs) b = some u := fun b u e => by
    rw [off b (fun z => by rw [new b z] at e; cases e)]
    exact e
  refine ⟨LiI.putT H as kvs, kp, off, new, atP, ?_⟩
  refine I.call' (ch := []) rfl ⟨fun b o q _ _ _ => hk b o q, fun b o q _ _ _ => ⟨o.slots, hk b o q⟩, fun b o q n _ => ?_, fun b o q _ => ⟨o, hk b o q⟩, fun b xs q => kp b _ q, fun b o u q => kp b _ q, fun b ps q => ⟨#[], by rw [kp b _ q]; simp⟩⟩ (fun b u q => ?_) I.bare fun b z => by simp at z
  · rw [off b (low b o q)]
    exact n
  · by_cases hb : b ∈ as
    · obtain ⟨j, pk, e1, e2, e3⟩ := LiI.paired_ix atP hb
      rw [e3] at q
      cases q
      obtain ⟨key, k, x, f1, f2, f3⟩ := hG.pairs j b e1
      obtain ⟨qv, g1, g2, g3⟩ := LiI.paired_get kv e2
      rw [f1] at g1
      cases g1
      have rk : RelV (kV pk.1) key := by
        rw [g2]
        exact relV_key (show keyIs k key = true from f2)
      exact ⟨by show 2 ≤ sizeLine; decide, [key, x], .cons rk (.cons g3 .nil), ⟨_, f3, rfl, _, rfl⟩⟩
    · rw [off b hb] at q
      exact (I.hok b u q).stay (fun d v _ y => hk d v y) (fun d y => kp d _ y) fun d xs y => kp d _ y
variable {α : Type} [Py α] [DecidableEq α] [PyD α] [PyL (Tx × α)] [PySo (Tx × α)]
theorem each_pairs {K : Fg} {H : Hp} : ∀ {d : List (Tx × α)} {kvs : List (Key × V)} {as : List Addr}, KvOk K H d kvs → Paired (fun (t : Addr) (q : Key × V) => H t = some (.tup [kV q.1, q.2])) as kvs → PySem.W.EachIs (fun (v : Value) (b : Tx × α) => ∃ x, RelV x v ∧ Py.rep K H b x) (as.map Value.ref) d
  | _, _, _, .nil, .nil => .nil
  | q :: d, kv :: kvs, a :: as, .cons r t, .cons r' t' => .cons ⟨V.ref a, rfl, a, V.str (G.S q.1), kv.2, rfl, .inl (.inl (by rw [r', r.1]; rfl)), rfl, r.2⟩ (each_pairs t t')
def rSortItK (α : Type) [Py α] [DecidableEq α] [PyD α] (K : Fg) : List V → Hp → VK → Prop := fun xs H Q => ∃ (p a : Addr) (kvs : List (Key × V)) (d : List (Tx × α)) (Hi : Hp), xs = [.ref p] ∧ H p = some (itemsO p a) ∧ H a = some (.dK kvs) ∧ Same Hi H ∧ KvOk K Hi d kvs ∧ (∀ b ∈ d, Shp b) ∧ d.length ≤ sizeLine ∧
  ∀ (Hi' H' : Hp) (q : Addr) (ws : List V), Nx Hi H Hi' H' → H q = none → Hi' q = none → H' q = some (.lst ws) → Rl K Hi' (srtD d) ws → Q (.ref q) H'
theorem cr_sortItK (hc : X.calm = true) (hu : X.A.units + 70 < cLine) : CallR X (.builtin "sorted") (rSortItK α X.K) := by
  intro pins s σ H xs us Q I r h
  obtain ⟨p, a, kvs, d, Hi, rfl, hp, ha, sm, kd, shp, hz, q⟩ := h
  rw [Vals.ref1 r]
  obtain ⟨z, hd, vs, kv, dd⟩ := dk_of I.hok ha
  obtain ⟨ep, hat⟩ := dd.dictAt
  have hv : s.heap.IsItemsView p a := (I.hok p _ hp).1
  have lk : kvs.length = vs.length := Paired.length kv
  refine sorted_by (Hi := Hi) (pins := pins) (σ := σ) hu d shp hz (fun R hR => ?_) fun s' Hi' H' pp ws I' nx n1 n2 n3 n4 => ⟨.ref pp, H', I', rfl, q Hi' H' pp ws nx n1 n2 n3 n4⟩
  refine PySem.W.kdx_collect (knd := mixKind X.prog X.w) (kvs := vs) (ep := ep) (I.ok.hd hc) hv hat (by omega) fun h' tk as hk hl hG => ?_
  obtain ⟨H', k1, k2, k3, k4, J⟩ := tups_laid (tk := tk) I kv hk hl hG
  have s1 : Same H H' := fun b o e => k1 b o e
  have hia : ∀ t, t ∈ as → Hi t = none := fun t ht => hi_none sm (k3 t ht)
  refine hR h' tk _ H' (plus Hi H' as) J ⟨same_plus hia, s1, plus_same (sm.trans s1), fun b h1 h2 => by rw [plus_out fun z => h1 (k3 b z)]; exact h2⟩ (each_pairs (kd.mono (same_plus hia)) ?_)
  have key : ∀ {as : List Addr} {kvs : List (Key × V)} {all : List Addr}, (∀ a ∈ as, a ∈ all) → Paired (fun (t : Addr) (q : Key × V) => H' t = some (.tup [kV q.1, q.2])) as kvs → Paired (fun (t : Addr) (q : Key × V) => plus Hi H' all t = some (.tup [kV q.1, q.2])) as kvs := by
    intro as kvs all hh hp
    induction hp with
    | nil => exact .nil
    | cons r t ih => exact .cons (by rw [plus_in (hh _ List.mem_cons_self)]; exact r) (ih fun a ha => hh a (List.mem_cons_of_mem _ ha))
  exact key (fun _ h => h) k4
end
section
variable {X : Cx} {K : Fg} {mg : Str → Option Value} {b : Bs} {L : List En} {E : XK} {e : Expr} {α : Type} {pos p2 apos cpos : Pos} [Py α] [DecidableEq α] [PyD α] [PyL (Tx × α)] [PySo (Tx × α)]
/-- sorted(d.items()), a new list -/
theorem jf_sortIt {m : M (Dic α)} (hc : X.calm = true) (hu : X.A.units + 70 < cLine) (hm : mg "sorted" = none) (h : JD X K b L E e m) (hK : X.K = K := by rfl) (hM : X.mg = mg := by rfl)
    (hg : Gl X "sorted" := by rfl) (hbase : attributeBase e "items" X.env (eval e X.env) = eval e X.env := by rfl) (hline : (apos.endLine == cpos.line) = true := by rfl)
    (he : starEach [.Call (.Attribute e "items" apos) [] [] cpos] X.env = (false, eval (.Call (.Attribute e "items" apos) [] [] cpos) X.env) :: starEach [] X.env := by rfl) (hpl : (backTo pos (starEach [] X.env)).any (·.1) = false := by rfl) :
    JF X K b L E (.Call (.Name "sorted" p2) [.Call (.Attribute e "items" apos) [] [] cpos] [] pos) (ctL K) (m >>= fun d => sortM (show List (Tx × α) from d)) := by
  subst hK
  exact ⟨fun σ Hi H en Q hq => PE.wp (pe_callB (cr_sortItK (α := α) hc hu) hg (by rw [hM]; exact hm) bt_sorted (pa_cons (pe_bm0 PySem.F.plainAttrs_dict PySem.F.slot_dict_items PySem.F.type_dict_items mt_itemsK pe_wp hbase hline) pa_nil he) (by decide) (by decide) he hpl) (h.go σ Hi H en _ ((PX.bind hq).imp fun d Hi1 H1 n1 k q kvs g1 g2 => by
    obtain ⟨⟨c1, c2⟩, k⟩ := PX.chk k
    refine ⟨.inr (.inr (.inl ⟨rfl, .inl ⟨kvs, g1⟩⟩)), q, kvs, rfl, rfl, g1, fun p hp => ?_⟩
    have sm2 : Same H1 (upd H1 p (itemsO p q)) := same_new hp
    refine ⟨p, q, kvs, d, Hi1, rfl, upd_same, sm2 _ _ g1, n1.sub.trans sm2, g2, c2, c1, fun Hi' H' r ws nx q1 q2 q3 q4 => ?_⟩
    have q0 : H1 r = none := none_back sm2 q1
    exact (PX.go (a := srtD (show List (Tx × α) from d)) k ⟨nx.im, sm2.trans nx.al, nx.sub, fun a ha hb => nx.cap a (some_ne sm2 ha) hb⟩) r _ q3 (none_back n1.al q0) q2 ⟨_, rfl, q4⟩))⟩
end
end G

set_option Elab.async false
set_option linter.all false
set_option maxRecDepth 100000
set_option maxHeartbeats 2000000
namespace G
open PySem L2 TL PySem.Spec PyProof.Rows PySem.W L2.DX
/-! ### keys of any depth -/
class PyN (α : Type) [Py α] [DecidableEq α] where
  key : α → NestedKey
  inj : ∀ a b, key a = key b → a = b
  is : ∀ {X : Cx} {pins : List (Addr × Obj)} {σ : L2.St} {H : Hp} {s : Shared}, Inv X pins σ H s → ∀ {a : α} {v : V} {u : Value}, Py.rep X.K H a v → RelV v u → NestedIs s.heap (key a) u
  dep : Nat
  hdep : ∀ a, (key a).depth ≤ dep
instance instPyNTx : PyN Tx where
  key := fun x => .text (G.S x)
  inj := fun a b h => S_inj (NestedKey.text.inj h)
  is := fun {X pins σ H s} I {a v u} r q => by
    have r : v = V.str (G.S a) := r
    subst r
    obtain ⟨t, rfl⟩ := q
    exact .text _ t
  dep := 0
  hdep := fun _ => Nat.le_refl _
section
variable {α β : Type} [Py α] [Py β] [DecidableEq α] [DecidableEq β] [PyN α] [PyN β]
theorem nested_all {X : Cx} {pins : List (Addr × Obj)} {σ : L2.St} {H : Hp} {s : Shared} (I : Inv X pins σ H s) : ∀ {xs : List α} {vs : List V} {us : List Value}, Rl X.K H xs vs → Vals vs us → NestedAll s.heap (xs.map PyN.key) us
  | [], [], _, _, h => by cases h; exact .nil
  | x :: xs, v :: vs, _, h, h' => by
    cases h with
    | cons h1 h2 => cases h' with
      | cons g1 g2 => exact .cons (PyN.is I h1 g1) (nested_all I h2 g2)
  | [], _ :: _, _, h, _ => by cases h
  | _ :: _, [], _, h, _ => by cases h
theorem map_key_inj : ∀ {xs ys : List α}, xs.map PyN.key = ys.map PyN.key → xs = ys
  | [], [], _ => rfl
  | x :: xs, y :: ys, h => by
    have h1 := (List.cons.inj h).1
    have h2 := (List.cons.inj h).2
    rw [PyN.inj _ _ h1, map_key_inj h2]
  | [], _ :: _, h => by cases h
  | _ :: _, [], h => by cases h
theorem depthAll_le : ∀ xs : List α, NestedKey.depthAll (xs.map PyN.key) ≤ PyN.dep α
  | [] => Nat.zero_le _
  | x :: xs => Nat.max_le.mpr ⟨PyN.hdep x, depthAll_le xs⟩
instance instPyNTup : PyN (Tup α) where
  key := fun xs => .tup (List.map PyN.key (show List α from xs))
  inj := fun a b h => map_key_inj (NestedKey.tup.inj h)
  is := fun {X pins σ H s} I {a v u} r q => by
    obtain ⟨p, vs, rfl, h1, h2⟩ := r
    cases q
    obtain ⟨its, g1, ⟨o, g2, g3, n, g4⟩, _⟩ := I.tuple h1
    exact .tup g2 g3 g4 (nested_all I h2 g1)
  dep := PyN.dep α + 1
  hdep := fun a => by
    show NestedKey.depthAll (List.map PyN.key (show List α from a)) + 1 ≤ _
    exact Nat.succ_le_succ (depthAll_le _)
instance instPyNProd : PyN (α × β) where
  key := fun x => .tup [PyN.key x.1, PyN.key x.2]
  inj := fun a b h => by
    have h := NestedKey.tup.inj h
    have h1 := (List.cons.inj h).1
    have h2 := (List.cons.inj (List.cons.inj h).2).1
    exact Prod.ext (PyN.inj _ _ h1) (PyN.inj _ _ h2)
  is := fun {X pins σ H s} I {a v u} r q => by
    obtain ⟨p, v1, v2, rfl, h1, h2, h3⟩ := r
    cases q
    obtain ⟨its, g1, ⟨o, g2, g3, n, g4⟩, _⟩ := I.tuple h1
    obtain ⟨u1, u2, rfl, r1, r2⟩ := g1.two
    exact .tup g2 g3 g4 (.cons (PyN.is I h2 r1) (.cons (PyN.is I h3 r2) .nil))
  dep := max (PyN.dep α) (PyN.dep β) + 1
  hdep := fun a => by
    show max (PyN.key a.1).depth (max (PyN.key a.2).depth 0) + 1 ≤ _
    have := PyN.hdep a.1
    have := PyN.hdep a.2
    omega
end
/-- what is always an object -/
class IsRef (α : Type) [Py α] : Prop where
  ref : ∀ {K : Fg} {H : Hp} {a : α} {v : V}, Py.rep K H a v → ∃ q, v = .ref q
instance {α β : Type} [Py α] [Py β] : IsRef (α × β) := ⟨fun ⟨p, _, _, h, _⟩ => ⟨p, h⟩⟩
instance {α : Type} [Py α] : IsRef (Tup α) := ⟨fun ⟨p, _, h, _⟩ => ⟨p, h⟩⟩
/-! ### a dict with such keys -/
abbrev EnF := NestedKey × Addr × V
def fdO (P : Program) (w : World) (a : Addr) (kvs : List EnF) : HO := .ext fun h => (a == sysModules) = false ∧ kvs.length ≤ sizeLine ∧ ∃ xs : List (NestedKey × Addr × Value), Paired (fun (p : EnF) (q : NestedKey × Addr × Value) => p.1 = q.1 ∧ p.2.1 = q.2.1 ∧ RelV p.2.2 q.2.2) kvs xs ∧
  ∃ o es ep, h.get? a = some o ∧ o.ExactDict ∧ o.data = .dict es ep ∧ es.toList = xs.map (entryOfKey (nestedKind P w)) ∧ (xs.map (·.1)).Nodup
theorem fdO_ok {P : Program} {w : World} {H : Hp} {h : Heap} {a : Addr} {kvs : List EnF} {xs : List (NestedKey × Addr × Value)} (hd : (a == sysModules) = false) (hl : kvs.length ≤ sizeLine) (r : Paired (fun (p : EnF) (q : NestedKey × Addr × Value) => p.1 = q.1 ∧ p.2.1 = q.2.1 ∧ RelV p.2.2 q.2.2) kvs xs)
    (d : h.DictOfH (nestedKind P w) a xs) : ObjOk P w H h a (fdO P w a kvs) := by
  obtain ⟨o, es, ep, h1, h2, h3, h4, _, h5⟩ := d
  exact ⟨⟨hd, hl, xs, r, o, es, ep, h1, h2, h3, h4, h5⟩, ⟨o, h1⟩, fun g1 g2 ⟨k1, k2, xs, k3, o, es, ep, k4, k5⟩ k => ⟨k1, k2, xs, k3, o, es, ep, k o k4, k5⟩⟩
def putE (kvs : List EnF) (k : NestedKey) (b : Addr) (v : V) : List EnF := if kvs.any (fun p => decide (p.1 = k)) then kvs.map (fun p => if p.1 = k then (p.1, p.2.1, v) else p) else kvs ++ [(k, b, v)]
theorem rel_any {kvs : List EnF} {xs : List (NestedKey × Addr × Value)} (r : Paired (fun (p : EnF) (q : NestedKey × Addr × Value) => p.1 = q.1 ∧ p.2.1 = q.2.1 ∧ RelV p.2.2 q.2.2) kvs xs) (k : NestedKey) : (atKey xs k).isSome = kvs.any (fun p => decide (p.1 = k)) := by
  induction r with
  | nil => rfl
  | @cons p q kvs xs h t ih =>
    unfold atKey
    rw [List.find?_cons, List.any_cons, h.1]
    by_cases e : q.1 = k
    · simp [e]
    · rw [decide_eq_false e, Bool.false_or]
      exact ih
theorem rel_put {kvs : List EnF} {xs : List (NestedKey × Addr × Value)} (r : Paired (fun (p : EnF) (q : NestedKey × Addr × Value) => p.1 = q.1 ∧ p.2.1 = q.2.1 ∧ RelV p.2.2 q.2.2) kvs xs) (k : NestedKey) (b : Addr) {v : V} {u : Value} (rv : RelV v u) :
    Paired (fun (p : EnF) (q : NestedKey × Addr × Value) => p.1 = q.1 ∧ p.2.1 = q.2.1 ∧ RelV p.2.2 q.2.2) (putE kvs k b v) (storedH xs k b u) := by
  unfold putE storedH
  rw [rel_any r k]
  cases kvs.any (fun p => decide (p.1 = k)) with
  | false =>
    rw [if_neg Bool.false_ne_true, if_neg Bool.false_ne_true]
    induction r with
    | nil => exact .cons ⟨rfl, rfl, rv⟩ .nil
    | cons h t ih => exact .cons h ih
  | true =>
    rw [if_pos rfl, if_pos rfl]
    induction r with
    | nil => exact .nil
    | @cons p q kvs xs h t ih =>
      refine .cons ?_ ih
      show (if p.1 = k then (p.1, p.2.1, v) else p).1 = (putAt k u q).1 ∧ (if p.1 = k then (p.1, p.2.1, v) else p).2.1 = (putAt k u q).2.1 ∧ RelV (if p.1 = k then (p.1, p.2.1, v) else p).2.2 (putAt k u q).2.2
      unfold putAt
      by_cases e : q.1 = k
      · rw [if_pos e, if_pos (h.1.trans e)]; exact ⟨h.1, h.2.1, rv⟩
      · rw [if_neg e, if_neg (fun z => e (h.1.symm.trans z))]; exact h
theorem putE_len (kvs : List EnF) (k : NestedKey) (b : Addr) (v : V) : (putE kvs k b v).length ≤ kvs.length + 1 := by
  unfold putE
  split
  · rw [List.length_map]; omega
  · rw [List.length_append]; exact Nat.le_refl _
section
variable {X : Cx}
theorem fd_at {pins : List (Addr × Obj)} {σ : L2.St} {H : Hp} {s : Shared} {a : Addr} {kvs : List EnF} (I : Inv X pins σ H s) (e : H a = some (fdO X.prog X.w a kvs)) (hk : ∀ p ∈ kvs, (nestedKind X.prog X.w).is s.heap p.1 p.2.1) :
    (a == sysModules) = false ∧ kvs.length ≤ sizeLine ∧ ∃ xs, Paired (fun (p : EnF) (q : NestedKey × Addr × Value) => p.1 = q.1 ∧ p.2.1 = q.2.1 ∧ RelV p.2.2 q.2.2) kvs xs ∧ s.heap.DictOfH (nestedKind X.prog X.w) a xs := by
  obtain ⟨⟨h1, h2, xs, r, o, es, ep, h3, h4, h5, h6, h7⟩, _⟩ := I.hok a _ e
  refine ⟨h1, h2, xs, r, o, es, ep, h3, h4, h5, h6, fun x hx => ?_, h7⟩
  obtain ⟨j, hj⟩ := List.mem_iff_getElem?.mp hx
  obtain ⟨p, g1, g2, g3, _⟩ := pget' r hj
  have := hk p (List.mem_of_getElem? g1)
  rw [g2, g3] at this
  exact this
/-- d[k] = v -/
def sFPut (X : Cx) (td ty tv : TE) : TS := fun D σ H => tv σ H fun v H1 => td σ H1 fun x H2 => ty σ H2 fun y H3 => ∃ (a : Addr) (kvs : List EnF) (k : NestedKey) (b : Addr), x = .ref a ∧ y = .ref b ∧ H3 a = some (fdO X.prog X.w a kvs) ∧ kvs.length < sizeLine ∧
  (∀ pins s, Inv X pins σ H3 s → (nestedKind X.prog X.w).is s.heap k b ∧ ∀ p ∈ kvs, (nestedKind X.prog X.w).is s.heap p.1 p.2.1) ∧ D.nx σ (upd H3 a (fdO X.prog X.w a (putE kvs k b v)))
theorem ps_fput {o i value : Expr} {td ty tv : TE} {pos pos' : Pos} (hu : X.A.units + 64 < cLine) (ho : PE X o td) (hi : PE X i ty) (hv : PE X value tv) (hs : swapsWith value (some (.Subscript o i pos')) pos.line X.env = pure false) :
    PS X (.Assign [.Subscript o i pos'] value pos) (sFPut X td ty tv) := by
  refine ⟨fun pins s σ H D I h => ?_⟩
  refine wpAny_Assign_Subscript (thn (hv.run pins s σ H _ I h) fun r s1 ⟨v, H1, I1, rv, q1⟩ => thn (ho.run pins s1 σ H1 _ I1 q1) fun u s2 ⟨x, H2, I2, rx, q2⟩ => thn (hi.run pins s2 σ H2 _ I2 q2) fun iv s3 ⟨y, H3, I3, ry, a, kvs, k, b, ex, ey, e, hl, hk, q3⟩ => ?_) hs
  subst ex ey
  obtain rfl : u = Value.ref a := rx
  obtain rfl : iv = Value.ref b := ry
  obtain ⟨k1, k2⟩ := hk pins s3 I3
  obtain ⟨hd, hz, xs, rel, dd⟩ := fd_at I3 e k2
  have lx : kvs.length = xs.length := Paired.length rel
  refine wpAny_setItem_heap (hsz := by rw [← lx]; exact hz) (show (nestedKind X.prog X.w).room _ from by show _ + 8 < cLine; rw [Around.in1_units]; omega) k1 dd fun h' dd' hs => ?_
  have he : ∃ q, h'.get? a = some q := let ⟨q, _, _, hq, _⟩ := dd'; ⟨q, hq⟩
  exact ⟨σ, _, d_write I3 (by rw [e]; exact True.intro) hs he (fdO_ok hd (by have := putE_len kvs k b v; omega) (rel_put rel k b rv) dd'), q3⟩
def tFNew (X : Cx) : TE := fun _ H Q => ∀ p, H p = none → Q (.ref p) (upd H p (fdO X.prog X.w p []))
theorem pe_fnew {pos : Pos} : PE X (.Dict [] [] pos) (tFNew X) := ⟨fun pins s σ H Q I h =>
  wpAny_Dict_empty ⟨.ref s.heap.objs.size, _, I.laid (a := s.heap.objs.size) (o := fdO X.prog X.w s.heap.objs.size []) (t' := s.toks) (fun _ _ q => Heap.get?_push_of_some _ q) (Nat.le_refl _)
    (fdO_ok (beq_eq_false_iff_ne.mpr (Ne.symm (Nat.ne_of_lt I.big))) (Nat.zero_le _) .nil (Heap.DictOfH.new s.heap)), rfl, h _ (I.hok.fresh (Nat.le_refl _))⟩⟩
end
theorem kdl_raw {prog : Program} {w : World} {d : Addr} {es : Array DictEntry} {ep : Nat} (lo : (d == sysModules) = false) : KdlSrc prog w "dict" d d es.size (fun i v => ∃ hi : i < es.size, v = es[i].key) (fun h => h.DictRaw d es ep) where
  type := fun _ hm => hm.typeIs
  there := fun _ hm => let ⟨_, ho, _⟩ := hm; ⟨Heap.lt_size ho, Heap.lt_size ho⟩
  keep := fun _ _ hm hk => hm.at fun o e => hk d (.inl rfl) o e
  notList := by decide
  notTuple := by decide
  hint := fun _ _ _ _ hm hq => kdl_hint_dict hm.typeIs hq
  iter := fun _ s hh hm => ⟨_, _, (fun _ _ hq => wpAny_pyIter_dict_raw lo hm hq), Walks.rawKeys hh _ d (let ⟨_, ho, _⟩ := hm; Nat.ne_of_lt (Heap.lt_size ho)) es ep, ⟨⟨_, Heap.get?_push_size _ rfl, rfl, rfl⟩, hm.at fun o e => Heap.get?_push_of_some _ e⟩⟩
theorem each_ix {β : Type} {R : Value → β → Prop} : ∀ {us : List Value} {ys : List β}, us.length = ys.length → (∀ (j : Nat) (v : Value) (y : β), us[j]? = some v → ys[j]? = some y → R v y) → PySem.W.EachIs R us ys
  | [], [], _, _ => .nil
  | u :: us, y :: ys, h, f => .cons (f 0 u y rfl rfl) (each_ix (Nat.succ.inj h) fun j v y h1 h2 => f (j + 1) v y h1 h2)
  | [], _ :: _, h, _ => by cases h
  | _ :: _, [], h, _ => by cases h
section
variable {κ α : Type} [Py κ] [DecidableEq κ] [PyN κ] [Py α]
def KvF (K : Fg) (H : Hp) (d : List (κ × α)) (kvs : List EnF) : Prop := Paired (fun (q : κ × α) (kv : EnF) => kv.1 = PyN.key q.1 ∧ Py.rep K H q.1 (.ref kv.2.1) ∧ Py.rep K H q.2 kv.2.2) d kvs
theorem KvF.mono {K : Fg} {H H' : Hp} {d : List (κ × α)} {kvs : List EnF} (s : Same H H') (h : KvF K H d kvs) : KvF K H' d kvs := Paired.mapP h fun _ _ r => ⟨r.1, Py.mono s r.2.1, Py.mono s r.2.2⟩
/-- the tree of such a dict -/
def fdT (K : Fg) (P : Program) (w : World) (d : List (κ × α)) : Tr := ⟨fun Hi H A v => ∃ a kvs, v = .ref a ∧ A = [a] ∧ H a = some (fdO P w a kvs) ∧ KvF K Hi d kvs,
  fun s e ⟨a, kvs, h1, h2, h3, h4⟩ => ⟨a, kvs, h1, h2, by rw [e a (by rw [h2]; exact List.mem_singleton.mpr rfl)]; exact h3, h4.mono s⟩⟩
def putF (d : List (κ × α)) (k : κ) (v : α) : List (κ × α) := if d.any (fun q => decide (q.1 = k)) then d.map (fun q => if q.1 = k then (q.1, v) else q) else d ++ [(k, v)]
theorem KvF.keys {X : Cx} {pins : List (Addr × Obj)} {σ : L2.St} {H Hi : Hp} {s : Shared} {d : List (κ × α)} {kvs : List EnF} (hd : PyN.dep κ ≤ 8) (I : Inv X pins σ H s) (sm : Same Hi H) (h : KvF X.K Hi d kvs) : ∀ p ∈ kvs, (nestedKind X.prog X.w).is s.heap p.1 p.2.1 := fun p hp => by
  obtain ⟨j, hj⟩ := List.mem_iff_getElem?.mp hp
  obtain ⟨q, g1, g2, g3, _⟩ := pget' h hj
  refine ⟨?_, by rw [g2]; exact Nat.le_trans (PyN.hdep _) hd⟩
  rw [g2]
  exact PyN.is I (Py.mono sm g3) rfl
theorem KvF.any {K : Fg} {H : Hp} {d : List (κ × α)} {kvs : List EnF} (h : KvF K H d kvs) (k : κ) : kvs.any (fun p => decide (p.1 = PyN.key k)) = d.any (fun q => decide (q.1 = k)) := by
  induction h with
  | nil => rfl
  | @cons q p d kvs r t ih =>
    rw [List.any_cons, List.any_cons, ih, r.1]
    congr 1
    by_cases e : q.1 = k
    · rw [decide_eq_true e, decide_eq_true (congrArg PyN.key e)]
    · rw [decide_eq_false e, decide_eq_false fun z => e (PyN.inj _ _ z)]
theorem KvF.put {K : Fg} {H : Hp} {d : List (κ × α)} {kvs : List EnF} (h : KvF K H d kvs) {k : κ} {a : α} {b : Addr} {v : V} (rk : Py.rep K H k (.ref b)) (rv : Py.rep K H a v) : KvF K H (putF d k a) (putE kvs (PyN.key k) b v) := by
  unfold putF putE
  rw [h.any k]
  cases d.any (fun q => decide (q.1 = k)) with
  | false =>
    rw [if_neg Bool.false_ne_true, if_neg Bool.false_ne_true]
    induction h with
    | nil => exact .cons ⟨rfl, rk, rv⟩ .nil
    | cons r t ih => exact .cons r ih
  | true =>
    rw [if_pos rfl, if_pos rfl]
    induction h with
    | nil => exact .nil
    | @cons q p d kvs r t ih =>
      refine .cons ?_ ih
      show (if p.1 = PyN.key k then (p.1, p.2.1, v) else p).1 = PyN.key (if q.1 = k then (q.1, a) else q).1 ∧ Py.rep K H (if q.1 = k then (q.1, a) else q).1 (.ref (if p.1 = PyN.key k then (p.1, p.2.1, v) else p).2.1) ∧ Py.rep K H (if q.1 = k then (q.1, a) else q).2 (if p.1 = PyN.key k then (p.1, p.2.1, v) else p).2.2
      by_cases e : q.1 = k
      · rw [if_pos e, if_pos (show p.1 = PyN.key k from by rw [r.1, e])]
        exact ⟨r.1, r.2.1, rv⟩
      · rw [if_neg e, if_neg (fun z => e (PyN.inj _ _ (r.1.symm.trans z)))]
        exact r
theorem KvF.length {K : Fg} {H : Hp} {d : List (κ × α)} {kvs : List EnF} (h : KvF K H d kvs) : d.length = kvs.length := Paired.length h
variable {X : Cx} {K : Fg} {mg : Str → Option Value} {b : Bs} {L : List En} {E : XK} {e ed e1 : Expr} {S : Type} {pos p' p2 : Pos} {put : Tr → List En}
theorem AtP.fd {P : Program} {w : World} {σ : L2.St} {Hi H Hi' H' : Hp} {d d' : List (κ × α)} {v : V} (h : AtP b σ put (fdT K P w d) v Hi H) (x : Nx Hi H Hi' H') : ∃ q kvs, v = .ref q ∧ H' q = some (fdO P w q kvs) ∧ KvF K Hi' d kvs ∧ ∀ kvs', KvF K Hi' d' kvs' → EnvOk b (put (fdT K P w d')) σ Hi' (upd H' q (fdO P w q kvs')) := by
  obtain ⟨A, ⟨p, kvs, h1, h2, h3, h4⟩, g2, g3, g4⟩ := h.go Hi' H' x
  subst h1; subst h2
  have hp := (g2 p (List.mem_singleton.mpr rfl)).2
  refine ⟨p, kvs, rfl, h3, h4, fun kvs' r => g4 _ [p] Hi' _ (Ok.mutA x.sub hp (List.mem_singleton.mpr rfl)) ⟨p, kvs', rfl, rfl, upd_same, r⟩ fun a ha => ?_⟩
  cases List.mem_singleton.mp ha
  exact ⟨(by rw [upd_same]; exact fun z => nomatch z), hp, .inl (List.mem_singleton.mpr rfl)⟩
theorem j1_fput [IsRef κ] {m : M α} {mk : M κ} {d : List (κ × α)} (hd : PyN.dep κ ≤ 8) (hu : X.A.units + 64 < cLine) (h : JE X K b L E e m) (hp : JP X b L ed (fdT K X.prog X.w d) put) (hk : JE X K b L E e1 mk) (hK : X.K = K := by rfl) (hs : swapsWith e (some (.Subscript ed e1 p')) pos.line X.env = pure false := by rfl) :
    J1 X K b L E (.Assign [.Subscript ed e1 p'] e pos) (m >>= fun a => mk >>= fun k => chk (d.length < SZ) >>= fun _ => (pure (putF d k a) : M (List (κ × α)))) (fun d' => put (fdT K X.prog X.w d')) :=
  ⟨fun σ Hi H en D hz => by
    subst hK
    refine PS.wp (ps_fput hu pe_wp pe_wp pe_wp hs) (h.go σ Hi H en _ ((PZ.bind en hz).imp fun a Hi1 H1 y1 q1 v rv => ?_))
    have en1 := en.nx y1
    obtain ⟨v0, at0, go⟩ := hp.go σ Hi1 H1 en1
    refine go _ (hk.go σ Hi1 H1 en1 _ ((PZ.bind en1 q1).imp fun k Hi2 H2 y2 q2 w rw' => ?_))
    obtain ⟨c, q2⟩ := PZ.chk q2
    obtain ⟨bb, rfl⟩ := IsRef.ref rw'
    obtain ⟨q, kvs, rfl, h2, h3, up⟩ := at0.fd (d' := putF d k a) y2
    refine ⟨q, kvs, PyN.key k, bb, rfl, rfl, h2, by rw [← h3.length]; exact c, fun pins s I => ⟨⟨PyN.is I (Py.mono y2.sub rw') rfl, Nat.le_trans (PyN.hdep _) hd⟩, h3.keys hd I y2.sub⟩, ?_⟩
    exact (show ∀ σ' Hi' H', EnvOk b (put (fdT X.K X.prog X.w (putF d k a))) σ' Hi' H' → D.nx σ' H' from q2) _ Hi2 _ (up _ (h3.put rw' (Py.mono y2.im rv)))⟩
/-- {} to hold such keys -/
theorem j1_fnew (i : Nat) {x : Str} (hN : X.N.Nodup) (hi : X.N[i]? = some x := by rfl) (hx : Loc X.env.scope x := by first | exact Or.inl rfl | exact Or.inr rfl) (hs : swapsWith (.Dict [] [] p2) (some (.Name x p')) pos.line X.env = pure false := by rfl)
    (hf : X.fn x = true ∨ X.env.scope.names.lookup x = some .local := by first | exact .inl rfl | exact .inr rfl) : J1 X K b L E (.Assign [.Name x p'] (.Dict [] [] p2) pos) (pure [] : M (List (κ × α))) (fun d => L.set i (.tr false (fdT K X.prog X.w d))) :=
  ⟨fun σ Hi H en D hz => PS.wp (ps_set hN hi hx pe_fnew hs hf) fun p hp => by
    have hp : H p = none := hp
    exact (show ∀ σ' Hi' H', EnvOk b (L.set i (.tr false (fdT K X.prog X.w ([] : List (κ × α))))) σ' Hi' H' → D.nx σ' H' from hz) _ Hi _ (en.setT (A := [p]) (Nx.temp en.sub hp) ⟨p, [], rfl, rfl, upd_same, .nil⟩ fun a ha => by
      cases List.mem_singleton.mp ha
      exact ⟨hp, (by rw [upd_same]; exact fun z => nomatch z), hi_none en.sub hp⟩)⟩
variable [PyD κ] [PyL κ] [PySo κ]
def rSortF (X : Cx) (κ α : Type) [Py κ] [DecidableEq κ] [PyN κ] [Py α] [PyD κ] : List V → Hp → VK → Prop := fun xs H Q => ∃ (a : Addr) (kvs : List EnF) (d : List (κ × α)) (Hi : Hp), xs = [.ref a] ∧ H a = some (fdO X.prog X.w a kvs) ∧ Same Hi H ∧ KvF X.K Hi d kvs ∧ (∀ b ∈ d.map (·.1), Shp b) ∧ d.length ≤ sizeLine ∧
  ∀ (Hi' H' : Hp) (q : Addr) (ws : List V), Nx Hi H Hi' H' → H q = none → Hi' q = none → H' q = some (.lst ws) → Rl X.K Hi' (srtD (d.map (·.1))) ws → Q (.ref q) H'
theorem cr_sortF (hd : PyN.dep κ ≤ 8) (hc : X.calm = true) (hu : X.A.units + 70 < cLine) : CallR X (.builtin "sorted") (rSortF X κ α) := by
  intro pins s σ H xs us Q I r h
  obtain ⟨a, kvs, d, Hi, rfl, ha, sm, kd, shp, hz, q⟩ := h
  rw [Vals.ref1 r]
  obtain ⟨lo, hl, xs, rel, o, es, ep, ho, hx, hdat, hes, hks, hnd⟩ := fd_at I ha (kd.keys hd I sm)
  have l1 : d.length = kvs.length := kd.length
  have l2 : kvs.length = xs.length := Paired.length rel
  have l3 : es.size = xs.length := size_of_entries hes
  refine sorted_by (Hi := Hi) (pins := pins) (σ := σ) hu (d.map (·.1)) shp (by rw [List.length_map]; exact hz) (fun R hR => ?_) fun s' Hi' H' pp ws I' nx n1 n2 n3 n4 => ⟨.ref pp, H', I', rfl, q Hi' H' pp ws nx n1 n2 n3 n4⟩
  refine PySem.W.kdu_collect (kdl_raw (es := es) (ep := ep) lo) (I.ok.hd hc) ⟨o, ho, hx, hdat⟩ (by omega) fun h' tk acc hk hacc => hR h' tk acc.toList H Hi (I.kept hk) (Nx.refl sm) (each_ix (by rw [Array.length_toList, List.length_map, hacc.1]; omega) fun j v y e1 e2 => ?_)
  rw [Array.getElem?_toList] at e1
  obtain ⟨hj, rfl⟩ := hacc.2 j v e1
  rw [List.getElem?_map] at e2
  cases e3 : d[j]? with
  | none => rw [e3] at e2; cases e2
  | some dq =>
    rw [e3] at e2
    cases e2
    obtain ⟨kv, g1, g2, g3, _⟩ := pget1 kd e3
    obtain ⟨xq, k1, k2, k3, _⟩ := pget1 rel g1
    have e4 : es[j]? = some (entryOfKey (nestedKind X.prog X.w) xq) := by rw [entry_at hes, k1]; rfl
    have e5 : es[j] = entryOfKey (nestedKind X.prog X.w) xq := Option.some.inj ((Array.getElem?_eq_getElem hj).symm.trans e4)
    refine ⟨V.ref kv.2.1, ?_, g3⟩
    rw [e5, k3]
    rfl
theorem jf_sortF (d : List (κ × α)) (hd : PyN.dep κ ≤ 8) (hc : X.calm = true) (hu : X.A.units + 70 < cLine) (hm : mg "sorted" = none) (h : JP X b L e (fdT K X.prog X.w d) put) (hK : X.K = K := by rfl) (hM : X.mg = mg := by rfl)
    (hg : Gl X "sorted" := by rfl) (he : starEach [e] X.env = (false, eval e X.env) :: starEach [] X.env := by rfl) (hpl : (backTo pos (starEach [] X.env)).any (·.1) = false := by rfl) : JF X K b L E (.Call (.Name "sorted" p2) [e] [] pos) (ctL K) (sortM (List.map (fun (q : κ × α) => q.1) d)) := by
  subst hK
  exact ⟨fun σ Hi H en Q hq => PE.wp (pe_callB (cr_sortF (κ := κ) (α := α) hd hc hu) hg (by rw [hM]; exact hm) bt_sorted (pa_cons pe_wp pa_nil he) (by decide) (by decide) he hpl) (by
    obtain ⟨v, at0, go⟩ := h.go σ Hi H en
    obtain ⟨q, kvs, rfl, h2, h3, _⟩ := at0.fd (d' := d) en.rf
    obtain ⟨⟨c1, c2⟩, hq⟩ := PX.chk hq
    refine go _ ⟨q, kvs, d, Hi, rfl, h2, en.sub, h3, c2, by rw [List.length_map] at c1; exact c1, fun Hi' H' r ws nx q1 q2 q3 q4 => ?_⟩
    exact (PX.go (a := srtD (List.map (fun (q : κ × α) => q.1) d)) hq nx) r _ q3 q1 q2 ⟨_, rfl, q4⟩)⟩
end
end G

set_option Elab.async false
set_option linter.all false
set_option maxRecDepth 100000
set_option maxHeartbeats 2000000
namespace G
open PySem L2 TL
def ifM {α S : Type} (mc : M (Bool × S)) (ma mb : S → M α) : M α := mc >>= fun r => if r.1 = true then ma r.2 else mb r.2
theorem co_NU {α : Type} [Py α] {K : Fg} : ∀ (H : Hp) (x : TupN α) (v : V), Py.rep K H x v → Py.rep K H (show Tup α from x) v := fun H x v h => TupN.u h
section
variable {X : Cx} {K : Fg} {b : Bs} {L : List En} {E : XK} {e c : Expr} {st : Stmt} {rest a bb : List Stmt} {α S S' R : Type} {pos : Pos} {tl : Ends → Prop} {post : α → Ends → Prop}
theorem j1_ifN {mc : M (Bool × S)} {Lc : S → List En} {ma mb : S → M S'} {Lf : S' → List En} (h : JTM X K b L E c mc Lc) (h1 : ∀ s, JS X K b (Lc s) E a tlAny (ma s) (pNx b Lf)) (h2 : ∀ s, JS X K b (Lc s) E bb tlAny (mb s) (pNx b Lf)) : J1 X K b L E (.If c a bb pos) (ifM mc ma mb) Lf := j1_ifM h h1 h2
theorem js_if1N {mc : M (Bool × S)} {Lc : S → List En} {ma mr : S → M α} (pi : PiOk post) (h : JTM X K b L E c mc Lc) (h1 : ∀ s, JS X K b (Lc s) E a tlAny (ma s) post) (h2 : ∀ s, JS X K b (Lc s) E rest tl (mr s) post) : JS X K b L E (.If c a [] pos :: rest) tl (ifM mc ma mr) post := js_if1M pi h h1 h2
end
/-- x in ys -/
def memD {α : Type} [DecidableEq α] (x : α) (ys : List α) : Bool := decide (x ∈ ys)
section
variable {K : Fg} {E : XK} {α β γ δ : Type} [Py α] [Py β] [Py γ] [Py δ]
theorem ro_inDM [DecidableEq α] [PyD α] : RO K E (rInD K) (fun (x : α) (ys : List α) => chk (Shp x ∧ Shp ys) >>= fun _ => (pure (memD x ys) : M Bool)) := ro_inDL
theorem ro_notInDM [DecidableEq α] [PyD α] : RO K E (rNotInD K) (fun (x : α) (ys : List α) => chk (Shp x ∧ Shp ys) >>= fun _ => (pure (!memD x ys) : M Bool)) := ro_notInDL
theorem tyx_T4 : TyxOk K (T4 α β γ δ) "tuple" := fun _ _ _ h => by
  obtain ⟨p, v1, v2, v3, v4, rfl, h1, _⟩ := h
  exact tyx_sqt h1
end
end G

set_option Elab.async false
set_option linter.all false
set_option maxRecDepth 100000
set_option maxHeartbeats 4000000
namespace G
open PySem L2 TL
/-! min of a list of texts -/
def lesT (a y : Tx) : Tx := if y < a then y else a
def minT : List Tx → M Tx
  | [] => stuck
  | x :: r => pure (r.foldl lesT x)
def rMinT (K : Fg) : List V → Hp → VK → Prop := fun xs H Q => ∃ (a : Addr) (y : Tx) (ys : List Tx), xs = [.ref a] ∧ SqL K H a ((y :: ys).map fun t => V.str (G.S t)) ∧ Q (.str (G.S (ys.foldl lesT y))) H
theorem reads_txts {h : Heap} : ∀ {ys : List Tx} {us : List Value}, Vals (ys.map fun t => V.str (G.S t)) us → ReadsAll h us (ys.map fun t => PyData.str (G.S t)) []
  | [], _, .nil => .nil
  | y :: ys, _, .cons r t => by
    obtain ⟨k, rfl⟩ := r
    exact .cons (as := []) (.str _ _) (reads_txts t)
theorem minD_txts : ∀ (ys : List Tx) (y : Tx), PySem.W.minD (.str (G.S y)) (ys.map fun t => PyData.str (G.S t)) = .str (G.S (ys.foldl lesT y))
  | [], y => rfl
  | x :: ys, y => by
    rw [List.foldl_cons, ← minD_txts ys (lesT y x)]
    unfold PySem.W.minD
    rw [List.map_cons, List.foldl_cons, PySem.W.dataLt_str]
    congr 1
    unfold lesT
    by_cases h : x < y
    · rw [if_pos h, if_pos (decide_eq_true (show (G.S x).cps.toList < (G.S y).cps.toList from h))]
    · rw [if_neg h, if_neg (by rw [decide_eq_false (show ¬ (G.S x).cps.toList < (G.S y).cps.toList from h)]; exact Bool.false_ne_true)]
theorem dep_txts : ∀ ys : List Tx, PyData.depthAll (ys.map fun t => PyData.str (G.S t)) = 0
  | [] => by simp only [List.map_nil, PyData.depthAll]
  | y :: ys => by simp only [List.map_cons, PyData.depthAll, PyData.depth, dep_txts ys]; rfl
theorem alike_txts (ys : List Tx) : PySem.W.AlikeAll (ys.map fun t => PyData.str (G.S t)) :=
  ⟨fun a ha b hb => by
    obtain ⟨x, _, rfl⟩ := List.mem_map.mp ha
    obtain ⟨y, _, rfl⟩ := List.mem_map.mp hb
    rfl, fun a ha e => by
    obtain ⟨x, _, rfl⟩ := List.mem_map.mp ha
    cases e⟩
theorem call_minT {X : Cx} (hu : X.A.units + 65 < cLine) (hc : X.calm = true := by rfl) : CallR X (.builtin "min") (rMinT X.K) := by
  intro pins s σ H xs us Q I r h
  obtain ⟨a, y, ys, rfl, hs, q⟩ := h
  obtain ⟨its, rv, hl, _⟩ := I.list hs
  rw [Vals.ref1 r]
  refine PySem.W.min_list_data (x := .str (G.S y)) (xs := ys.map fun t => PyData.str (G.S t)) (as := []) (I.ok.hd hc) hl.isList (by simpa using reads_txts (ys := y :: ys) rv) (alike_txts (y :: ys)) ?_ fun i v h' tk bs hv rd k => ?_
  · have := dep_txts (y :: ys)
    rw [List.map_cons] at this
    rw [this]
    omega
  · rw [minD_txts] at rd
    cases rd with
    | str x t => exact ⟨.str _, H, I.kept k, ⟨t, rfl⟩, q⟩
theorem rl_txts {K : Fg} {H : Hp} : ∀ {xs : List Tx} {vs : List V}, Rl K H xs vs → vs = xs.map fun t => V.str (G.S t)
  | [], _, h => by cases h; rfl
  | x :: xs, _, h => by
    cases h with
    | cons h1 h2 => rw [List.map_cons, rl_txts h2, show _ = V.str (G.S x) from h1]
theorem ra_minT {K : Fg} {E : XK} : RA1 K E (rMinT K) minT := by
  rintro xs v Hi H Q s ⟨p, vs, rfl, h1, h2⟩ h
  cases rl_txts h2
  cases xs with
  | nil => exact h.elim
  | cons y ys => exact ⟨p, y, ys, rfl, Same.seq s h1, PX.here h s _ rfl⟩
theorem bt_min' : bootBuiltins "min" = some (.builtin "min") := bt_min
end G

set_option Elab.async false
set_option linter.all false
set_option maxRecDepth 100000
set_option maxHeartbeats 4000000
/-! ### len(set(xs)), xs a list of texts -/
namespace G
open PySem PySem.Spec PyProof.Rows
def addS {α : Type} [DecidableEq α] (acc : List α) (x : α) : List α := if x ∈ acc then acc else acc ++ [x]
def nubS {α : Type} [DecidableEq α] (xs : List α) : List α := xs.foldl addS []
theorem nubS_app {α : Type} [DecidableEq α] (xs : List α) (x : α) : nubS (xs ++ [x]) = addS (nubS xs) x := by unfold nubS; rw [List.foldl_append]; rfl
theorem addS_mem {α : Type} [DecidableEq α] {acc : List α} {x y : α} : y ∈ addS acc x ↔ y ∈ acc ∨ y = x := by
  unfold addS
  by_cases h : x ∈ acc
  · rw [if_pos h]; exact ⟨.inl, fun z => z.elim id fun e => e ▸ h⟩
  · rw [if_neg h, List.mem_append, List.mem_singleton]
theorem foldS_mem {α : Type} [DecidableEq α] {y : α} : ∀ (xs acc : List α), y ∈ xs.foldl addS acc ↔ y ∈ acc ∨ y ∈ xs
  | [], acc => by simp
  | x :: xs, acc => by rw [List.foldl_cons, foldS_mem xs, addS_mem, List.mem_cons, or_assoc]
theorem nubS_mem {α : Type} [DecidableEq α] {y : α} (xs : List α) : y ∈ nubS xs ↔ y ∈ xs := by unfold nubS; rw [foldS_mem]; simp
theorem foldS_len {α : Type} [DecidableEq α] : ∀ (xs acc : List α), (xs.foldl addS acc).length ≤ acc.length + xs.length
  | [], acc => Nat.le_refl _
  | x :: xs, acc => by
    rw [List.foldl_cons, List.length_cons]
    have := foldS_len xs (addS acc x)
    have h2 : (addS acc x).length ≤ acc.length + 1 := by
      unfold addS
      split
      · exact Nat.le_succ _
      · rw [List.length_append]; exact Nat.le_refl _
    omega
/-- the set at a is that of these texts -/
def HoldsS (P : Program) (w : World) (h : Heap) (a : Addr) (xs : List Str) : Prop := h.SetOf (PySem.strKind P w) a (fun k => decide (k ∈ xs)) (nubS xs).length
theorem HoldsS.keep {P : Program} {w : World} {h h' : Heap} {a : Addr} {xs : List Str} (z : HoldsS P w h a xs) (e : ∀ o, h.get? a = some o → h'.get? a = some o) : HoldsS P w h' a xs := by
  obtain ⟨o, es, ep, tb, ho, rest⟩ := z
  exact ⟨o, es, ep, tb, e o ho, rest⟩
theorem HoldsS.more {P : Program} {w : World} {h : Heap} {a : Addr} {xs : List Str} {x : Str} (z : h.SetOf (PySem.strKind P w) a (fun k => decide (k ∈ xs) || decide (k = x)) (if decide (x ∈ xs) then (nubS xs).length else (nubS xs).length + 1)) : HoldsS P w h a (xs ++ [x]) := by
  refine SetOf_congr z (fun k => ?_) ?_
  · rw [← Bool.decide_or]
    exact decide_eq_decide.mpr (by rw [List.mem_append, List.mem_singleton])
  · rw [nubS_app]
    unfold addS
    by_cases c : x ∈ xs
    · rw [if_pos ((nubS_mem xs).mpr c), if_pos (decide_eq_true c)]
    · rw [if_neg (fun q => c ((nubS_mem xs).mp q)), if_neg (by rw [decide_eq_false c]; exact Bool.false_ne_true), List.length_append]; rfl
section
variable {P : Program} {w : World} {A : Around} {R : Result → Shared → Prop} {I : Addr} {fp wr : List Addr} {G : Array GenState → Array GenState → Prop} {n : Nat} {Pi : Nat → Value → Prop} {St : Nat → Shared → Prop}
theorem fill_set (W : WalksS P w A.in1 I fp wr G n Pi St) {S : Addr} (nS : S ∉ fp) {xs : List Str} (lx : xs.length = n) (ln : n < 4000) (val : ∀ i v, Pi i v → ∃ t, v = .str (xs.getD i Str.empty) t) :
    ∀ (k i : Nat) (s : Shared), i + k = n → St i s → HoldsS P w s.heap S (xs.take i) → (∀ s', Moved (S :: wr) G s s' → HoldsS P w s'.heap S xs → R (.ok (.ret .none)) s') → codeAny (model P w) A (.builtin "set.update.loop" ⟨[.ref S, .ref I], []⟩) R s := by
  have nW : S ∉ wr := fun z => nS (W.sub _ z)
  have up : ∀ b ∈ wr, b ∈ S :: wr := fun b z => List.mem_cons_of_mem _ z
  intro k
  induction k with
  | zero =>
    intro i s hk st hs go
    have e : i = n := by omega
    rw [e, ← lx, List.take_length] at hs
    rw [e] at st
    refine codeAny_builtin PyProof.Rows.F.entry_set_update_loop (by
      rw [Around.under_plainId PyProof.Rows.F.plain_set_update_loop _]
      show wpAny _ A.in1 (pyNext (.ref I) >>= _) _ _ s
      refine wpAny_bind (W.done s _ _ st fun s' m => (show wpAny _ A.in1 (ret Value.none) _ _ s' from wpAny_pure (go s' (m.mono up) (hs.keep fun o ho => m.heap S o nW ho)))))
  | succ k ih =>
    intro i s hk st hs go
    have li : i < n := by omega
    refine codeAny_builtin PyProof.Rows.F.entry_set_update_loop (by
      rw [Around.under_plainId PyProof.Rows.F.plain_set_update_loop _]
      show wpAny _ A.in1 (pyNext (.ref I) >>= _) _ _ s
      refine wpAny_bind (W.item i s _ _ li st fun v s1 hv st1 m1 => ?_)
      obtain ⟨t, rfl⟩ := val i v hv
      have hs1 : HoldsS P w s1.heap S (xs.take i) := hs.keep fun o ho => m1.heap S o nW ho
      show wpAny _ A.in1 (holding [Value.str (xs.getD i Str.empty) t] (setAdd S (.str (xs.getD i Str.empty) t)) >>= _) _ _ s1
      unfold setAdd
      refine wpAny_bind (wpAny_holding (wpAny_holding (wpAny_bind ((PySem.strKind P w).pyHash (k := xs.getD i Str.empty) (strKind_is _ _ _ _) ?_))))
      have room : (nubS (xs.take i)).length + 1 < scanBound := by
        have := foldS_len (xs.take i) []
        rw [List.length_take] at this
        unfold nubS scanBound
        simp only [List.length_nil] at this
        omega
      refine wpAny_setAddHashed_of (knd := PySem.strKind P w) (s := { s1 with toks := s1.toks + 1 }) (strKind_is _ _ _ _) rfl hs1 room fun h2 same hs2 => ?_
      have e2 : xs.take (i + 1) = xs.take i ++ [xs.getD i Str.empty] := by
        rw [List.take_add_one, List.getD_eq_getElem?_getD, List.getElem?_eq_getElem (by omega : i < xs.length)]; rfl
      have hs3 : HoldsS P w h2 S (xs.take (i + 1)) := by rw [e2]; exact HoldsS.more hs2
      have oth : ∀ b o, b ≠ S → s1.heap.get? b = some o → h2.get? b = some o := fun b o nb e => by rw [same.2 b nb]; exact e
      refine wpAny_pure ⟨plainId_quiet PyProof.Rows.F.plain_set_update_loop _, ih (i + 1) _ (by omega) (W.frame _ s1 _ _ st1 (Nat.le_succ _) fun b hb o e => oth b o (fun z => nS (z ▸ hb)) e) hs3 fun s4 m4 hs4 => go s4 (Moved.trans W.gtrans ((m1.mono up).then_heap (Nat.le_succ _) fun b o hb e => oth b o (fun z => hb (z ▸ List.mem_cons_self)) e) m4) hs4⟩)
end
theorem txt_vals : ∀ {us : List Value} {xs : List Str}, L2.Vals (xs.map L2.V.str) us → us.length = xs.length ∧ ∀ (i : Nat) (v : Value), us[i]? = some v → ∃ t, v = .str (xs.getD i Str.empty) t
  | _, [], .nil => ⟨rfl, fun i v h => by simp at h⟩
  | _, x :: xs, .cons ⟨k, e⟩ t => by
    obtain ⟨h1, h2⟩ := txt_vals t
    refine ⟨by rw [List.length_cons, List.length_cons, h1], fun i v h => ?_⟩
    cases i with
    | zero =>
      have h : _ = v := Option.some.inj h
      exact ⟨k, by rw [← h, e]; rfl⟩
    | succ i =>
      obtain ⟨t, z⟩ := h2 i v (by simpa using h)
      exact ⟨t, by rw [z]; rfl⟩
section
variable {P : Program} {w : World} {A : Around} {E : Value → Shared → Prop} {s : Shared}
abbrev emptySet (led : Bool) : Obj := { cls := .type "set", dict := none, data := .set #[] 0 (.fresh 0 0 led) }
theorem set_of_texts {l : Addr} {items : Array Value} {xs : List Str} {Q : Value → Shared → Prop} (hh : A.handled = none) (hl : s.heap.IsList l items) (hi : L2.Vals (xs.map L2.V.str) items.toList) (ln : xs.length < 4000)
    (h : ∀ (h' : Heap) (tk : Nat), HoldsS P w h' s.heap.objs.size xs → (∀ b o, b < s.heap.objs.size → s.heap.get? b = some o → h'.get? b = some o) → Q (.ref s.heap.objs.size) { s with heap := h', toks := tk }) :
    wpAny (model P w) A (call (.type "set") [.ref l]) Q E s := by
  obtain ⟨c, tl, mro⟩ := PySem.F.called_set.mro
  have made := PySem.F.called_set.made
  have sub := PySem.F.called_set.sub
  have noT := PySem.F.called_set.notType
  have can := PySem.F.called_set.canCreate
  have tc := PySem.F.typeCall_set_1 (.ref l)
  refine wpAny_call (codeAny_of_tree (show wpAny _ _ (callAny (.type "set") _) _ _ _ from ?_))
  refine wpAny_pure ⟨Code.quiet_builtin _ (by decide +kernel), codeAny_builtin PySem.F.entry_type_call ?_⟩
  rw [Around.under_plain (weight_type_call_type "set" [.ref l] []) rfl]
  repeat (any_goals (first | assumption | wp_step))
  refine codeAny_mono (code_set_new_1 (.ref l) (E := E) (Q₁ := fun obj s1 => ∃ led : Bool, obj = .ref s.heap.objs.size ∧ s1 = { s with heap := s.heap.push (emptySet led) }) fun led => ⟨led, rfl, rfl⟩) fun r s1 hr => ?_
  match r, hr with
  | .error e, hr => exact hr
  | .ok (.ret obj), hr =>
    obtain ⟨led, rfl, rfl⟩ := hr
    have gS : (s.heap.push (emptySet led)).get? s.heap.objs.size = some (emptySet led) := Heap.get?_push_size _ rfl
    have tS : Shared.TypeIs { s with heap := s.heap.push (emptySet led) } (.ref s.heap.objs.size) "set" := ⟨_, gS, rfl⟩
    have look := PySem.F.called_set.init.lookup
    have bind := PySem.F.called_set.init.bind (.ref s.heap.objs.size)
    repeat (any_goals (first | assumption | wp_step))
    refine codeAny_mono (codeAny_call_builtin (R := wants (fun r s2 => r = .none ∧ ∃ h' tk, s2 = { s with heap := h', toks := tk } ∧ HoldsS P w h' s.heap.objs.size xs ∧ (∀ b o, b < s.heap.objs.size → s.heap.get? b = some o → h'.get? b = some o)) E) PySem.F.called_set.init.plain PySem.F.entry_set_init (check_set_init_1 tS ?_)) fun r2 s2 hr2 => ?_
    · obtain ⟨⟨ocls, odict, odata, oslots⟩, ho, hc, nl, hd⟩ := hl
      simp only at hc hd
      subst hc hd
      have ho2 := Heap.get?_push_of_some (emptySet led) ho
      have s1 := PySem.F.sub_list_set
      have s2 := PySem.F.sub_list_frozenset
      have ne : (Value.type "list" == Value.type "dict") = false := by decide
      have isl : (s.heap.push (emptySet led)).IsList l items := ⟨_, ho2, rfl, nl, rfl⟩
      unfold Builtin.«set.__init__» noKeywords Builtin.Frozenset.updateFrom
      generalize pe : pyIter = PI
      wp_walk
      subst pe
      refine wpAny_pyIter_list isl (wpAny_bind (wpAny_runValue ?_))
      have lt := Heap.lt_size ho
      have h3 : A.in1.in1.in1.handled = none := by simp [hh]
      have sz : (s.heap.push (emptySet led)).objs.size = s.heap.objs.size + 1 := Heap.size_push ..
      obtain ⟨len, val⟩ := txt_vals hi
      rw [Array.length_toList] at len
      refine fill_set (W := (Walks.list h3 _ l (by rw [sz]; exact Nat.ne_of_lt (Nat.lt_succ_of_lt lt)) items).toS) (S := s.heap.objs.size) (by rw [sz]; simp only [List.mem_cons, List.not_mem_nil, or_false, not_or]; exact ⟨Nat.ne_of_lt (Nat.lt_succ_self _), Nat.ne_of_gt lt⟩) len.symm (by omega) (fun i v hv => val i v (by rw [Array.getElem?_toList]; exact hv)) items.size 0 _ (by omega)
        ⟨⟨_, Heap.get?_push_size _ rfl, rfl, rfl⟩, isl.push _⟩ ?_ fun s' m hs => ?_
      · exact SetOf_congr ((setObjOf_fresh (knd := PySem.strKind P w) led).setOf (Heap.get?_push_of_some _ gS) (by unfold scanBound; omega)) (fun _ => rfl) rfl
      · obtain ⟨h', g', d', tk', os'⟩ := s'
        have e1 : g' = s.gens := m.gens
        have e2 : d' = s.drawn := m.drawn
        have e3 : os' = s.os := m.os
        subst e1 e2 e3
        refine (show wpAny _ _ _ _ _ _ from wpAny_pure (show wpAny _ _ (ret Value.none) _ _ _ from wpAny_pure ⟨rfl, h', tk', rfl, hs, fun b o hb e => m.heap b o ?_ (Heap.get?_push_of_some _ (Heap.get?_push_of_some _ e))⟩))
        rw [sz]
        simp only [List.mem_cons, List.not_mem_nil, or_false, not_or]
        exact ⟨Nat.ne_of_lt hb, Nat.ne_of_lt (Nat.lt_succ_of_lt hb)⟩
    · match r2, hr2 with
      | .error e, hr2 => exact hr2
      | .ok (.ret r), hr2 =>
        obtain ⟨rfl, h', tk, rfl, hs, hk⟩ := hr2
        repeat (any_goals (first | assumption | wp_step))
        exact h _ _ hs hk
      | .ok .next, hr2 => exact hr2.elim
      | .ok .brk, hr2 => exact hr2.elim
      | .ok .cont, hr2 => exact hr2.elim
end
end G

set_option Elab.async false
set_option linter.all false
set_option maxRecDepth 100000
set_option maxHeartbeats 4000000
namespace G
open PySem L2 TL PySem.Spec PyProof.Rows
section
variable {X : Cx} {K : Fg} {mg : Str → Option Value} {b : Bs} {L : List En} {E : XK} {e e1 o : Expr} {es : List Expr} {α β γ S : Type} {pos p2 p q x1 : Pos} {put : Tr → List En}
/-! len(set(xs)) -/
def lenSet (xs : List Tx) : M Int := chk (xs.length < 4000) >>= fun _ => pure ((nubS xs).length : Int)
def tSetS (K : Fg) (ta : TE) : TE := fun σ H Q => ta σ H fun x H1 => ∃ (l : Addr) (xs : List Str), x = .ref l ∧ SqL K H1 l (xs.map V.str) ∧ xs.length < 4000 ∧ Q (.int ((nubS xs).length : Nat)) H1
theorem pe_setS {ta : TE} (hc : X.calm = true) (hg : Gl X "len") (hm : X.mg "len" = none) (hg2 : Gl X "set") (hm2 : X.mg "set" = none) (ha : PE X e ta) (na : starEach [e] X.env = (false, eval e X.env) :: starEach [] X.env) :
    PE X (.Call (.Name "len" p) [.Call (.Name "set" p2) [e] [] q] [] pos) (tSetS X.K ta) :=
  ⟨fun pins s σ H Q I h => Call_ (ld_blt I hg hm boot_len (PyProof.Rows.callWith_builtin1 (PyProof.Rows.args_cons (Call_ (ld_blt I hg2 hm2 boot_set (PyProof.Rows.callWith_type1 (PyProof.Rows.args_cons (thn (ha.run pins s σ H _ I h) fun v s1 ⟨x, H1, I1, r1, q1⟩ => PyProof.Rows.args_nil (by
    obtain ⟨l, xs, rfl, hq, hl, q1⟩ := q1
    cases r1
    obtain ⟨its, r, pl, hz⟩ := I1.list hq
    refine set_of_texts (I1.ok.hd hc) pl.isList (by simpa using r) hl fun h' tk hS hk => PyProof.Rows.args_nil ?_
    obtain ⟨o, es, ep, t, ho, hex, hd, _, _, _, hf, hn⟩ := hS
    have I2 : Inv X pins σ H1 { s1 with heap := h', toks := tk } := I1.kept fun b o e => hk b o (Heap.lt_size e) e
    have small := foldS_len xs []
    simp only [List.length_nil] at small
    refine call_len_set ho hex hd hf (by rw [hn]; unfold nubS; omega) ⟨.int ((nubS xs).length : Nat), H1, I2.tok _, ⟨_, by rw [hn]⟩, q1⟩)) na) na rfl))) rfl) rfl rfl))⟩
theorem nubS_map : ∀ (xs acc : List Tx), (xs.map G.S).foldl addS (acc.map G.S) = (xs.foldl addS acc).map G.S
  | [], acc => rfl
  | x :: xs, acc => by
    rw [List.map_cons, List.foldl_cons, List.foldl_cons, ← nubS_map xs]
    congr 1
    unfold addS
    have key : G.S x ∈ acc.map G.S ↔ x ∈ acc := ⟨fun z => by obtain ⟨y, hy, e⟩ := List.mem_map.mp z; exact S_inj e ▸ hy, fun z => List.mem_map.mpr ⟨x, z, rfl⟩⟩
    by_cases h : x ∈ acc
    · rw [if_pos h, if_pos (key.mpr h)]
    · rw [if_neg h, if_neg (fun z => h (key.mp z)), List.map_append]; rfl
theorem je_lenSet {m : M (List Tx)} (hm : mg "len" = none) (hm2 : mg "set" = none) (h : JE X K b L E e m) (hc : X.calm = true := by rfl) (hK : X.K = K := by rfl) (hM : X.mg = mg := by rfl) (hg : Gl X "len" := by rfl) (hg2 : Gl X "set" := by rfl)
    (na : starEach [e] X.env = (false, eval e X.env) :: starEach [] X.env := by rfl) : JE X K b L E (.Call (.Name "len" p) [.Call (.Name "set" p2) [e] [] q] [] pos) (m >>= fun xs => lenSet xs) := by
  subst hK
  exact ⟨fun σ Hi H en Q hq => PE.wp (pe_setS hc hg (by rw [hM]; exact hm) hg2 (by rw [hM]; exact hm2) pe_wp na) (h.go σ Hi H en _ ((PX.bind hq).imp fun xs Hi1 H1 n1 k v rv => by
    obtain ⟨p, vs, rfl, h1, h2⟩ := rv
    cases rl_txts h2
    obtain ⟨c, k⟩ := PX.chk k
    refine ⟨p, xs.map G.S, rfl, by rw [List.map_map]; exact Same.seq n1.sub h1, by rw [List.length_map]; exact c, k.here n1.sub _ ?_⟩
    have e : nubS (xs.map G.S) = (nubS xs).map G.S := nubS_map xs []
    rw [e, List.length_map]
    rfl))⟩
/-! the written empty tuple, known to have no dict -/
def tTupN (K : Fg) (t : TA) : TE := fun σ H Q => t σ H fun xs H1 => xs.length ≤ sizeLine ∧ ∀ p H2, H1 p = none → SqN K H2 p xs → Nx H1 H1 H2 H2 → Q (.ref p) H2
theorem pe_tupN0 {t : TA} {xc : Nat} (h : PA X es t) : PE X (.Tuple es xc pos) (tTupN X.K t) :=
  ⟨fun pins s σ H Q I hq => wpAny_Tuple_spliced (thn (h.run pos pins s σ H _ I hq) fun us s1 ⟨xs, H1, I1, r, z, q⟩ => ⟨by rw [← r.length]; exact z, by
    have hf : H1 s1.heap.objs.size = none := I1.hok.fresh (Nat.le_refl _)
    have I2 : Inv X pins σ (upd H1 s1.heap.objs.size (.frz { cls := .type "tuple", data := .seq us.toArray } (.tup xs))) { s1 with heap := s1.heap.push { cls := .type "tuple", data := .seq us.toArray } } :=
      I1.laid (t' := s1.toks) (fun b o e => Heap.get?_push_of_some _ e) (Nat.le_refl _) (show ObjOk X.prog X.w _ _ _ (.frz _ (.tup xs)) from ⟨Heap.get?_push_size _ rfl, z, us, r, IsTup.new _ _⟩)
    exact ⟨.ref s1.heap.objs.size, _, I2, rfl, q _ _ hf ⟨_, us.toArray, _, rfl, rfl, rfl, .inl upd_same⟩ (Nx.new (Same.refl _) hf)⟩⟩)⟩
theorem je_tupNN [Py α] {m : M (List α)} {xc : Nat} (h : JL X K b L E es m) (hK : X.K = K := by rfl) (hl : es.length ≤ 1000 := by decide) : JE X K b L E (.Tuple es xc pos) (m >>= fun xs => (pure xs : M (TupN α))) := by
  subst hK
  have l := h.len
  refine ⟨fun σ Hi H en Q hq => PE.wp (pe_tupN0 pa_wp) (h.go σ Hi H en _ ?_)⟩
  cases m with
  | error z => cases z with
    | rs c => exact hq
    | st => exact hq
  | ok xs =>
    refine fun Hi1 H1 n1 vs rvs => ⟨?_, fun q H2 hn hs n2 => ?_⟩
    · rw [← rvs.length, l xs rfl]
      exact Nat.le_trans hl (by decide)
    · obtain ⟨ob, its, n, g1, g2, g3, g4 | ⟨g4, g5, g6⟩⟩ := hs
      · have n3 : Nx Hi H (upd Hi1 q (.frz ob (.tup vs))) H2 := n1.trans ⟨same_new (hi_none n1.sub hn), n2.al, fun a u e => by
          by_cases c : a = q
          · subst c
            rw [upd_same] at e
            cases e
            exact g4
          · rw [upd_ne c] at e
            exact n2.al _ _ (n1.sub _ _ e), fun a h1 h2 => by
          by_cases c : a = q
          · subst c; exact absurd hn h1
          · rw [upd_ne c]; exact h2⟩
        exact (PX.go (α := TupN α) (a := xs) hq n3) _ ⟨q, vs, rfl, ⟨ob, its, n, g1, g2, g3, .inl upd_same⟩, rvs.mono (same_new (hi_none n1.sub hn))⟩
      · have n3 : Nx Hi H Hi1 H2 := n1.trans ⟨Same.refl _, n2.al, n1.sub.trans n2.al, fun _ _ h => h⟩
        exact (PX.go (α := TupN α) (a := xs) hq n3) _ ⟨q, vs, rfl, ⟨ob, its, n, g1, g2, g3, .inr ⟨g4, g5, g6⟩⟩, rvs⟩
/-! xs.pop(i) -/
def popM {α : Type} (xs : List α) (i : Int) : M (α × List α) := chk (-(2 ^ 63) ≤ i ∧ i < 2 ^ 63) >>= fun _ => ofO (seqIndex? i xs.length) >>= fun j => ofO xs[j]? >>= fun a => pure (a, xs.eraseIdx j)
theorem rl_era [Py α] {H : Hp} {xs : List α} {vs : List V} (j : Nat) (h : Rl K H xs vs) : Rl K H (xs.eraseIdx j) (vs.eraseIdx j) := by
  induction h generalizing j with
  | nil => exact .nil
  | cons r t ih =>
    cases j with
    | zero => exact t
    | succ j => exact .cons r (ih j)
theorem rl_get [Py α] {H : Hp} {xs : List α} {vs : List V} (h : Rl K H xs vs) : ∀ {j : Nat} {a : α}, xs[j]? = some a → ∃ v, vs[j]? = some v ∧ Py.rep K H a v := by
  induction h with
  | nil => intro j a e; cases e
  | cons r t ih =>
    intro j a e
    cases j with
    | zero => cases e; exact ⟨_, rfl, r⟩
    | succ j => exact ih e
theorem jm_pop [Py α] {xs : List α} {m : M Int} {apos : Pos} (hp : JP X b L o (one (ctL K xs)) put) (h : JE X K b L E e m) (hs1 : starEach [e] X.env = (false, eval e X.env) :: starEach [] X.env := by rfl)
    (hbase : attributeBase o "pop" X.env (eval o X.env) = eval o X.env := by rfl)
    (hfew : ((backTo p2 (starEach [e] X.env)).all (fun x => !x.1) && (backToKw p2 (keywordEach [] X.env)).all (fun x => x.1.isSome) && decide ([e].length + ([] : List Keyword).length + (if ([] : List Keyword).isEmpty then 0 else 1) < 30)) = true := by rfl)
    (hline : (apos.endLine == p2.line) = true := by rfl) (hplain : (backTo p2 (starEach [] X.env)).any (·.1) = false := by rfl) :
    JM X K b L E (.Call (.Attribute o "pop" apos) [e] [] p2) (m >>= fun i => popM xs i) (fun xs' => put (one (ctL K xs'))) :=
  ⟨fun σ Hi H en Q hz => by
    obtain ⟨v, at0, go⟩ := hp.go σ Hi H en
    refine PE.wp (pe_bm PySem.F.plainAttrs_list PySem.F.slot_list_pop PySem.F.type_list_pop mt_popAt pe_wp (pa_cons pe_wp pa_nil hs1) hbase hfew hline hs1 hplain) (go _ ?_)
    obtain ⟨p0, o0, rfl, k1, ⟨vs0, rfl, _⟩, _⟩ := at0.one (c' := ctL K xs) en.rf
    refine ⟨.inl ⟨rfl, _, SqL.of k1⟩, h.go σ Hi H en _ ((PZ.bind en hz).imp fun i Hi1 H1 n1 k u ru => ?_)⟩
    have ru : u = V.int i := ru
    subst ru
    obtain ⟨⟨c1, c2⟩, k⟩ := PZ.chk k
    obtain ⟨p1, o1, e1, h2, ⟨vs, rfl, r⟩, up⟩ := at0.one (c' := ctL K (xs.eraseIdx ((seqIndex? i xs.length).getD 0))) n1
    cases e1
    cases hj : seqIndex? i xs.length with
    | none => rw [hj] at k; exact k.elim
    | some j =>
      rw [hj] at k up
      cases ha : xs[j]? with
      | none =>
        have k : PZ K E b (ofO xs[j]? >>= fun a => pure (a, xs.eraseIdx j)) _ := k
        rw [ha] at k; exact k.elim
      | some a =>
        have k : PZ K E b (ofO xs[j]? >>= fun a => pure (a, xs.eraseIdx j)) _ := k
        rw [ha] at k
        obtain ⟨y, g1, g2⟩ := rl_get r ha
        refine ⟨p0, vs, i, j, y, rfl, rfl, h2, c1, c2, by rw [← r.length]; exact hj, g1, ?_⟩
        exact (show ∀ Hi' H' v, EnvOk b (put (one (ctL K (xs.eraseIdx j)))) σ Hi' H' → Py.rep K Hi' a v → Q v H' from k) Hi1 _ y (up _ ⟨_, rfl, rl_era j r⟩) g2⟩
/-- a.append(what changes other trees) -/
theorem j1_appendM [Py α] {m : M (α × S)} {Lf : S → List En} (i : Nat) {x : Str} {xs : List α} {apos pn : Pos} (h : JM X K b L E e m Lf) (hL : L[i]? = some (.mu (ctL K xs)) := by rfl) (hL2 : ∀ s, (Lf s)[i]? = some (.mu (ctL K xs)) := by intro _; rfl) (hN : X.N[i]? = some x := by rfl) (hv : Vis X.env.scope x := by first | exact Or.inl rfl | exact Or.inr (Or.inl rfl) | exact Or.inr (Or.inr rfl))
    (hd : (x == ("__debug__" : Str)) = false := by decide) (hcd : (x == ("__classdict__" : Str)) = false := by decide) (hs1 : starEach [e] X.env = (false, eval e X.env) :: starEach [] X.env := by rfl)
    (hbase : attributeBase (.Name x pn) "append" X.env (eval (.Name x pn) X.env) = eval (.Name x pn) X.env := by rfl)
    (hfew : ((backTo p2 (starEach [e] X.env)).all (fun x => !x.1) && (backToKw p2 (keywordEach [] X.env)).all (fun x => x.1.isSome) && decide ([e].length + ([] : List Keyword).length + (if ([] : List Keyword).isEmpty then 0 else 1) < 30)) = true := by rfl)
    (hline : (apos.endLine == p2.line) = true := by rfl) (hplain : (backTo p2 (starEach [] X.env)).any (·.1) = false := by rfl)
    (hs : swapsWith (.Call (.Attribute (.Name x pn) "append" apos) [e] [] p2) none pos.line X.env = pure false := by rfl) :
    J1 X K b L E (.Expr (.Call (.Attribute (.Name x pn) "append" apos) [e] [] p2) pos) (m >>= fun r => chk (xs.length < SZ) >>= fun _ => pure r) (fun r => (Lf r.2).set i (.mu (ctL K (xs ++ [r.1])))) :=
  ⟨fun σ Hi H en D hz => by
    obtain ⟨p, vs, h1, h2, r⟩ := en.muL hL
    refine PS.wp (ps_expr (pe_bm PySem.F.plainAttrs_list PySem.F.slot_list_append PySem.F.type_list_append mt_append (pe_var hN hv hd hcd) (pa_cons pe_wp pa_nil hs1) hbase hfew hline hs1 hplain) hs) ?_
    refine ⟨_, h1, .inl ⟨rfl, _, SqL.of h2⟩, h.go σ Hi H en _ (hz.bindz.imp fun a q Hi' H' v en' rv => ?_)⟩
    obtain ⟨c, q⟩ := PZ.chk q
    obtain ⟨p', vs', h1', h2', r'⟩ := en'.muL (hL2 a.2)
    rw [h1] at h1'
    cases h1'
    refine ⟨p, vs', v, rfl, rfl, h2', ?_, ?_⟩
    · rw [← r'.length]; exact c
    · exact (show ∀ σ' Hi' H', EnvOk b ((Lf a.2).set i (.mu (ctL K (xs ++ [a.1])))) σ' Hi' H' → D.nx σ' H' from q) _ Hi' _ (en'.mut (c' := ctL K (xs ++ [a.1])) (hL2 a.2) h1 ⟨_, rfl, r'.app (.cons rv .nil)⟩)⟩
end
end G

set_option Elab.async false
set_option linter.all false
set_option maxRecDepth 100000
set_option maxHeartbeats 4000000
namespace G
open PySem L2 TL
/-! try: .. except C: .. (no name) -/
theorem j1_try_one {X : Cx} {K : Fg} {b : Bs} {L : List En} {E : XK} {α S : Type} {p2 p3 pos : Pos} [Py α] {body1 : Stmt} {m : M α} {sOk : α → S} {hh : Str → M S} {cs : List Str} {Lf : S → List En} {C : Str} {b1 : Stmt} {r1 : List Stmt} {Lb : α → List En}
    (hb : ∀ pn xe (W : WX), Takes (X.tr pn xe) W → ∀ σ Hi H, EnvOk b L σ Hi H → ∀ D : Ends, PX K (WE W σ) m Hi H (fun a Hi' H' => ∀ σ', EnvOk b (Lb a) σ' Hi' H' → D.nx σ' H') → wpB (X.tr pn xe) [body1] D σ H) (hw : ∀ a, Wk (Lb a) (Lf (sOk a)))
    (hx : ∀ c ∈ cs, (He.Fa.exm c C true).ok K = true)
    (hs : ∀ c ∈ cs, ∀ (a : Addr) (oe : Obj) (pn : List (Addr × Obj)), Zc (.ref (He.ga K c)) none oe → (∃ vs, oe.data = .fields vs) → JS (X.suite a ((a, oe) :: pn)) K b L E0 (b1 :: r1) tlAny (hh c) (pNx b Lf))
    (gC : X.mg C = some (.ref (He.ga K C))) (hK : X.K = K := by rfl) (hst : X.stack = X.env :: X.outer := by rfl) (hf : X.env.frame = some X.env.locals := by rfl) (hg : Gl X C := by rfl) (hd : (C == ("__debug__" : Str)) = false := by decide) :
    J1 X K b L E (.Try [body1] [.ExceptHandler (some (.Name C p2)) none (b1 :: r1) p3] [] [] pos) (tryM cs sOk hh m) Lf := by
  subst hK
  refine ⟨fun σ Hi H en D hz => PS.wp (ps_try_many (tb := fun W D σ H => ∀ pn xe, Takes (X.tr pn xe) W → wpB (X.tr pn xe) [body1] D σ H) hst hf takes0
    (fun W pn xe tk _ => ⟨fun pins s σ H D I h => h pn xe tk pins s I⟩)
    (.cons (ts := fun a cls d D σ H => ∀ oe pn, Zc cls d oe → (∃ vs, oe.data = .fields vs) → wpB (X.suite a ((a, oe) :: pn)) (b1 :: r1) D σ H) ⟨hg, hd, .inl gC⟩ (fun a oe cls d pn hz hv => ⟨fun pins s σ H D I h => h oe pn hz hv pins s I⟩) .nil)) ?_⟩
  intro pn xe tk
  refine hb pn xe _ tk σ Hi H en D ?_
  cases m with
  | ok a => exact fun Hi' H' n σ' en' => hz σ' Hi' H' (en'.wk (hw a))
  | error z =>
    cases z with
    | st => exact hz.elim
    | rs c =>
      have hz : PZ X.K E b (if c ∈ cs then nr (hh c) else stuck) _ := hz
      intro Hi' H' nx
      by_cases hc : c ∈ cs
      · rw [if_pos hc] at hz
        refine ⟨true, He.exm_ok (hx c hc), fun _ a ha => ?_, fun q => nomatch q⟩
        intro oe pn' z1 z2
        exact (hs c hc a oe pn' z1 z2).go _ Hi' H' (en.nx nx) _ trivial ((pz_nr hz).imp fun s k σ2 Hi2 H2 en2 => k _ Hi2 H2 en2)
      · rw [if_neg hc] at hz; exact hz.elim
section
variable {X : Cx} {K : Fg} {b : Bs} {L : List En} {E : XK} {α S : Type} {e : Expr} {p' p2 p3 p4 pos : Pos} [Py α] {m : M α} {sOk : α → S} {hh : Str → M S} {cs : List Str} {Lf : S → List En} {x C : Str} {b1 : Stmt} {r1 : List Stmt}
theorem j1_tryS1 (i : Nat) (hb : ∀ pn xe, JC (X.tr pn xe) K b L e m) (hw : ∀ a, Wk (L.set i (.im (rp K a))) (Lf (sOk a))) (hx : ∀ c ∈ cs, (He.Fa.exm c C true).ok K = true)
    (hs : ∀ c ∈ cs, ∀ (a : Addr) (oe : Obj) (pn : List (Addr × Obj)), Zc (.ref (He.ga K c)) none oe → (∃ vs, oe.data = .fields vs) → JS (X.suite a ((a, oe) :: pn)) K b L E0 (b1 :: r1) tlAny (hh c) (pNx b Lf))
    (gC : X.mg C = some (.ref (He.ga K C))) (hN : X.N.Nodup) (hK : X.K = K := by rfl) (hst : X.stack = X.env :: X.outer := by rfl) (hf : X.env.frame = some X.env.locals := by rfl) (hg : Gl X C := by rfl) (hd : (C == ("__debug__" : Str)) = false := by decide)
    (hi2 : X.N[i]? = some x := by rfl) (hlx : Loc X.env.scope x := by first | exact Or.inl rfl | exact Or.inr rfl) (hsw : ∀ pn xe, swapsWith e (some (.Name x p4)) p'.line (X.tr pn xe).env = pure false := by intro _ _; rfl) (hfx : X.fn x = true ∨ X.env.scope.names.lookup x = some .local := by first | exact .inl rfl | exact .inr rfl) :
    J1 X K b L E (.Try [.Assign [.Name x p4] e p'] [.ExceptHandler (some (.Name C p2)) none (b1 :: r1) p3] [] [] pos) (tryM cs sOk hh m) Lf :=
  j1_try_one (Lb := fun a => L.set i (.im (rp K a))) (fun pn xe W tk σ Hi H en D hq => PSs.wp (pss_one (ps_set (X := X.tr pn xe) hN hi2 hlx pe_wp (hsw pn xe) hfx)) ((hb pn xe).go W tk σ Hi H en _ (hq.imp fun a Hi' H' y q v rv => q _ ((en.nx y).set (p := rp K a) rv)))) hw hx hs gC hK hst hf hg hd
theorem j1_tryE1 (hb : ∀ pn xe, JC (X.tr pn xe) K b L e m) (hw : ∀ a, Wk L (Lf (sOk a))) (hx : ∀ c ∈ cs, (He.Fa.exm c C true).ok K = true)
    (hs : ∀ c ∈ cs, ∀ (a : Addr) (oe : Obj) (pn : List (Addr × Obj)), Zc (.ref (He.ga K c)) none oe → (∃ vs, oe.data = .fields vs) → JS (X.suite a ((a, oe) :: pn)) K b L E0 (b1 :: r1) tlAny (hh c) (pNx b Lf))
    (gC : X.mg C = some (.ref (He.ga K C))) (hK : X.K = K := by rfl) (hst : X.stack = X.env :: X.outer := by rfl) (hf : X.env.frame = some X.env.locals := by rfl) (hg : Gl X C := by rfl) (hd : (C == ("__debug__" : Str)) = false := by decide)
    (hsw : ∀ pn xe, swapsWith e none p'.line (X.tr pn xe).env = pure false := by intro _ _; rfl) :
    J1 X K b L E (.Try [.Expr e p'] [.ExceptHandler (some (.Name C p2)) none (b1 :: r1) p3] [] [] pos) (tryM cs sOk hh m) Lf :=
  j1_try_one (Lb := fun _ => L) (fun pn xe W tk σ Hi H en D hq => PSs.wp (pss_one (ps_expr pe_wp (hsw pn xe))) ((hb pn xe).go W tk σ Hi H en _ (hq.imp fun a Hi' H' y q v rv => q σ (en.nx y)))) hw hx hs gC hK hst hf hg hd
end
end G

set_option Elab.async false
set_option linter.all false
set_option maxRecDepth 100000
set_option maxHeartbeats 4000000
namespace G
open PySem L2 TL
section
variable {X : Cx} {pins : List (Addr × Obj)} {σ : L2.St} {H : Hp} {s : Shared}
theorem fixL_rc (I : Inv X pins σ H s) {n d : Nat} {vs ws : List V} {e : Nat → Bool} {p p' : Addr} {A : Around} (f : FixEq X H s n d vs ws e) (g1 : SqL X.K H p vs) (k1 : SqL X.K H p' ws) (hu : A.units + (d + 1) < cLine) : SeqAt.RcAt A s (.ref p) (.ref p') ((List.range n).all e) := by
  obtain ⟨us, r1, pl1, _⟩ := I.list g1
  obtain ⟨ts, r2, pl2, _⟩ := I.list k1
  have l1 : us.toArray.size = n := by rw [List.size_toArray, ← r1.length, f.1]
  have l2 : ts.toArray.size = n := by rw [List.size_toArray, ← r2.length, f.2.1]
  have := SeqAt.RcAt.lists (A := A) (e := e) pl1.isList pl2.isList (by rw [l1, l2]) (by omega) (fun j j1 j2 => by
      have := f.2.2 A.in1 (by show A.units + 1 + _ < cLine; omega) us ts r1 r2 j (by simpa using j1) (by simpa using j2)
      simpa using this)
  rw [l1] at this
  exact this
theorem fixL_ne (I : Inv X pins σ H s) {n d : Nat} {vs ws : List V} {e : Nat → Bool} {p p' : Addr} {A : Around} (f : FixEq X H s n d vs ws e) (g1 : SqL X.K H p vs) (k1 : SqL X.K H p' ws) (hu : A.units + (d + 1) < cLine) : SeqAt.RcNeAt A s (.ref p) (.ref p') (!(List.range n).all e) := by
  obtain ⟨us, r1, pl1, _⟩ := I.list g1
  obtain ⟨ts, r2, pl2, _⟩ := I.list k1
  have l1 : us.toArray.size = n := by rw [List.size_toArray, ← r1.length, f.1]
  have l2 : ts.toArray.size = n := by rw [List.size_toArray, ← r2.length, f.2.1]
  have := SeqAt.RcNeAt.lists (A := A) (e := e) pl1.isList pl2.isList (by rw [l1, l2]) (by omega) (fun j j1 j2 => by
      have := f.2.2 A.in1 (by show A.units + 1 + _ < cLine; omega) us ts r1 r2 j (by simpa using j1) (by simpa using j2)
      simpa using this)
  rw [l1] at this
  exact this
end
structure H2 (α β : Type) where
  a : α
  b : β
  deriving DecidableEq
instance {α β : Type} [Py α] [Py β] : Py (H2 α β) := ⟨fun K H x v => ∃ p v1 v2, v = .ref p ∧ SqL K H p [v1, v2] ∧ Py.rep K H x.a v1 ∧ Py.rep K H x.b v2,
  fun e ⟨p, v1, v2, h1, h2, h3, h4⟩ => ⟨p, v1, v2, h1, Same.seq e h2, Py.mono e h3, Py.mono e h4⟩⟩
theorem H2.ext' {α β : Type} {x y : (H2 α β)} (h1 : x.a = y.a) (h2 : x.b = y.b) : x = y := by cases x; cases y; cases h1; cases h2; rfl
instance {B : HO → Prop} {α β : Type} [Py α] [Py β] [LstNot B] [Wo B α] [Wo B β] : Wo B (H2 α β) := ⟨fun e ⟨p, v1, v2, h1, h2, h3, h4⟩ => ⟨p, v1, v2, h1, sql_wo e h2, Wo.go e h3, Wo.go e h4⟩⟩
theorem fixH2 {α β : Type} [Py α] [Py β] [DecidableEq α] [DecidableEq β] [PyE α] [PyE β] {X : Cx} {pins : List (Addr × Obj)} {σ : L2.St} {H : Hp} {s : Shared} (I : Inv X pins σ H s) {x y : (H2 α β)} {v1 v2 w1 w2 : V} (g1 : Py.rep X.K H x.a v1) (g2 : Py.rep X.K H x.b v2) (k1 : Py.rep X.K H y.a w1) (k2 : Py.rep X.K H y.b w2) :
    ∃ e, FixEq X H s 2 (max (PyE.dep (α := α)) (max (PyE.dep (α := β)) 0)) [v1, v2] [w1, w2] e ∧ (List.range 2).all e = decide (x = y) := by
  refine ⟨_, (fix_cons I g1 k1 (fix_cons I g2 k2 fix_nil)), ?_⟩
  show (decide (x.a = y.a) && (decide (x.b = y.b) && (true))) = _
  obtain ⟨x1, x2⟩ := x
  obtain ⟨y1, y2⟩ := y
  by_cases e1 : x1 = y1 <;> by_cases e2 : x2 = y2 <;> simp [e1, e2]
instance {α β : Type} [Py α] [Py β] [DecidableEq α] [DecidableEq β] [PyE α] [PyE β] : PyE (H2 α β) where
  dep := (max (PyE.dep (α := α)) (max (PyE.dep (α := β)) 0)) + 1
  inj := fun {X pins σ H s} I {a b x} h1 h2 => by
    obtain ⟨p, v1, v2, rfl, g0, g1, g2⟩ := h1
    obtain ⟨p', w1, w2, e, k0, k1, k2⟩ := h2
    cases e
    have := I.list_inj g0 k0
    cases this
    exact H2.ext' (PyE.inj I g1 k1) (PyE.inj I g2 k2)
  eq := fun {X pins σ H s} I A a b x y v u hu h1 h2 q1 q2 => by
    obtain ⟨p, v1, v2, rfl, g0, g1, g2⟩ := h1
    obtain ⟨p', w1, w2, e, k0, k1, k2⟩ := h2
    subst e
    cases q1
    cases q2
    obtain ⟨e, f, hf⟩ := fixH2 I g1 g2 k1 k2
    by_cases hp : p = p'
    · subst hp
      have := I.list_inj g0 k0
      cases this
      have : a = b := H2.ext' (PyE.inj I g1 k1) (PyE.inj I g2 k2)
      subst this
      rw [decide_eq_true rfl]
      exact SeqAt.EqAt.same _
    · exact SeqAt.EqAt.of_refs hp (hf ▸ fixL_rc I f g0 k0 hu)
  rc := fun {X pins σ H s} I A a b x y v u hu h1 h2 q1 q2 => by
    obtain ⟨p, v1, v2, rfl, g0, g1, g2⟩ := h1
    obtain ⟨p', w1, w2, e, k0, k1, k2⟩ := h2
    subst e
    cases q1
    cases q2
    obtain ⟨e, f, hf⟩ := fixH2 I g1 g2 k1 k2
    exact hf ▸ fixL_rc I f g0 k0 hu
  ne := fun {X pins σ H s} I A a b x y v u hu h1 h2 q1 q2 => by
    obtain ⟨p, v1, v2, rfl, g0, g1, g2⟩ := h1
    obtain ⟨p', w1, w2, e, k0, k1, k2⟩ := h2
    subst e
    cases q1
    cases q2
    obtain ⟨e, f, hf⟩ := fixH2 I g1 g2 k1 k2
    exact hf ▸ fixL_ne I f g0 k0 hu
theorem je_h2 {α β : Type} [Py α] [Py β] {X : Cx} {K : Fg} {b : Bs} {L : List En} {E : XK} {e1 e2 : Expr} {pos : Pos} {m1 : M α} {m2 : M β} (h1 : JE X K b L E e1 m1) (h2 : JE X K b L E e2 m2) (s1 : starEach [e1, e2] X.env = (false, eval e1 X.env) :: starEach [e2] X.env := by rfl) (s2 : starEach [e2] X.env = (false, eval e2 X.env) :: starEach [] X.env := by rfl) :
    JE X K b L E (.List [e1, e2] pos) (m1 >>= fun a1 => m2 >>= fun a2 => pure (H2.mk a1 a2)) :=
  ⟨fun σ Hi0 H0 en0 Q z0 => PE.wp (pe_lst (pa_cons pe_wp (pa_cons pe_wp pa_nil s2) s1)) (by
    refine h1.go σ Hi0 H0 en0 _ ((PX.bind z0).imp fun a1 Hi1 H1 n1 k1 v1 r1 => ?_)
    have en1 := en0.nx n1
    refine h2.go σ Hi1 H1 en1 _ ((PX.bind k1).imp fun a2 Hi2 H2 n2 k2 v2 r2 => ?_)
    have en2 := en1.nx n2
    have r1 := Py.mono n2.im r1
    refine ⟨by show 2 ≤ sizeLine; decide, fun q hq => ?_⟩
    have sm := same_new (o := .lst [v1, v2]) (hi_none n2.sub hq)
    exact k2.go (Nx.new n2.sub hq) _ ⟨q, v1, v2, rfl, .of upd_same, Py.mono sm r1, Py.mono sm r2⟩)⟩
theorem je_h2_0 {α β : Type} [Py α] [Py β] {X : Cx} {K : Fg} {b : Bs} {L : List En} {E : XK} {e : Expr} {pos : Pos} {m : M (H2 α β)} {j : Nat} {p2 : Pos} (h : JE X K b L E e m) (hK : X.K = K := by rfl) : JE X K b L E (.Subscript e (.Constant (.int 0) j p2) pos) (m >>= fun x => (pure x.a : M α)) := by
  obtain ⟨t, d, p⟩ := h.ex
  refine .of ⟨tOp (rIxL K) t (tC (.int 0)), pe_ix (by rw [← hK]; exact ix_list) d pe_int (fun _ _ => rfl), fun σ Hi H en Q h => p σ Hi H en _ (h.bind.imp fun x Hi1 H1 n1 k v rv => ?_)⟩
  obtain ⟨q, v1, v2, rfl, g0, g1, g2⟩ := rv
  exact ⟨q, _, 0, v1, rfl, rfl, Same.seq n1.sub g0, rfl, k.here n1.sub _ g1⟩
theorem je_h2_1 {α β : Type} [Py α] [Py β] {X : Cx} {K : Fg} {b : Bs} {L : List En} {E : XK} {e : Expr} {pos : Pos} {m : M (H2 α β)} {j : Nat} {p2 : Pos} (h : JE X K b L E e m) (hK : X.K = K := by rfl) : JE X K b L E (.Subscript e (.Constant (.int 1) j p2) pos) (m >>= fun x => (pure x.b : M β)) := by
  obtain ⟨t, d, p⟩ := h.ex
  refine .of ⟨tOp (rIxL K) t (tC (.int 1)), pe_ix (by rw [← hK]; exact ix_list) d pe_int (fun _ _ => rfl), fun σ Hi H en Q h => p σ Hi H en _ (h.bind.imp fun x Hi1 H1 n1 k v rv => ?_)⟩
  obtain ⟨q, v1, v2, rfl, g0, g1, g2⟩ := rv
  exact ⟨q, _, 1, v2, rfl, rfl, Same.seq n1.sub g0, rfl, k.here n1.sub _ g2⟩
structure H3 (α β γ : Type) where
  a : α
  b : β
  c : γ
  deriving DecidableEq
instance {α β γ : Type} [Py α] [Py β] [Py γ] : Py (H3 α β γ) := ⟨fun K H x v => ∃ p v1 v2 v3, v = .ref p ∧ SqL K H p [v1, v2, v3] ∧ Py.rep K H x.a v1 ∧ Py.rep K H x.b v2 ∧ Py.rep K H x.c v3,
  fun e ⟨p, v1, v2, v3, h1, h2, h3, h4, h5⟩ => ⟨p, v1, v2, v3, h1, Same.seq e h2, Py.mono e h3, Py.mono e h4, Py.mono e h5⟩⟩
theorem H3.ext' {α β γ : Type} {x y : (H3 α β γ)} (h1 : x.a = y.a) (h2 : x.b = y.b) (h3 : x.c = y.c) : x = y := by cases x; cases y; cases h1; cases h2; cases h3; rfl
instance {B : HO → Prop} {α β γ : Type} [Py α] [Py β] [Py γ] [LstNot B] [Wo B α] [Wo B β] [Wo B γ] : Wo B (H3 α β γ) := ⟨fun e ⟨p, v1, v2, v3, h1, h2, h3, h4, h5⟩ => ⟨p, v1, v2, v3, h1, sql_wo e h2, Wo.go e h3, Wo.go e h4, Wo.go e h5⟩⟩
theorem fixH3 {α β γ : Type} [Py α] [Py β] [Py γ] [DecidableEq α] [DecidableEq β] [DecidableEq γ] [PyE α] [PyE β] [PyE γ] {X : Cx} {pins : List (Addr × Obj)} {σ : L2.St} {H : Hp} {s : Shared} (I : Inv X pins σ H s) {x y : (H3 α β γ)} {v1 v2 v3 w1 w2 w3 : V} (g1 : Py.rep X.K H x.a v1) (g2 : Py.rep X.K H x.b v2) (g3 : Py.rep X.K H x.c v3) (k1 : Py.rep X.K H y.a w1) (k2 : Py.rep X.K H y.b w2) (k3 : Py.rep X.K H y.c w3) :
    ∃ e, FixEq X H s 3 (max (PyE.dep (α := α)) (max (PyE.dep (α := β)) (max (PyE.dep (α := γ)) 0))) [v1, v2, v3] [w1, w2, w3] e ∧ (List.range 3).all e = decide (x = y) := by
  refine ⟨_, (fix_cons I g1 k1 (fix_cons I g2 k2 (fix_cons I g3 k3 fix_nil))), ?_⟩
  show (decide (x.a = y.a) && (decide (x.b = y.b) && (decide (x.c = y.c) && (true)))) = _
  obtain ⟨x1, x2, x3⟩ := x
  obtain ⟨y1, y2, y3⟩ := y
  by_cases e1 : x1 = y1 <;> by_cases e2 : x2 = y2 <;> by_cases e3 : x3 = y3 <;> simp [e1, e2, e3]
instance {α β γ : Type} [Py α] [Py β] [Py γ] [DecidableEq α] [DecidableEq β] [DecidableEq γ] [PyE α] [PyE β] [PyE γ] : PyE (H3 α β γ) where
  dep := (max (PyE.dep (α := α)) (max (PyE.dep (α := β)) (max (PyE.dep (α := γ)) 0))) + 1
  inj := fun {X pins σ H s} I {a b x} h1 h2 => by
    obtain ⟨p, v1, v2, v3, rfl, g0, g1, g2, g3⟩ := h1
    obtain ⟨p', w1, w2, w3, e, k0, k1, k2, k3⟩ := h2
    cases e
    have := I.list_inj g0 k0
    cases this
    exact H3.ext' (PyE.inj I g1 k1) (PyE.inj I g2 k2) (PyE.inj I g3 k3)
  eq := fun {X pins σ H s} I A a b x y v u hu h1 h2 q1 q2 => by
    obtain ⟨p, v1, v2, v3, rfl, g0, g1, g2, g3⟩ := h1
    obtain ⟨p', w1, w2, w3, e, k0, k1, k2, k3⟩ := h2
    subst e
    cases q1
    cases q2
    obtain ⟨e, f, hf⟩ := fixH3 I g1 g2 g3 k1 k2 k3
    by_cases hp : p = p'
    · subst hp
      have := I.list_inj g0 k0
      cases this
      have : a = b := H3.ext' (PyE.inj I g1 k1) (PyE.inj I g2 k2) (PyE.inj I g3 k3)
      subst this
      rw [decide_eq_true rfl]
      exact SeqAt.EqAt.same _
    · exact SeqAt.EqAt.of_refs hp (hf ▸ fixL_rc I f g0 k0 hu)
  rc := fun {X pins σ H s} I A a b x y v u hu h1 h2 q1 q2 => by
    obtain ⟨p, v1, v2, v3, rfl, g0, g1, g2, g3⟩ := h1
    obtain ⟨p', w1, w2, w3, e, k0, k1, k2, k3⟩ := h2
    subst e
    cases q1
    cases q2
    obtain ⟨e, f, hf⟩ := fixH3 I g1 g2 g3 k1 k2 k3
    exact hf ▸ fixL_rc I f g0 k0 hu
  ne := fun {X pins σ H s} I A a b x y v u hu h1 h2 q1 q2 => by
    obtain ⟨p, v1, v2, v3, rfl, g0, g1, g2, g3⟩ := h1
    obtain ⟨p', w1, w2, w3, e, k0, k1, k2, k3⟩ := h2
    subst e
    cases q1
    cases q2
    obtain ⟨e, f, hf⟩ := fixH3 I g1 g2 g3 k1 k2 k3
    exact hf ▸ fixL_ne I f g0 k0 hu
theorem je_h3 {α β γ : Type} [Py α] [Py β] [Py γ] {X : Cx} {K : Fg} {b : Bs} {L : List En} {E : XK} {e1 e2 e3 : Expr} {pos : Pos} {m1 : M α} {m2 : M β} {m3 : M γ} (h1 : JE X K b L E e1 m1) (h2 : JE X K b L E e2 m2) (h3 : JE X K b L E e3 m3) (s1 : starEach [e1, e2, e3] X.env = (false, eval e1 X.env) :: starEach [e2, e3] X.env := by rfl) (s2 : starEach [e2, e3] X.env = (false, eval e2 X.env) :: starEach [e3] X.env := by rfl) (s3 : starEach [e3] X.env = (false, eval e3 X.env) :: starEach [] X.env := by rfl) :
    JE X K b L E (.List [e1, e2, e3] pos) (m1 >>= fun a1 => m2 >>= fun a2 => m3 >>= fun a3 => pure (H3.mk a1 a2 a3)) :=
  ⟨fun σ Hi0 H0 en0 Q z0 => PE.wp (pe_lst (pa_cons pe_wp (pa_cons pe_wp (pa_cons pe_wp pa_nil s3) s2) s1)) (by
    refine h1.go σ Hi0 H0 en0 _ ((PX.bind z0).imp fun a1 Hi1 H1 n1 k1 v1 r1 => ?_)
    have en1 := en0.nx n1
    refine h2.go σ Hi1 H1 en1 _ ((PX.bind k1).imp fun a2 Hi2 H2 n2 k2 v2 r2 => ?_)
    have en2 := en1.nx n2
    have r1 := Py.mono n2.im r1
    refine h3.go σ Hi2 H2 en2 _ ((PX.bind k2).imp fun a3 Hi3 H3 n3 k3 v3 r3 => ?_)
    have en3 := en2.nx n3
    have r1 := Py.mono n3.im r1
    have r2 := Py.mono n3.im r2
    refine ⟨by show 3 ≤ sizeLine; decide, fun q hq => ?_⟩
    have sm := same_new (o := .lst [v1, v2, v3]) (hi_none n3.sub hq)
    exact k3.go (Nx.new n3.sub hq) _ ⟨q, v1, v2, v3, rfl, .of upd_same, Py.mono sm r1, Py.mono sm r2, Py.mono sm r3⟩)⟩
theorem je_h3_0 {α β γ : Type} [Py α] [Py β] [Py γ] {X : Cx} {K : Fg} {b : Bs} {L : List En} {E : XK} {e : Expr} {pos : Pos} {m : M (H3 α β γ)} {j : Nat} {p2 : Pos} (h : JE X K b L E e m) (hK : X.K = K := by rfl) : JE X K b L E (.Subscript e (.Constant (.int 0) j p2) pos) (m >>= fun x => (pure x.a : M α)) := by
  obtain ⟨t, d, p⟩ := h.ex
  refine .of ⟨tOp (rIxL K) t (tC (.int 0)), pe_ix (by rw [← hK]; exact ix_list) d pe_int (fun _ _ => rfl), fun σ Hi H en Q h => p σ Hi H en _ (h.bind.imp fun x Hi1 H1 n1 k v rv => ?_)⟩
  obtain ⟨q, v1, v2, v3, rfl, g0, g1, g2, g3⟩ := rv
  exact ⟨q, _, 0, v1, rfl, rfl, Same.seq n1.sub g0, rfl, k.here n1.sub _ g1⟩
theorem je_h3_1 {α β γ : Type} [Py α] [Py β] [Py γ] {X : Cx} {K : Fg} {b : Bs} {L : List En} {E : XK} {e : Expr} {pos : Pos} {m : M (H3 α β γ)} {j : Nat} {p2 : Pos} (h : JE X K b L E e m) (hK : X.K = K := by rfl) : JE X K b L E (.Subscript e (.Constant (.int 1) j p2) pos) (m >>= fun x => (pure x.b : M β)) := by
  obtain ⟨t, d, p⟩ := h.ex
  refine .of ⟨tOp (rIxL K) t (tC (.int 1)), pe_ix (by rw [← hK]; exact ix_list) d pe_int (fun _ _ => rfl), fun σ Hi H en Q h => p σ Hi H en _ (h.bind.imp fun x Hi1 H1 n1 k v rv => ?_)⟩
  obtain ⟨q, v1, v2, v3, rfl, g0, g1, g2, g3⟩ := rv
  exact ⟨q, _, 1, v2, rfl, rfl, Same.seq n1.sub g0, rfl, k.here n1.sub _ g2⟩
theorem je_h3_2 {α β γ : Type} [Py α] [Py β] [Py γ] {X : Cx} {K : Fg} {b : Bs} {L : List En} {E : XK} {e : Expr} {pos : Pos} {m : M (H3 α β γ)} {j : Nat} {p2 : Pos} (h : JE X K b L E e m) (hK : X.K = K := by rfl) : JE X K b L E (.Subscript e (.Constant (.int 2) j p2) pos) (m >>= fun x => (pure x.c : M γ)) := by
  obtain ⟨t, d, p⟩ := h.ex
  refine .of ⟨tOp (rIxL K) t (tC (.int 2)), pe_ix (by rw [← hK]; exact ix_list) d pe_int (fun _ _ => rfl), fun σ Hi H en Q h => p σ Hi H en _ (h.bind.imp fun x Hi1 H1 n1 k v rv => ?_)⟩
  obtain ⟨q, v1, v2, v3, rfl, g0, g1, g2, g3⟩ := rv
  exact ⟨q, _, 2, v3, rfl, rfl, Same.seq n1.sub g0, rfl, k.here n1.sub _ g3⟩
structure H4 (α β γ δ : Type) where
  a : α
  b : β
  c : γ
  d : δ
  deriving DecidableEq
instance {α β γ δ : Type} [Py α] [Py β] [Py γ] [Py δ] : Py (H4 α β γ δ) := ⟨fun K H x v => ∃ p v1 v2 v3 v4, v = .ref p ∧ SqL K H p [v1, v2, v3, v4] ∧ Py.rep K H x.a v1 ∧ Py.rep K H x.b v2 ∧ Py.rep K H x.c v3 ∧ Py.rep K H x.d v4,
  fun e ⟨p, v1, v2, v3, v4, h1, h2, h3, h4, h5, h6⟩ => ⟨p, v1, v2, v3, v4, h1, Same.seq e h2, Py.mono e h3, Py.mono e h4, Py.mono e h5, Py.mono e h6⟩⟩
theorem H4.ext' {α β γ δ : Type} {x y : (H4 α β γ δ)} (h1 : x.a = y.a) (h2 : x.b = y.b) (h3 : x.c = y.c) (h4 : x.d = y.d) : x = y := by cases x; cases y; cases h1; cases h2; cases h3; cases h4; rfl
instance {B : HO → Prop} {α β γ δ : Type} [Py α] [Py β] [Py γ] [Py δ] [LstNot B] [Wo B α] [Wo B β] [Wo B γ] [Wo B δ] : Wo B (H4 α β γ δ) := ⟨fun e ⟨p, v1, v2, v3, v4, h1, h2, h3, h4, h5, h6⟩ => ⟨p, v1, v2, v3, v4, h1, sql_wo e h2, Wo.go e h3, Wo.go e h4, Wo.go e h5, Wo.go e h6⟩⟩
theorem fixH4 {α β γ δ : Type} [Py α] [Py β] [Py γ] [Py δ] [DecidableEq α] [DecidableEq β] [DecidableEq γ] [DecidableEq δ] [PyE α] [PyE β] [PyE γ] [PyE δ] {X : Cx} {pins : List (Addr × Obj)} {σ : L2.St} {H : Hp} {s : Shared} (I : Inv X pins σ H s) {x y : (H4 α β γ δ)} {v1 v2 v3 v4 w1 w2 w3 w4 : V} (g1 : Py.rep X.K H x.a v1) (g2 : Py.rep X.K H x.b v2) (g3 : Py.rep X.K H x.c v3) (g4 : Py.rep X.K H x.d v4) (k1 : Py.rep X.K H y.a w1) (k2 : Py.rep X.K H y.b w2) (k3 : Py.rep X.K H y.c w3) (k4 : Py.rep X.K H y.d w4) :
    ∃ e, FixEq X H s 4 (max (PyE.dep (α := α)) (max (PyE.dep (α := β)) (max (PyE.dep (α := γ)) (max (PyE.dep (α := δ)) 0)))) [v1, v2, v3, v4] [w1, w2, w3, w4] e ∧ (List.range 4).all e = decide (x = y) := by
  refine ⟨_, (fix_cons I g1 k1 (fix_cons I g2 k2 (fix_cons I g3 k3 (fix_cons I g4 k4 fix_nil)))), ?_⟩
  show (decide (x.a = y.a) && (decide (x.b = y.b) && (decide (x.c = y.c) && (decide (x.d = y.d) && (true))))) = _
  obtain ⟨x1, x2, x3, x4⟩ := x
  obtain ⟨y1, y2, y3, y4⟩ := y
  by_cases e1 : x1 = y1 <;> by_cases e2 : x2 = y2 <;> by_cases e3 : x3 = y3 <;> by_cases e4 : x4 = y4 <;> simp [e1, e2, e3, e4]
instance {α β γ δ : Type} [Py α] [Py β] [Py γ] [Py δ] [DecidableEq α] [DecidableEq β] [DecidableEq γ] [DecidableEq δ] [PyE α] [PyE β] [PyE γ] [PyE δ] : PyE (H4 α β γ δ) where
  dep := (max (PyE.dep (α := α)) (max (PyE.dep (α := β)) (max (PyE.dep (α := γ)) (max (PyE.dep (α := δ)) 0)))) + 1
  inj := fun {X pins σ H s} I {a b x} h1 h2 => by
    obtain ⟨p, v1, v2, v3, v4, rfl, g0, g1, g2, g3, g4⟩ := h1
    obtain ⟨p', w1, w2, w3, w4, e, k0, k1, k2, k3, k4⟩ := h2
    cases e
    have := I.list_inj g0 k0
    cases this
    exact H4.ext' (PyE.inj I g1 k1) (PyE.inj I g2 k2) (PyE.inj I g3 k3) (PyE.inj I g4 k4)
  eq := fun {X pins σ H s} I A a b x y v u hu h1 h2 q1 q2 => by
    obtain ⟨p, v1, v2, v3, v4, rfl, g0, g1, g2, g3, g4⟩ := h1
    obtain ⟨p', w1, w2, w3, w4, e, k0, k1, k2, k3, k4⟩ := h2
    subst e
    cases q1
    cases q2
    obtain ⟨e, f, hf⟩ := fixH4 I g1 g2 g3 g4 k1 k2 k3 k4
    by_cases hp : p = p'
    · subst hp
      have := I.list_inj g0 k0
      cases this
      have : a = b := H4.ext' (PyE.inj I g1 k1) (PyE.inj I g2 k2) (PyE.inj I g3 k3) (PyE.inj I g4 k4)
      subst this
      rw [decide_eq_true rfl]
      exact SeqAt.EqAt.same _
    · exact SeqAt.EqAt.of_refs hp (hf ▸ fixL_rc I f g0 k0 hu)
  rc := fun {X pins σ H s} I A a b x y v u hu h1 h2 q1 q2 => by
    obtain ⟨p, v1, v2, v3, v4, rfl, g0, g1, g2, g3, g4⟩ := h1
    obtain ⟨p', w1, w2, w3, w4, e, k0, k1, k2, k3, k4⟩ := h2
    subst e
    cases q1
    cases q2
    obtain ⟨e, f, hf⟩ := fixH4 I g1 g2 g3 g4 k1 k2 k3 k4
    exact hf ▸ fixL_rc I f g0 k0 hu
  ne := fun {X pins σ H s} I A a b x y v u hu h1 h2 q1 q2 => by
    obtain ⟨p, v1, v2, v3, v4, rfl, g0, g1, g2, g3, g4⟩ := h1
    obtain ⟨p', w1, w2, w3, w4, e, k0, k1, k2, k3, k4⟩ := h2
    subst e
    cases q1
    cases q2
    obtain ⟨e, f, hf⟩ := fixH4 I g1 g2 g3 g4 k1 k2 k3 k4
    exact hf ▸ fixL_ne I f g0 k0 hu
theorem je_h4 {α β γ δ : Type} [Py α] [Py β] [Py γ] [Py δ] {X : Cx} {K : Fg} {b : Bs} {L : List En} {E : XK} {e1 e2 e3 e4 : Expr} {pos : Pos} {m1 : M α} {m2 : M β} {m3 : M γ} {m4 : M δ} (h1 : JE X K b L E e1 m1) (h2 : JE X K b L E e2 m2) (h3 : JE X K b L E e3 m3) (h4 : JE X K b L E e4 m4) (s1 : starEach [e1, e2, e3, e4] X.env = (false, eval e1 X.env) :: starEach [e2, e3, e4] X.env := by rfl) (s2 : starEach [e2, e3, e4] X.env = (false, eval e2 X.env) :: starEach [e3, e4] X.env := by rfl) (s3 : starEach [e3, e4] X.env = (false, eval e3 X.env) :: starEach [e4] X.env := by rfl) (s4 : starEach [e4] X.env = (false, eval e4 X.env) :: starEach [] X.env := by rfl) :
    JE X K b L E (.List [e1, e2, e3, e4] pos) (m1 >>= fun a1 => m2 >>= fun a2 => m3 >>= fun a3 => m4 >>= fun a4 => pure (H4.mk a1 a2 a3 a4)) :=
  ⟨fun σ Hi0 H0 en0 Q z0 => PE.wp (pe_lst (pa_cons pe_wp (pa_cons pe_wp (pa_cons pe_wp (pa_cons pe_wp pa_nil s4) s3) s2) s1)) (by
    refine h1.go σ Hi0 H0 en0 _ ((PX.bind z0).imp fun a1 Hi1 H1 n1 k1 v1 r1 => ?_)
    have en1 := en0.nx n1
    refine h2.go σ Hi1 H1 en1 _ ((PX.bind k1).imp fun a2 Hi2 H2 n2 k2 v2 r2 => ?_)
    have en2 := en1.nx n2
    have r1 := Py.mono n2.im r1
    refine h3.go σ Hi2 H2 en2 _ ((PX.bind k2).imp fun a3 Hi3 H3 n3 k3 v3 r3 => ?_)
    have en3 := en2.nx n3
    have r1 := Py.mono n3.im r1
    have r2 := Py.mono n3.im r2
    refine h4.go σ Hi3 H3 en3 _ ((PX.bind k3).imp fun a4 Hi4 H4 n4 k4 v4 r4 => ?_)
    have en4 := en3.nx n4
    have r1 := Py.mono n4.im r1
    have r2 := Py.mono n4.im r2
    have r3 := Py.mono n4.im r3
    refine ⟨by show 4 ≤ sizeLine; decide, fun q hq => ?_⟩
    have sm := same_new (o := .lst [v1, v2, v3, v4]) (hi_none n4.sub hq)
    exact k4.go (Nx.new n4.sub hq) _ ⟨q, v1, v2, v3, v4, rfl, .of upd_same, Py.mono sm r1, Py.mono sm r2, Py.mono sm r3, Py.mono sm r4⟩)⟩
theorem je_h4_0 {α β γ δ : Type} [Py α] [Py β] [Py γ] [Py δ] {X : Cx} {K : Fg} {b : Bs} {L : List En} {E : XK} {e : Expr} {pos : Pos} {m : M (H4 α β γ δ)} {j : Nat} {p2 : Pos} (h : JE X K b L E e m) (hK : X.K = K := by rfl) : JE X K b L E (.Subscript e (.Constant (.int 0) j p2) pos) (m >>= fun x => (pure x.a : M α)) := by
  obtain ⟨t, d, p⟩ := h.ex
  refine .of ⟨tOp (rIxL K) t (tC (.int 0)), pe_ix (by rw [← hK]; exact ix_list) d pe_int (fun _ _ => rfl), fun σ Hi H en Q h => p σ Hi H en _ (h.bind.imp fun x Hi1 H1 n1 k v rv => ?_)⟩
  obtain ⟨q, v1, v2, v3, v4, rfl, g0, g1, g2, g3, g4⟩ := rv
  exact ⟨q, _, 0, v1, rfl, rfl, Same.seq n1.sub g0, rfl, k.here n1.sub _ g1⟩
theorem je_h4_1 {α β γ δ : Type} [Py α] [Py β] [Py γ] [Py δ] {X : Cx} {K : Fg} {b : Bs} {L : List En} {E : XK} {e : Expr} {pos : Pos} {m : M (H4 α β γ δ)} {j : Nat} {p2 : Pos} (h : JE X K b L E e m) (hK : X.K = K := by rfl) : JE X K b L E (.Subscript e (.Constant (.int 1) j p2) pos) (m >>= fun x => (pure x.b : M β)) := by
  obtain ⟨t, d, p⟩ := h.ex
  refine .of ⟨tOp (rIxL K) t (tC (.int 1)), pe_ix (by rw [← hK]; exact ix_list) d pe_int (fun _ _ => rfl), fun σ Hi H en Q h => p σ Hi H en _ (h.bind.imp fun x Hi1 H1 n1 k v rv => ?_)⟩
  obtain ⟨q, v1, v2, v3, v4, rfl, g0, g1, g2, g3, g4⟩ := rv
  exact ⟨q, _, 1, v2, rfl, rfl, Same.seq n1.sub g0, rfl, k.here n1.sub _ g2⟩
theorem je_h4_2 {α β γ δ : Type} [Py α] [Py β] [Py γ] [Py δ] {X : Cx} {K : Fg} {b : Bs} {L : List En} {E : XK} {e : Expr} {pos : Pos} {m : M (H4 α β γ δ)} {j : Nat} {p2 : Pos} (h : JE X K b L E e m) (hK : X.K = K := by rfl) : JE X K b L E (.Subscript e (.Constant (.int 2) j p2) pos) (m >>= fun x => (pure x.c : M γ)) := by
  obtain ⟨t, d, p⟩ := h.ex
  refine .of ⟨tOp (rIxL K) t (tC (.int 2)), pe_ix (by rw [← hK]; exact ix_list) d pe_int (fun _ _ => rfl), fun σ Hi H en Q h => p σ Hi H en _ (h.bind.imp fun x Hi1 H1 n1 k v rv => ?_)⟩
  obtain ⟨q, v1, v2, v3, v4, rfl, g0, g1, g2, g3, g4⟩ := rv
  exact ⟨q, _, 2, v3, rfl, rfl, Same.seq n1.sub g0, rfl, k.here n1.sub _ g3⟩
theorem je_h4_3 {α β γ δ : Type} [Py α] [Py β] [Py γ] [Py δ] {X : Cx} {K : Fg} {b : Bs} {L : List En} {E : XK} {e : Expr} {pos : Pos} {m : M (H4 α β γ δ)} {j : Nat} {p2 : Pos} (h : JE X K b L E e m) (hK : X.K = K := by rfl) : JE X K b L E (.Subscript e (.Constant (.int 3) j p2) pos) (m >>= fun x => (pure x.d : M δ)) := by
  obtain ⟨t, d, p⟩ := h.ex
  refine .of ⟨tOp (rIxL K) t (tC (.int 3)), pe_ix (by rw [← hK]; exact ix_list) d pe_int (fun _ _ => rfl), fun σ Hi H en Q h => p σ Hi H en _ (h.bind.imp fun x Hi1 H1 n1 k v rv => ?_)⟩
  obtain ⟨q, v1, v2, v3, v4, rfl, g0, g1, g2, g3, g4⟩ := rv
  exact ⟨q, _, 3, v4, rfl, rfl, Same.seq n1.sub g0, rfl, k.here n1.sub _ g4⟩
end G

set_option Elab.async false
set_option linter.all false
set_option maxRecDepth 100000
set_option maxHeartbeats 2000000
namespace G
open PySem L2 TL
/-! ### plain lemmas about the mirrors -/
theorem okb {α β : Type} {a : α} {f : α → M β} : ((Except.ok a : M α) >>= f) = f a := rfl
theorem chk_t {p : Prop} [Decidable p] (h : p) : chk p = pure () := by unfold chk; rw [if_pos h]
theorem chk_b {p : Prop} [Decidable p] {α : Type} {f : Unit → M α} (h : p) : (chk p >>= f) = f () := by rw [chk_t h]; rfl
theorem modI_ok {i j : Int} (h : 0 < j) : modI i j = pure (i % j) := by unfold modI; rw [chk_t h]; rfl
theorem divI_ok {i j : Int} (h : 0 < j) (h2 : j < 1073741824) : divI i j = pure (i / j) := by unfold divI; rw [chk_t ⟨h, h2⟩]; rfl
theorem mulI_l {i j : Int} (h : -(2 ^ 64) < i) (h2 : i < 2 ^ 64) : mulI i j = pure (i * j) := by unfold mulI; rw [chk_t (.inl ⟨h, h2⟩)]; rfl
theorem mulI_r {i j : Int} (h : -(2 ^ 64) < j) (h2 : j < 2 ^ 64) : mulI i j = pure (i * j) := by unfold mulI; rw [chk_t (.inr ⟨h, h2⟩)]; rfl
theorem addT_ok {a c : Tx} (h : a.length + c.length ≤ SZ) : addT a c = pure (a ++ c) := by unfold addT; rw [chk_t h]; rfl
theorem lenT_ok {a : Tx} (h : a.length ≤ SZ) : lenT a = pure (a.length : Int) := by unfold lenT; rw [chk_t h]; rfl
theorem inS_one {c : Nat} {t : Tx} : inS [c] t = pure (decide (c ∈ t)) := rfl
theorem ixN_nat {n : Nat} {i : Int} (h0 : 0 ≤ i) (h : i < n) : ixN n i = some i.toNat := by unfold ixN; rw [if_pos h0, if_pos h]
theorem atI_some {α : Type} {xs : List α} {i : Int} (h0 : 0 ≤ i) (h : i < xs.length) : ∃ a, atI xs i = some a ∧ xs[i.toNat]? = some a := by
  unfold atI
  rw [ixN_nat h0 h]
  have hl : i.toNat < xs.length := by omega
  exact ⟨xs[i.toNat], List.getElem?_eq_getElem hl, List.getElem?_eq_getElem hl⟩
theorem atL_ok {α : Type} {xs : List α} {i : Int} (h0 : 0 ≤ i) (h : i < xs.length) : ∃ a, atL xs i = pure a ∧ a ∈ xs := by
  obtain ⟨a, e, e2⟩ := atI_some h0 h
  exact ⟨a, by unfold atL; rw [e]; rfl, List.mem_of_getElem? e2⟩
theorem atT_ok {x : Tx} {i : Int} (h0 : 0 ≤ i) (h : i < x.length) (hz : x.length ≤ SZ) : ∃ c, atT x i = pure [c] ∧ x[i.toNat]? = some c := by
  obtain ⟨a, e, e2⟩ := atI_some h0 h
  exact ⟨a, by unfold atT; rw [chk_t hz, e]; rfl, e2⟩
/-- it comes to an end that is so -/
def Okp {α : Type} (m : M α) (P : α → Prop) : Prop := ∃ a, m = .ok a ∧ P a
section
variable {α β : Type} {m : M α} {f : α → M β} {P : α → Prop} {Q : β → Prop}
theorem Okp.bind (h : Okp m P) (k : ∀ a, P a → Okp (f a) Q) : Okp (m >>= f) Q := by
  obtain ⟨a, rfl, p⟩ := h
  exact k a p
theorem Okp.pure {a : α} (h : P a) : Okp (pure a) P := ⟨a, rfl, h⟩
theorem Okp.chk {p : Prop} [Decidable p] {g : Unit → M β} (h : p) (k : Okp (g ()) Q) : Okp (chk p >>= g) Q := by rw [chk_b h]; exact k
theorem Okp.imp {P' : α → Prop} (h : Okp m P) (k : ∀ a, P a → P' a) : Okp m P' := let ⟨a, e, p⟩ := h; ⟨a, e, k a p⟩
theorem mapE_ok {f : α → M β} : ∀ {xs : List α}, (∀ x ∈ xs, Okp (f x) Q) → Okp (mapE f xs) fun ys => ys.length = xs.length ∧ ∀ y ∈ ys, Q y
  | [], _ => ⟨[], rfl, rfl, fun y h => nomatch h⟩
  | x :: xs, h => by
    obtain ⟨y, e, q⟩ := h x (List.mem_cons_self ..)
    obtain ⟨ys, e2, l, q2⟩ := mapE_ok (xs := xs) fun z hz => h z (List.mem_cons_of_mem _ hz)
    refine ⟨y :: ys, by unfold mapE; rw [e, e2]; rfl, by rw [List.length_cons, List.length_cons, l], fun z hz => ?_⟩
    rcases List.mem_cons.mp hz with e | hz
    · rw [e]; exact q
    · exact q2 z hz
theorem lc_ok {f : α → M β} {xs : List α} (hl : xs.length ≤ SZ) (h : ∀ x ∈ xs, Okp (f x) Q) : Okp (lc f xs) fun ys => ys.length = xs.length ∧ ∀ y ∈ ys, Q y := by
  obtain ⟨ys, e, q⟩ := mapE_ok h
  exact ⟨ys, by unfold lc; rw [chk_b hl, e]; rfl, q⟩
/-- .. with its value -/
theorem mapE_map {f : α → M β} {g : α → β} : ∀ {xs : List α}, (∀ x ∈ xs, f x = .ok (g x)) → mapE f xs = .ok (xs.map g)
  | [], _ => rfl
  | x :: xs, h => by
    unfold mapE
    rw [h x (List.mem_cons_self ..), mapE_map (g := g) fun z hz => h z (List.mem_cons_of_mem _ hz)]
    rfl
theorem lc_map {f : α → M β} {g : α → β} {xs : List α} (hl : xs.length ≤ SZ) (h : ∀ x ∈ xs, f x = .ok (g x)) : lc f xs = .ok (xs.map g) := by
  unfold lc
  rw [chk_b hl, mapE_map h]
  rfl
theorem filE_fil {t : α → M Bool} {p : α → Bool} {f : α → M β} {g : α → β} : ∀ {xs : List α}, (∀ x ∈ xs, t x = .ok (p x)) → (∀ x ∈ xs, p x = true → f x = .ok (g x)) → filE t f xs = .ok ((xs.filter p).map g)
  | [], _, _ => rfl
  | x :: xs, h, h2 => by
    have ih := filE_fil (xs := xs) (t := t) (p := p) (f := f) (g := g) (fun z hz => h z (List.mem_cons_of_mem _ hz)) (fun z hz => h2 z (List.mem_cons_of_mem _ hz))
    unfold filE
    rw [h x (List.mem_cons_self ..), ih]
    show (if p x = true then _ else _) = _
    cases hp : p x with
    | true =>
      rw [if_pos rfl, h2 x (List.mem_cons_self ..) hp, List.filter_cons_of_pos hp]
      rfl
    | false =>
      rw [if_neg Bool.false_ne_true, List.filter_cons_of_neg (by rw [hp]; exact Bool.false_ne_true)]
theorem lf_fil {t : α → M Bool} {p : α → Bool} {f : α → M β} {g : α → β} {xs : List α} (hl : xs.length ≤ SZ) (h : ∀ x ∈ xs, t x = .ok (p x)) (h2 : ∀ x ∈ xs, p x = true → f x = .ok (g x)) : lf t f xs = .ok ((xs.filter p).map g) := by
  unfold lf
  rw [chk_b hl, filE_fil h h2]
  rfl
/-- a search: the first item that answers -/
theorem forT_search {R : Type} {f : Unit → α → M (Tl Unit R)} {p : α → Bool} {r : R} : ∀ {xs : List α}, (∀ x ∈ xs, f () x = .ok (if p x = true then .rt r else .ct ())) → forT f () xs = .ok (if xs.any p = true then .inr r else .inl ())
  | [], _ => rfl
  | x :: xs, h => by
    unfold forT
    rw [h x (List.mem_cons_self ..), List.any_cons]
    cases hp : p x with
    | true => rfl
    | false =>
      show forT f () xs = _
      rw [forT_search (p := p) (r := r) fun z hz => h z (List.mem_cons_of_mem _ hz)]
      rfl
end
theorem SZ_val : SZ = 16777216 := sizeLine_eq
theorem joinL_len : ∀ (s : Tx) (xs : List Tx), (joinL s xs).length ≤ (xs.map (·.length)).sum + xs.length * s.length
  | s, [] => by simp [joinL]
  | s, [x] => by simp [joinL]
  | s, x :: y :: r => by
    have ih := joinL_len s (y :: r)
    have e : joinL s (x :: y :: r) = x ++ (s ++ joinL s (y :: r)) := rfl
    rw [e, List.length_append, List.length_append, List.map_cons, List.sum_cons]
    have : (x :: y :: r).length * s.length = s.length + (y :: r).length * s.length := by
      rw [List.length_cons, Nat.add_mul]; omega
    omega
theorem sum_le {k : Nat} : ∀ {xs : List Tx}, (∀ x ∈ xs, x.length ≤ k) → (xs.map (·.length)).sum ≤ xs.length * k
  | [], _ => by simp
  | x :: xs, h => by
    have ih := sum_le (k := k) (xs := xs) fun z hz => h z (List.mem_cons_of_mem _ hz)
    have h1 := h x (List.mem_cons_self ..)
    rw [List.map_cons, List.sum_cons, List.length_cons, Nat.add_mul]
    omega
theorem joinM_ok {s : Tx} {xs : List Tx} (h : (xs.map (·.length)).sum + xs.length * s.length ≤ 16777216) : joinM s xs = .ok (joinL s xs) := by unfold joinM; rw [chk_b h]; rfl
theorem cut_len {α : Type} (xs : List α) (lo hi : Option Int) : (cut xs lo hi).length ≤ xs.length := by
  unfold cut
  rw [List.length_take, List.length_drop]; omega
theorem rangeL_len (lo : Int) (n : Nat) : (rangeL lo n).length = n := by unfold rangeL; rw [List.length_map, List.length_range]
theorem range1_ok {n : Int} (h : -(2 ^ 62) ≤ n) (h2 : n < 2 ^ 62) : range1 n = .ok (rangeL 0 n.toNat) := by unfold range1; rw [chk_b ⟨h, h2⟩]; rfl
theorem mem_rangeL {lo : Int} {n : Nat} {x : Int} (h : x ∈ rangeL lo n) : lo ≤ x ∧ x < lo + n := by
  unfold rangeL at h
  obtain ⟨i, hi, rfl⟩ := List.mem_map.mp h
  have := List.mem_range.mp hi
  omega
end G

set_option Elab.async false
set_option linter.all false
set_option maxRecDepth 100000
set_option maxHeartbeats 4000000
namespace Q
open PySem L2 G
/-! the mirrors -/
def m_is_name (p0 : Tx) : M Bool :=
  ((((pure (1 : Int) : M Int) >>= fun x2 => ((pure p0 : M Tx) >>= fun x1 => lenT x1) >>= fun y3 => (pure (decide (x2 ≤ y3)) : M Bool) >>= fun c5 => if c5 = true then (pure (12 : Int) : M Int) >>= fun z4 => (pure (decide (y3 ≤ z4)) : M Bool) else pure false) >>= fun c6 => pure (!c6)) >>= fun c7 => if c7 = true then (pure false : M Bool) else
  (((pure p0 : M Tx) >>= fun x8 => pure (signs x8)) >>= fun l11 => forT (fun (s9 : Unit) (e10 : Tx) => ((((pure e10 : M Tx) >>= fun x15 => (pure (tx "abcdefghijklmnopqrstuvwxyz") : M Tx) >>= fun y16 => (inS x15 y16 >>= fun c17 => pure (!c17))) >>= fun c25 => if c25 = true then (((pure e10 : M Tx) >>= fun x18 => (pure (tx "ABCDEFGHIJKLMNOPQRSTUVWXYZ") : M Tx) >>= fun y19 => (inS x18 y19 >>= fun c20 => pure (!c20))) >>= fun c24 => if c24 = true then ((pure e10 : M Tx) >>= fun x21 => (pure (tx "0123456789") : M Tx) >>= fun y22 => (inS x21 y22 >>= fun c23 => pure (!c23))) else pure false) else pure false) >>= fun c26 => if c26 = true then ((pure false : M Bool) >>= fun r27 => (pure (.rt r27) : M (Tl Unit Bool))) else (pure (.ct ()) : M (Tl Unit Bool)))) () l11 >>= thenT (fun s9 =>
  (pure true : M Bool)) id))

def m_is_word (p0 : Tx) : M Bool :=
  (((pure p0 : M Tx) >>= fun x1 => m_is_name x1) >>= fun c7 => if c7 = true then (((pure p0 : M Tx) >>= fun x2 => (pure (0 : Int) : M Int) >>= fun y3 => atT x2 y3) >>= fun x4 => (pure (tx "ABCDEFGHIJKLMNOPQRSTUVWXYZ") : M Tx) >>= fun y5 => (inS x4 y5 >>= fun c6 => pure (!c6))) else pure false)

def m_is_open (p0 : Tx) : M Bool :=
  (((pure p0 : M Tx) >>= fun x1 => m_is_name x1) >>= fun c6 => if c6 = true then (((pure p0 : M Tx) >>= fun x2 => (pure (0 : Int) : M Int) >>= fun y3 => atT x2 y3) >>= fun x4 => (pure (tx "ABCDEFGHIJKLMNOPQRSTUVWXYZ") : M Tx) >>= fun y5 => inS x4 y5) else pure false)

def m_fact_text (p0 : (Tx × (Tup Tx))) : M Tx :=
  (((((pure p0 : M (Tx × (Tup Tx))) >>= fun x1 => pure x1.2) >>= fun x3 => (pure ((List.length (α := Tx) x3 : Nat) : Int) : M Int)) >>= fun x4 => (pure (0 : Int) : M Int) >>= fun y5 => (pure (decide (x4 = y5)) : M Bool)) >>= fun c6 => if c6 = true then ((pure p0 : M (Tx × (Tup Tx))) >>= fun x7 => pure x7.1) else
  (((((pure p0 : M (Tx × (Tup Tx))) >>= fun x9 => pure x9.1) >>= fun x11 => (pure (tx "(") : M Tx) >>= fun y12 => addT x11 y12) >>= fun x17 => ((pure (tx ",") : M Tx) >>= fun x15 => ((pure p0 : M (Tx × (Tup Tx))) >>= fun x13 => pure x13.2) >>= fun y16 => joinM x15 y16) >>= fun y18 => addT x17 y18) >>= fun x19 => (pure (tx ")") : M Tx) >>= fun y20 => addT x19 y20))

def m_facts_text (p0 : (List (Tx × (Tup Tx)))) : M Tx :=
  ((pure (tx ", ") : M Tx) >>= fun x4 => ((pure p0 : M (List (Tx × (Tup Tx)))) >>= fun y3 => lc (fun e1 => ((pure e1 : M (Tx × (Tup Tx))) >>= fun x2 => m_fact_text x2)) y3) >>= fun y5 => joinM x4 y5)

def m_facts_text_v1 (p0 : (Tup (Tx × (Tup Tx)))) : M Tx :=
  ((pure (tx ", ") : M Tx) >>= fun x4 => (((pure p0 : M (Tup (Tx × (Tup Tx)))) : M (List (Tx × (Tup Tx)))) >>= fun y3 => lc (fun e1 => ((pure e1 : M (Tx × (Tup Tx))) >>= fun x2 => m_fact_text x2)) y3) >>= fun y5 => joinM x4 y5)

def m_kind_lasts (p0 : (List (T3 Tx Int Bool))) : M (Dic Bool) :=
  ((pure [] : M (List (Tx × Bool))) >>= fun a1 =>
  (((pure p0 : M (List (T3 Tx Int Bool))) >>= fun l4 => forP (fun (s2 : (Dic Bool)) (e3 : (T3 Tx Int Bool)) => ((((pure e3 : M (T3 Tx Int Bool)) >>= fun x9 => pure x9.c) >>= fun a13 => ((pure e3 : M (T3 Tx Int Bool)) >>= fun x11 => pure x11.a) >>= fun k14 => chk (s2.length < SZ) >>= fun _u15 => (pure (dputM s2 k14 a13) : M (List (Tx × Bool)))) >>= fun a8 =>
  (pure a8 : M (Dic Bool)))) a1 l4) >>= fun s2 =>
  (pure s2 : M (Dic Bool))))

def m_look_at_facts (p0 : (List (T3 Tx Int Bool))) (p1 : (List (Tx × (Tup Tx)))) : M Unit :=
  ((pure [] : M (List (Tx × Int))) >>= fun a1 =>
  (((pure p0 : M (List (T3 Tx Int Bool))) >>= fun l4 => forP (fun (s2 : (Dic Int)) (e3 : (T3 Tx Int Bool)) => ((((pure e3 : M (T3 Tx Int Bool)) >>= fun x9 => pure x9.b) >>= fun a13 => ((pure e3 : M (T3 Tx Int Bool)) >>= fun x11 => pure x11.a) >>= fun k14 => chk (s2.length < SZ) >>= fun _u15 => (pure (dputM s2 k14 a13) : M (List (Tx × Int)))) >>= fun a8 =>
  (pure a8 : M (Dic Int)))) a1 l4) >>= fun s2 =>
  (((pure p1 : M (List (Tx × (Tup Tx)))) >>= fun l18 => forP (fun (s16 : Unit) (e17 : (Tx × (Tup Tx))) => (((((pure e17 : M (Tx × (Tup Tx))) >>= fun x22 => pure x22.1) >>= fun k24 => (pure s2 : M (Dic Int)) >>= fun d25 => (pure (!(dgetM (α := Int) d25 k24).isSome) : M Bool)) >>= fun c26 => if c26 = true then (raise "NoKind" : M Unit) else (pure () : M Unit)) >>= fun s27 =>
  ((((((pure e17 : M (Tx × (Tup Tx))) >>= fun x28 => pure x28.2) >>= fun x30 => (pure ((List.length (α := Tx) x30 : Nat) : Int) : M Int)) >>= fun x35 => ((pure s2 : M (Dic Int)) >>= fun d33 => ((pure e17 : M (Tx × (Tup Tx))) >>= fun x31 => pure x31.1) >>= fun k34 => ofO (dgetM (α := Int) d33 k34)) >>= fun y36 => (pure (!decide (x35 = y36)) : M Bool)) >>= fun c37 => if c37 = true then (raise "BadArgs" : M Unit) else (pure () : M Unit)) >>= fun s38 =>
  (pure () : M Unit)))) () l18) >>= fun s16 =>
  (pure () : M Unit))))

def m_look_at_taken (p0 : (Dic Bool)) (p1 : (List (Tx × (Tup Tx)))) : M Unit :=
  (((pure p1 : M (List (Tx × (Tup Tx)))) >>= fun l3 => forP (fun (s1 : Unit) (e2 : (Tx × (Tup Tx))) => ((((pure p0 : M (Dic Bool)) >>= fun d9 => ((pure e2 : M (Tx × (Tup Tx))) >>= fun x7 => pure x7.1) >>= fun k10 => ofO (dgetM (α := Bool) d9 k10)) >>= fun c11 => if c11 = true then (raise "BadTake" : M Unit) else (pure () : M Unit)) >>= fun s12 =>
  (pure () : M Unit))) () l3) >>= fun s1 =>
  (pure () : M Unit))

def m_renamed_fact (p0 : (Tx × (Tup Tx))) (p1 : (Dic Tx)) : M (Tx × (Tup Tx)) :=
  (((pure p0 : M (Tx × (Tup Tx))) >>= fun x1 => pure x1.1) >>= fun x11 => (((((pure p0 : M (Tx × (Tup Tx))) >>= fun x3 => pure x3.2) : M (List Tx)) >>= fun y9 => lc (fun e5 => ((pure p1 : M (Dic Tx)) >>= fun d6 => (pure e5 : M Tx) >>= fun k7 => (pure e5 : M Tx) >>= fun x8 => (pure ((dgetM (α := Tx) d6 k7).getD x8) : M Tx))) y9) >>= fun x10 => (pure x10 : M (Tup Tx))) >>= fun x12 => pure (x11, x12))

def m_learn_names (p0 : (Dic Tx)) (p1 : (Tup Tx)) : M (Unit × (Dic Tx)) :=
  ((((pure p1 : M (Tup Tx)) : M (List Tx)) >>= fun l3 => forP (fun (s1 : (Dic Tx)) (e2 : Tx) => (((((pure e2 : M Tx) >>= fun x7 => m_is_open x7) >>= fun c10 => if c10 = true then ((pure e2 : M Tx) >>= fun k8 => (pure s1 : M (Dic Tx)) >>= fun d9 => (pure (!(dgetM (α := Tx) d9 k8).isSome) : M Bool)) else pure false) >>= fun c11 => if c11 = true then (((pure e2 : M Tx) >>= fun a14 => (pure e2 : M Tx) >>= fun k15 => chk (s1.length < SZ) >>= fun _u16 => (pure (dputM s1 k15 a14) : M (List (Tx × Tx)))) >>= fun a13 =>
  (pure a13 : M (Dic Tx))) else (pure s1 : M (Dic Tx))) >>= fun s12 =>
  (pure s12 : M (Dic Tx)))) p0 l3) >>= fun s1 =>
  (pure ((), s1) : M (Unit × (Dic Tx))))

def m_first_of (p0 : Tx) (p1 : Tx) : M Tx :=
  (((pure p0 : M Tx) >>= fun x1 => m_is_word x1) >>= fun c2 => if c2 = true then (pure p0 : M Tx) else
  (((pure p1 : M Tx) >>= fun x3 => m_is_word x3) >>= fun c4 => if c4 = true then (pure p1 : M Tx) else
  ((pure p0 : M Tx) >>= fun x5 => (pure p1 : M Tx) >>= fun y6 => (pure (if y6 < x5 then y6 else x5) : M Tx))))

def m_tell_same (p0 : (Dic Tx)) (p1 : (Tx × Tx)) : M (Bool × (Dic Tx)) :=
  (((pure p0 : M (Dic Tx)) >>= fun d6 => ((pure p1 : M (Tx × Tx)) >>= fun x2 => pure x2.1) >>= fun k7 => ((pure p1 : M (Tx × Tx)) >>= fun x4 => pure x4.1) >>= fun x8 => (pure ((dgetM (α := Tx) d6 k7).getD x8) : M Tx)) >>= fun a1 =>
  (((pure p0 : M (Dic Tx)) >>= fun d14 => ((pure p1 : M (Tx × Tx)) >>= fun x10 => pure x10.2) >>= fun k15 => ((pure p1 : M (Tx × Tx)) >>= fun x12 => pure x12.2) >>= fun x16 => (pure ((dgetM (α := Tx) d14 k15).getD x16) : M Tx)) >>= fun a9 =>
  (((pure a1 : M Tx) >>= fun x17 => (pure a9 : M Tx) >>= fun y18 => (pure (decide (x17 = y18)) : M Bool)) >>= fun c19 => if c19 = true then ((pure true : M Bool) >>= fun r20 => (pure (r20, p0) : M (Bool × (Dic Tx)))) else
  ((((pure a1 : M Tx) >>= fun x21 => m_is_word x21) >>= fun c23 => if c23 = true then ((pure a9 : M Tx) >>= fun x22 => m_is_word x22) else pure false) >>= fun c24 => if c24 = true then ((pure false : M Bool) >>= fun r25 => (pure (r25, p0) : M (Bool × (Dic Tx)))) else
  (((pure a1 : M Tx) >>= fun x27 => (pure a9 : M Tx) >>= fun x28 => m_first_of x27 x28) >>= fun a26 =>
  ((((pure p0 : M (Dic Tx)) >>= fun d29 => (pure (List.map (fun (q : Tx × Tx) => q.1) d29) : M (List Tx))) >>= fun l32 => forP (fun (s30 : (Dic Tx)) (e31 : Tx) => ((((((pure s30 : M (Dic Tx)) >>= fun d36 => (pure e31 : M Tx) >>= fun k37 => ofO (dgetM (α := Tx) d36 k37)) >>= fun x38 => (pure a1 : M Tx) >>= fun y39 => (pure (decide (x38 = y39)) : M Bool)) >>= fun c44 => if c44 = true then pure true else (((pure s30 : M (Dic Tx)) >>= fun d40 => (pure e31 : M Tx) >>= fun k41 => ofO (dgetM (α := Tx) d40 k41)) >>= fun x42 => (pure a9 : M Tx) >>= fun y43 => (pure (decide (x42 = y43)) : M Bool))) >>= fun c45 => if c45 = true then (((pure a26 : M Tx) >>= fun a48 => (pure e31 : M Tx) >>= fun k49 => chk (s30.length < SZ) >>= fun _u50 => (pure (dputM s30 k49 a48) : M (List (Tx × Tx)))) >>= fun a47 =>
  (pure a47 : M (Dic Tx))) else (pure s30 : M (Dic Tx))) >>= fun s46 =>
  (pure s46 : M (Dic Tx)))) p0 l32) >>= fun s30 =>
  ((pure true : M Bool) >>= fun r51 => (pure (r51, s30) : M (Bool × (Dic Tx))))))))))

def m_without_facts (p0 : (Tup (Tx × (Tup Tx)))) (p1 : (List (Tx × (Tup Tx)))) : M (List (Tx × (Tup Tx))) :=
  (((pure p0 : M (Tup (Tx × (Tup Tx)))) >>= fun x2 => (pure x2 : M (List (Tx × (Tup Tx))))) >>= fun a1 =>
  (((pure p1 : M (List (Tx × (Tup Tx)))) >>= fun l5 => forP (fun (s3 : (List (Tx × (Tup Tx)))) (e4 : (Tx × (Tup Tx))) => ((((pure e4 : M (Tx × (Tup Tx))) >>= fun x10 => (pure s3 : M (List (Tx × (Tup Tx)))) >>= fun y11 => (chk (Shp x10 ∧ Shp y11) >>= fun _u9 => (pure (!memD x10 y11) : M Bool))) >>= fun c12 => if c12 = true then (raise "NoFact" : M Unit) else (pure () : M Unit)) >>= fun s13 =>
  (((pure e4 : M (Tx × (Tup Tx))) >>= fun a15 => chk (Shp a15 ∧ Shp s3 ∧ (rmAt a15 s3).isSome = true) >>= fun _u16 => pure a15) >>= fun a14 =>
  (pure (rmv a14 s3) : M (List (Tx × (Tup Tx))))))) a1 l5) >>= fun s3 =>
  (pure s3 : M (List (Tx × (Tup Tx))))))

def m_settled_pool (p0 : (List (Tx × (Tup Tx)))) (p1 : (List (Tx × (Tup Tx)))) (p2 : (Dic Tx)) : M (T4 (Tup (Tx × (Tup Tx))) (Tup (Tx × (Tup Tx))) (TupN (Tx × Tx)) Bool) :=
  ((((pure p0 : M (List (Tx × (Tup Tx)))) >>= fun y5 => lc (fun e2 => ((pure e2 : M (Tx × (Tup Tx))) >>= fun x3 => (pure p2 : M (Dic Tx)) >>= fun x4 => m_renamed_fact x3 x4)) y5) >>= fun x6 => sortM x6) >>= fun a1 =>
  ((pure [] : M (List ((Tx × (Tup Tx)) × Bool))) >>= fun a7 =>
  (((pure p1 : M (List (Tx × (Tup Tx)))) >>= fun l10 => forP (fun (s8 : (List ((Tx × (Tup Tx)) × Bool))) (e9 : (Tx × (Tup Tx))) => (((pure true : M Bool) >>= fun a17 => ((pure e9 : M (Tx × (Tup Tx))) >>= fun x15 => (pure p2 : M (Dic Tx)) >>= fun x16 => m_renamed_fact x15 x16) >>= fun k18 => chk (s8.length < SZ) >>= fun _u19 => (pure (putF s8 k18 a17) : M (List ((Tx × (Tup Tx)) × Bool)))) >>= fun a14 =>
  (pure a14 : M (List ((Tx × (Tup Tx)) × Bool))))) a7 l10) >>= fun s8 =>
  (((pure a1 : M (List (Tx × (Tup Tx)))) >>= fun x20 => (pure x20 : M (Tup (Tx × (Tup Tx))))) >>= fun x24 => ((sortM (List.map (fun (q : (Tx × (Tup Tx)) × Bool) => q.1) s8)) >>= fun x21 => (pure x21 : M (Tup (Tx × (Tup Tx))))) >>= fun x25 => (((pure p2 : M (Dic Tx)) >>= fun d22 => sortM (show List (Tx × Tx) from d22)) >>= fun x23 => (pure x23 : M (TupN (Tx × Tx)))) >>= fun x26 => (pure false : M Bool) >>= fun x27 => pure (T4.mk x24 x25 x26 x27)))))

def m_moved (p0 : (List (T3 Tx Int Bool))) (p1 : (T4 (Tup (Tx × (Tup Tx))) (Tup (Tx × (Tup Tx))) (TupN (Tx × Tx)) Bool)) (p2 : (List (Tx × (Tup Tx)))) (p3 : (List (Tx × (Tup Tx)))) (p4 : (List (Tx × Tx))) : M (T4 (Tup (Tx × (Tup Tx))) (Tup (Tx × (Tup Tx))) (TupN (Tx × Tx)) Bool) :=
  ((((pure p0 : M (List (T3 Tx Int Bool))) >>= fun x2 => (pure p2 : M (List (Tx × (Tup Tx)))) >>= fun x3 => m_look_at_facts x2 x3) >>= fun _y4 => (pure () : M Unit)) >>= fun a1 =>
  ((((pure p0 : M (List (T3 Tx Int Bool))) >>= fun x6 => (pure p3 : M (List (Tx × (Tup Tx)))) >>= fun x7 => m_look_at_facts x6 x7) >>= fun _y8 => (pure () : M Unit)) >>= fun a5 =>
  (((pure p0 : M (List (T3 Tx Int Bool))) >>= fun x10 => m_kind_lasts x10) >>= fun a9 =>
  ((((pure a9 : M (Dic Bool)) >>= fun x12 => (pure p2 : M (List (Tx × (Tup Tx)))) >>= fun x13 => m_look_at_taken x12 x13) >>= fun _y14 => (pure () : M Unit)) >>= fun a11 =>
  (((pure p1 : M (T4 (Tup (Tx × (Tup Tx))) (Tup (Tx × (Tup Tx))) (TupN (Tx × Tx)) Bool)) >>= fun x15 => (pure x15.d : M Bool)) >>= fun c17 => if c17 = true then (pure (T4.mk [] [] [] true) : M (T4 (Tup (Tx × (Tup Tx))) (Tup (Tx × (Tup Tx))) (TupN (Tx × Tx)) Bool)) else
  ((((pure p1 : M (T4 (Tup (Tx × (Tup Tx))) (Tup (Tx × (Tup Tx))) (TupN (Tx × Tx)) Bool)) >>= fun x19 => (pure x19.c : M (TupN (Tx × Tx)))) >>= fun x21 => (pure (mkD x21) : M (List (Tx × Tx)))) >>= fun a18 =>
  ((((pure p1 : M (T4 (Tup (Tx × (Tup Tx))) (Tup (Tx × (Tup Tx))) (TupN (Tx × Tx)) Bool)) >>= fun x23 => (pure x23.a : M (Tup (Tx × (Tup Tx))))) >>= fun x29 => ((pure p2 : M (List (Tx × (Tup Tx)))) >>= fun y28 => lc (fun e25 => ((pure e25 : M (Tx × (Tup Tx))) >>= fun x26 => (pure a18 : M (Dic Tx)) >>= fun x27 => m_renamed_fact x26 x27)) y28) >>= fun x30 => m_without_facts x29 x30) >>= fun a22 =>
  ((((pure p1 : M (T4 (Tup (Tx × (Tup Tx))) (Tup (Tx × (Tup Tx))) (TupN (Tx × Tx)) Bool)) >>= fun x32 => (pure x32.b : M (Tup (Tx × (Tup Tx))))) >>= fun x34 => (pure x34 : M (List (Tx × (Tup Tx))))) >>= fun a31 =>
  (((pure p3 : M (List (Tx × (Tup Tx)))) >>= fun l37 => forP (fun (s35 : ((Dic Tx) × (List (Tx × (Tup Tx))) × (List (Tx × (Tup Tx))))) (e36 : (Tx × (Tup Tx))) => (((((pure e36 : M (Tx × (Tup Tx))) >>= fun x42 => pure x42.2) >>= fun x44 => m_learn_names s35.1 x44) >>= fun r45 => (pure r45.2 : M (Dic Tx))) >>= fun a41 =>
  ((((pure a9 : M (Dic Bool)) >>= fun d48 => ((pure e36 : M (Tx × (Tup Tx))) >>= fun x46 => pure x46.1) >>= fun k49 => ofO (dgetM (α := Bool) d48 k49)) >>= fun c50 => if c50 = true then (((pure e36 : M (Tx × (Tup Tx))) >>= fun a53 => chk (s35.2.2.length < SZ) >>= fun _u54 => pure a53) >>= fun a52 =>
  (pure (s35.2.1, (s35.2.2 ++ [a52])) : M ((List (Tx × (Tup Tx))) × (List (Tx × (Tup Tx)))))) else (((pure e36 : M (Tx × (Tup Tx))) >>= fun a56 => chk (s35.2.1.length < SZ) >>= fun _u57 => pure a56) >>= fun a55 =>
  (pure ((s35.2.1 ++ [a55]), s35.2.2) : M ((List (Tx × (Tup Tx))) × (List (Tx × (Tup Tx))))))) >>= fun s51 =>
  (pure (a41, s51.1, s51.2) : M ((Dic Tx) × (List (Tx × (Tup Tx))) × (List (Tx × (Tup Tx)))))))) (a18, a22, a31) l37) >>= fun s35 =>
  ((pure p4 : M (List (Tx × Tx))) >>= fun l60 => forT (fun (s58 : (Dic Tx)) (e59 : (Tx × Tx)) => (((((pure e59 : M (Tx × Tx)) >>= fun x65 => (pure (show (Tup Tx) from [x65.1, x65.2]) : M (Tup Tx))) >>= fun x66 => m_learn_names s58 x66) >>= fun r67 => (pure r67.2 : M (Dic Tx))) >>= fun a64 =>
  (ifM (((pure e59 : M (Tx × Tx)) >>= fun x68 => m_tell_same a64 x68) >>= fun r69 => pure (!r69.1, r69.2)) (fun (s70 : (Dic Tx)) => ((pure (T4.mk [] [] [] true) : M (T4 (Tup (Tx × (Tup Tx))) (Tup (Tx × (Tup Tx))) (TupN (Tx × Tx)) Bool)) >>= fun r71 => (pure (.rt r71) : M (Tl (Dic Tx) (T4 (Tup (Tx × (Tup Tx))) (Tup (Tx × (Tup Tx))) (TupN (Tx × Tx)) Bool))))) (fun (s70 : (Dic Tx)) =>
  (pure (.ct s70) : M (Tl (Dic Tx) (T4 (Tup (Tx × (Tup Tx))) (Tup (Tx × (Tup Tx))) (TupN (Tx × Tx)) Bool))))))) s35.1 l60 >>= thenT (fun s58 =>
  ((pure s35.2.1 : M (List (Tx × (Tup Tx)))) >>= fun x72 => (pure s35.2.2 : M (List (Tx × (Tup Tx)))) >>= fun x73 => (pure s58 : M (Dic Tx)) >>= fun x74 => m_settled_pool x72 x73 x74)) id))))))))))

def m_start_pool (p0 : (List (T3 Tx Int Bool))) (p1 : (List (Tx × (Tup Tx)))) : M (T4 (Tup (Tx × (Tup Tx))) (Tup (Tx × (Tup Tx))) (TupN (Tx × Tx)) Bool) :=
  ((pure p0 : M (List (T3 Tx Int Bool))) >>= fun x1 => (pure (T4.mk [] [] [] false) : M (T4 (Tup (Tx × (Tup Tx))) (Tup (Tx × (Tup Tx))) (TupN (Tx × Tx)) Bool)) >>= fun x2 => (pure [] : M (List (Tx × (Tup Tx)))) >>= fun x3 => (pure p1 : M (List (Tx × (Tup Tx)))) >>= fun x4 => (pure [] : M (List (Tx × Tx))) >>= fun x5 => m_moved x1 x2 x3 x4 x5)

def m_stands_for (p0 : (T4 (Tup (Tx × (Tup Tx))) (Tup (Tx × (Tup Tx))) (TupN (Tx × Tx)) Bool)) (p1 : Tx) : M Tx :=
  (((pure p1 : M Tx) >>= fun x1 => m_is_word x1) >>= fun c2 => if c2 = true then (pure p1 : M Tx) else
  (((((pure p0 : M (T4 (Tup (Tx × (Tup Tx))) (Tup (Tx × (Tup Tx))) (TupN (Tx × Tx)) Bool)) >>= fun x3 => (pure x3.c : M (TupN (Tx × Tx)))) >>= fun x5 => (pure (show (Tup (Tx × Tx)) from x5) : M (Tup (Tx × Tx)))) : M (List (Tx × Tx))) >>= fun l8 => forT (fun (s6 : Unit) (e7 : (Tx × Tx)) => ((((pure e7 : M (Tx × Tx)) >>= fun x12 => pure x12.1) >>= fun x14 => (pure p1 : M Tx) >>= fun y15 => (pure (decide (x14 = y15)) : M Bool)) >>= fun c16 => if c16 = true then (((pure e7 : M (Tx × Tx)) >>= fun x17 => pure x17.2) >>= fun r19 => (pure (.rt r19) : M (Tl Unit Tx))) else (pure (.ct ()) : M (Tl Unit Tx)))) () l8 >>= thenT (fun s6 =>
  (raise "NoName" : M Tx)) id))

def m_pool_text (p0 : (T4 (Tup (Tx × (Tup Tx))) (Tup (Tx × (Tup Tx))) (TupN (Tx × Tx)) Bool)) : M Tx :=
  (((pure p0 : M (T4 (Tup (Tx × (Tup Tx))) (Tup (Tx × (Tup Tx))) (TupN (Tx × Tx)) Bool)) >>= fun x1 => (pure x1.d : M Bool)) >>= fun c3 => if c3 = true then (pure (tx "broken") : M Tx) else
  (((pure (tx ", ") : M Tx) >>= fun x24 => (((((pure p0 : M (T4 (Tup (Tx × (Tup Tx))) (Tup (Tx × (Tup Tx))) (TupN (Tx × Tx)) Bool)) >>= fun x5 => (pure x5.c : M (TupN (Tx × Tx)))) >>= fun x7 => (pure (show (Tup (Tx × Tx)) from x7) : M (Tup (Tx × Tx)))) : M (List (Tx × Tx))) >>= fun y17 => lf (fun e8 => (((pure e8 : M (Tx × Tx)) >>= fun x18 => pure x18.1) >>= fun x22 => ((pure e8 : M (Tx × Tx)) >>= fun x20 => pure x20.2) >>= fun y23 => (pure (!decide (x22 = y23)) : M Bool))) (fun e8 => ((((pure e8 : M (Tx × Tx)) >>= fun x9 => pure x9.1) >>= fun x11 => (pure (tx "=") : M Tx) >>= fun y12 => addT x11 y12) >>= fun x15 => ((pure e8 : M (Tx × Tx)) >>= fun x13 => pure x13.2) >>= fun y16 => addT x15 y16)) y17) >>= fun y25 => joinM x24 y25) >>= fun a4 =>
  (((((((pure p0 : M (T4 (Tup (Tx × (Tup Tx))) (Tup (Tx × (Tup Tx))) (TupN (Tx × Tx)) Bool)) >>= fun x26 => (pure x26.a : M (Tup (Tx × (Tup Tx))))) >>= fun x28 => m_facts_text_v1 x28) >>= fun x29 => (pure (tx "; ") : M Tx) >>= fun y30 => addT x29 y30) >>= fun x34 => (((pure p0 : M (T4 (Tup (Tx × (Tup Tx))) (Tup (Tx × (Tup Tx))) (TupN (Tx × Tx)) Bool)) >>= fun x31 => (pure x31.b : M (Tup (Tx × (Tup Tx))))) >>= fun x33 => m_facts_text_v1 x33) >>= fun y35 => addT x34 y35) >>= fun x36 => (pure (tx "; ") : M Tx) >>= fun y37 => addT x36 y37) >>= fun x38 => (pure a4 : M Tx) >>= fun y39 => addT x38 y39)))

def m__law_cell_at (p0 : (List Int)) (p1 : Int) : M Int :=
  (((pure p1 : M Int) >>= fun x2 => ((pure p0 : M (List Int)) >>= fun x1 => (pure (x1.length : Int) : M Int)) >>= fun y3 => (pure (decide (x2 < y3)) : M Bool)) >>= fun c4 => if c4 = true then ((pure p0 : M (List Int)) >>= fun x5 => (pure p1 : M Int) >>= fun y6 => atL x5 y6) else
  (pure (0 : Int) : M Int))

def m__law_mix (p0 : Int) (p1 : Int) : M Int :=
  ((((pure (48271 : Int) : M Int) >>= fun x14 => ((pure (69621 : Int) : M Int) >>= fun x12 => ((pure (16807 : Int) : M Int) >>= fun x10 => ((pure (40692 : Int) : M Int) >>= fun x8 => ((pure (30269 : Int) : M Int) >>= fun x6 => ((pure (62089 : Int) : M Int) >>= fun x4 => ((pure (45991 : Int) : M Int) >>= fun x2 => (pure [] : M (List Int)) >>= fun r3 => pure (x2 :: r3)) >>= fun r5 => pure (x4 :: r5)) >>= fun r7 => pure (x6 :: r7)) >>= fun r9 => pure (x8 :: r9)) >>= fun r11 => pure (x10 :: r11)) >>= fun r13 => pure (x12 :: r13)) >>= fun r15 => pure (x14 :: r15)) >>= fun x16 => ((pure p1 : M Int) >>= fun x18 => (pure (7 : Int) : M Int) >>= fun y19 => modI x18 y19) >>= fun y17 => atL x16 y17) >>= fun a1 =>
  (((((pure p0 : M Int) >>= fun x20 => (pure (1000003 : Int) : M Int) >>= fun y21 => modI x20 y21) >>= fun x24 => ((pure (31 : Int) : M Int) >>= fun x22 => (pure p1 : M Int) >>= fun y23 => mulI x22 y23) >>= fun y25 => (pure (x24 + y25) : M Int)) >>= fun x26 => (pure a1 : M Int) >>= fun y27 => mulI x26 y27) >>= fun x28 => (pure (999983 : Int) : M Int) >>= fun y29 => modI x28 y29))

def m__law_names (p0 : Int) (p1 : Int) (p2 : Tx) : M (List Tx) :=
  ((pure (tx "abcdefghijklmnopqrstuvwxyz0123456789ABCDEFGHIJKLMNOPQRSTUVWXYZ") : M Tx) >>= fun a1 =>
  (((pure p0 : M Int) >>= fun x3 => (pure (0 : Int) : M Int) >>= fun x4 => m__law_mix x3 x4) >>= fun a2 =>
  ((((pure a2 : M Int) >>= fun x6 => (pure (5 : Int) : M Int) >>= fun y7 => divI x6 y7) >>= fun x9 => ((pure p2 : M Tx) >>= fun x8 => lenT x8) >>= fun y10 => modI x9 y10) >>= fun a5 =>
  (((pure (tx "") : M Tx) >>= fun x27 => (((pure (11 : Int) : M Int) >>= fun x12 => range1 x12) >>= fun y26 => lc (fun e13 => ((pure a1 : M Tx) >>= fun x14 => ((((pure a2 : M Int) >>= fun x18 => ((pure e13 : M Int) >>= fun x16 => (pure (1 : Int) : M Int) >>= fun y17 => (pure (x16 + y17) : M Int)) >>= fun y19 => divI x18 y19) >>= fun x22 => ((pure e13 : M Int) >>= fun x20 => (pure e13 : M Int) >>= fun y21 => mulI x20 y21) >>= fun y23 => (pure (x22 + y23) : M Int)) >>= fun x24 => (pure (62 : Int) : M Int) >>= fun y25 => modI x24 y25) >>= fun y15 => atT x14 y15)) y26) >>= fun y28 => joinM x27 y28) >>= fun a11 =>
  ((((pure a2 : M Int) >>= fun x29 => (pure (3 : Int) : M Int) >>= fun y30 => modI x29 y30) >>= fun x31 => (pure (0 : Int) : M Int) >>= fun y32 => (pure (decide (x31 = y32)) : M Bool)) >>= fun c33 => if c33 = true then (((pure p1 : M Int) >>= fun x34 => range1 x34) >>= fun y44 => lc (fun e35 => (((pure p2 : M Tx) >>= fun x36 => (pure a5 : M Int) >>= fun y37 => atT x36 y37) >>= fun x42 => ((pure a11 : M Tx) >>= fun s39 => (pure none : M (Option Int)) >>= fun l40 => ((pure e35 : M Int) >>= fun x38 => pure (some x38)) >>= fun u41 => cutT s39 l40 u41) >>= fun y43 => addT x42 y43)) y44) else
  ((((pure a2 : M Int) >>= fun x45 => (pure (3 : Int) : M Int) >>= fun y46 => modI x45 y46) >>= fun x47 => (pure (1 : Int) : M Int) >>= fun y48 => (pure (decide (x47 = y48)) : M Bool)) >>= fun c49 => if c49 = true then ((((pure a2 : M Int) >>= fun x51 => (pure (3 : Int) : M Int) >>= fun y52 => divI x51 y52) >>= fun x53 => (pure (12 : Int) : M Int) >>= fun y54 => modI x53 y54) >>= fun a50 =>
  (((pure p1 : M Int) >>= fun x55 => range1 x55) >>= fun y70 => lc (fun e56 => (((pure p2 : M Tx) >>= fun x57 => (((pure a5 : M Int) >>= fun x59 => (pure e56 : M Int) >>= fun y60 => (pure (x59 + y60) : M Int)) >>= fun x62 => ((pure p2 : M Tx) >>= fun x61 => lenT x61) >>= fun y63 => modI x62 y63) >>= fun y58 => atT x57 y58) >>= fun x68 => ((pure a11 : M Tx) >>= fun s65 => (pure none : M (Option Int)) >>= fun l66 => ((pure a50 : M Int) >>= fun x64 => pure (some x64)) >>= fun u67 => cutT s65 l66 u67) >>= fun y69 => addT x68 y69)) y70)) else
  ((((pure a2 : M Int) >>= fun x72 => (pure (3 : Int) : M Int) >>= fun y73 => divI x72 y73) >>= fun x74 => (pure (11 : Int) : M Int) >>= fun y75 => modI x74 y75) >>= fun a71 =>
  ((((pure a2 : M Int) >>= fun x77 => (pure (33 : Int) : M Int) >>= fun y78 => divI x77 y78) >>= fun x81 => ((pure a71 : M Int) >>= fun x79 => (pure (1 : Int) : M Int) >>= fun y80 => (pure (x79 + y80) : M Int)) >>= fun y82 => modI x81 y82) >>= fun a76 =>
  ((((pure p1 : M Int) >>= fun x84 => range1 x84) >>= fun y94 => lc (fun e85 => ((pure a1 : M Tx) >>= fun x86 => ((((pure a2 : M Int) >>= fun x88 => (pure (7 : Int) : M Int) >>= fun y89 => divI x88 y89) >>= fun x90 => (pure e85 : M Int) >>= fun y91 => (pure (x90 + y91) : M Int)) >>= fun x92 => (pure (62 : Int) : M Int) >>= fun y93 => modI x92 y93) >>= fun y87 => atT x86 y87)) y94) >>= fun a83 =>
  ((pure a83 : M (List Tx)) >>= fun y113 => lc (fun e95 => (((((pure p2 : M Tx) >>= fun x96 => (pure a5 : M Int) >>= fun y97 => atT x96 y97) >>= fun x102 => ((pure a11 : M Tx) >>= fun s99 => (pure none : M (Option Int)) >>= fun l100 => ((pure a76 : M Int) >>= fun x98 => pure (some x98)) >>= fun u101 => cutT s99 l100 u101) >>= fun y103 => addT x102 y103) >>= fun x104 => (pure e95 : M Tx) >>= fun y105 => addT x104 y105) >>= fun x111 => ((pure a11 : M Tx) >>= fun s108 => ((pure a76 : M Int) >>= fun x106 => pure (some x106)) >>= fun l109 => ((pure a71 : M Int) >>= fun x107 => pure (some x107)) >>= fun u110 => cutT s108 l109 u110) >>= fun y112 => addT x111 y112)) y113))))))))))

def m__law_titles (p0 : Int) (p1 : Int) : M (List Tx) :=
  ((pure p0 : M Int) >>= fun x1 => (pure p1 : M Int) >>= fun x2 => (pure (tx "abcdefghijklmnopqrstuvwxyz") : M Tx) >>= fun x3 => m__law_names x1 x2 x3)

def m__law_opens (p0 : Int) (p1 : Int) : M (List Tx) :=
  ((pure p0 : M Int) >>= fun x1 => (pure p1 : M Int) >>= fun x2 => (pure (tx "ABCDEFGHIJKLMNOPQRSTUVWXYZ") : M Tx) >>= fun x3 => m__law_names x1 x2 x3)

def m__law_words (p0 : Int) (p1 : Int) : M (List Tx) :=
  ((pure p0 : M Int) >>= fun x1 => (pure p1 : M Int) >>= fun x2 => (pure (tx "abcdefghijklmnopqrstuvwxyz0123456789") : M Tx) >>= fun x3 => m__law_names x1 x2 x3)

def m__law_kinds (p0 : Int) (p1 : (List Int)) : M (List (T3 Tx Int Bool)) :=
  (((pure p0 : M Int) >>= fun x2 => (pure (4 : Int) : M Int) >>= fun x3 => m__law_titles x2 x3) >>= fun a1 =>
  (((pure p0 : M Int) >>= fun x5 => (pure (1 : Int) : M Int) >>= fun x6 => m__law_mix x5 x6) >>= fun a4 =>
  ((((pure false : M Bool) >>= fun x14 => ((pure true : M Bool) >>= fun x12 => ((pure false : M Bool) >>= fun x10 => ((pure true : M Bool) >>= fun x8 => (pure [] : M (List Bool)) >>= fun r9 => pure (x8 :: r9)) >>= fun r11 => pure (x10 :: r11)) >>= fun r13 => pure (x12 :: r13)) >>= fun r15 => pure (x14 :: r15)) >>= fun x26 => (((pure true : M Bool) >>= fun x22 => ((pure false : M Bool) >>= fun x20 => ((pure false : M Bool) >>= fun x18 => ((pure true : M Bool) >>= fun x16 => (pure [] : M (List Bool)) >>= fun r17 => pure (x16 :: r17)) >>= fun r19 => pure (x18 :: r19)) >>= fun r21 => pure (x20 :: r21)) >>= fun r23 => pure (x22 :: r23)) >>= fun x24 => (pure [] : M (List (List Bool))) >>= fun r25 => pure (x24 :: r25)) >>= fun r27 => pure (x26 :: r27)) >>= fun a7 =>
  (((pure a7 : M (List (List Bool))) >>= fun x49 => (((pure false : M Bool) >>= fun x35 => ((pure false : M Bool) >>= fun x33 => ((pure true : M Bool) >>= fun x31 => ((pure true : M Bool) >>= fun x29 => (pure [] : M (List Bool)) >>= fun r30 => pure (x29 :: r30)) >>= fun r32 => pure (x31 :: r32)) >>= fun r34 => pure (x33 :: r34)) >>= fun r36 => pure (x35 :: r36)) >>= fun x47 => (((pure true : M Bool) >>= fun x43 => ((pure false : M Bool) >>= fun x41 => ((pure true : M Bool) >>= fun x39 => ((pure false : M Bool) >>= fun x37 => (pure [] : M (List Bool)) >>= fun r38 => pure (x37 :: r38)) >>= fun r40 => pure (x39 :: r40)) >>= fun r42 => pure (x41 :: r42)) >>= fun r44 => pure (x43 :: r44)) >>= fun x45 => (pure [] : M (List (List Bool))) >>= fun r46 => pure (x45 :: r46)) >>= fun r48 => pure (x47 :: r48)) >>= fun y50 => catM x49 y50) >>= fun a28 =>
  (((pure a28 : M (List (List Bool))) >>= fun x52 => ((pure a4 : M Int) >>= fun x54 => (pure (4 : Int) : M Int) >>= fun y55 => modI x54 y55) >>= fun y53 => atL x52 y53) >>= fun a51 =>
  (((pure (4 : Int) : M Int) >>= fun x56 => range1 x56) >>= fun y76 => lc (fun e57 => (((pure a1 : M (List Tx)) >>= fun x58 => (pure e57 : M Int) >>= fun y59 => atL x58 y59) >>= fun x73 => ((pure p1 : M (List Int)) >>= fun x60 => (((pure a4 : M Int) >>= fun x66 => (((pure (3 : Int) : M Int) >>= fun x62 => (pure e57 : M Int) >>= fun y63 => mulI x62 y63) >>= fun x64 => (pure (5 : Int) : M Int) >>= fun y65 => (pure (x64 + y65) : M Int)) >>= fun y67 => divI x66 y67) >>= fun x69 => ((pure p1 : M (List Int)) >>= fun x68 => (pure (x68.length : Int) : M Int)) >>= fun y70 => modI x69 y70) >>= fun y61 => atL x60 y61) >>= fun x74 => ((pure a51 : M (List Bool)) >>= fun x71 => (pure e57 : M Int) >>= fun y72 => atL x71 y72) >>= fun x75 => pure (T3.mk x73 x74 x75))) y76))))))

def m__law_fact (p0 : (List (T3 Tx Int Bool))) (p1 : (List Tx)) (p2 : Int) : M (Tx × (Tup Tx)) :=
  (((pure p2 : M Int) >>= fun x2 => (pure (2 : Int) : M Int) >>= fun x3 => m__law_mix x2 x3) >>= fun a1 =>
  (((pure p0 : M (List (T3 Tx Int Bool))) >>= fun x5 => ((pure a1 : M Int) >>= fun x8 => ((pure p0 : M (List (T3 Tx Int Bool))) >>= fun x7 => (pure (x7.length : Int) : M Int)) >>= fun y9 => modI x8 y9) >>= fun y6 => atL x5 y6) >>= fun a4 =>
  (((pure a1 : M Int) >>= fun x11 => (pure (5 : Int) : M Int) >>= fun y12 => divI x11 y12) >>= fun a10 =>
  ((pure [] : M (List Tx)) >>= fun a13 =>
  (((((pure a4 : M (T3 Tx Int Bool)) >>= fun x14 => pure x14.b) >>= fun x16 => range1 x16) >>= fun l19 => forP (fun (s17 : (Int × (List Tx))) (e18 : Int) => ((((pure p1 : M (List Tx)) >>= fun x24 => ((pure s17.1 : M Int) >>= fun x27 => ((pure p1 : M (List Tx)) >>= fun x26 => (pure (x26.length : Int) : M Int)) >>= fun y28 => modI x27 y28) >>= fun y25 => atL x24 y25) >>= fun a29 => chk (s17.2.length < SZ) >>= fun _u30 => pure a29) >>= fun a23 =>
  ((((pure s17.1 : M Int) >>= fun x33 => ((pure p1 : M (List Tx)) >>= fun x32 => (pure (x32.length : Int) : M Int)) >>= fun y34 => divI x33 y34) >>= fun x37 => ((pure (977 : Int) : M Int) >>= fun x35 => (pure e18 : M Int) >>= fun y36 => mulI x35 y36) >>= fun y38 => (pure (x37 + y38) : M Int)) >>= fun a31 =>
  (pure (a31, (s17.2 ++ [a23])) : M (Int × (List Tx)))))) (a10, a13) l19) >>= fun s17 =>
  (((pure a4 : M (T3 Tx Int Bool)) >>= fun x39 => pure x39.a) >>= fun x42 => ((pure s17.2 : M (List Tx)) >>= fun x41 => (pure x41 : M (Tup Tx))) >>= fun x43 => pure (x42, x43)))))))

def m__law_known (p0 : (List Tx)) (p1 : (Tup Tx)) : M (List Tx) :=
  (((pure p0 : M (List Tx)) >>= fun x2 => (pure x2 : M (List Tx))) >>= fun a1 =>
  ((((pure p1 : M (Tup Tx)) : M (List Tx)) >>= fun l5 => forP (fun (s3 : (List Tx)) (e4 : Tx) => ((((((pure e4 : M Tx) >>= fun x9 => (pure (0 : Int) : M Int) >>= fun y10 => atT x9 y10) >>= fun x11 => (pure (Txt.isupper (S x11)) : M Bool)) >>= fun c14 => if c14 = true then ((pure e4 : M Tx) >>= fun x12 => (pure s3 : M (List Tx)) >>= fun y13 => (pure (!decide (x12 ∈ y13)) : M Bool)) else pure false) >>= fun c15 => if c15 = true then (((pure e4 : M Tx) >>= fun a18 => chk (s3.length < SZ) >>= fun _u19 => pure a18) >>= fun a17 =>
  (pure (s3 ++ [a17]) : M (List Tx))) else (pure s3 : M (List Tx))) >>= fun s16 =>
  (pure s16 : M (List Tx)))) a1 l5) >>= fun s3 =>
  (pure s3 : M (List Tx))))

def m__law_lasts (p0 : (List (T3 Tx Int Bool))) (p1 : (Tx × (Tup Tx))) : M Bool :=
  ((pure p0 : M (List (T3 Tx Int Bool))) >>= fun l3 => forT (fun (s1 : Unit) (e2 : (T3 Tx Int Bool)) => ((((pure e2 : M (T3 Tx Int Bool)) >>= fun x7 => pure x7.a) >>= fun x11 => ((pure p1 : M (Tx × (Tup Tx))) >>= fun x9 => pure x9.1) >>= fun y12 => (pure (decide (x11 = y12)) : M Bool)) >>= fun c13 => if c13 = true then (((pure e2 : M (T3 Tx Int Bool)) >>= fun x14 => pure x14.c) >>= fun r16 => (pure (.rt r16) : M (Tl Unit Bool))) else (pure (.ct ()) : M (Tl Unit Bool)))) () l3 >>= thenT (fun s1 =>
  (pure false : M Bool)) id)

def m__law_stand (p0 : (List (List Tx))) (p1 : Tx) : M Tx :=
  ((pure p0 : M (List (List Tx))) >>= fun l3 => forT (fun (s1 : Unit) (e2 : (List Tx)) => (((pure p1 : M Tx) >>= fun x7 => (pure e2 : M (List Tx)) >>= fun y8 => (pure (decide (x7 ∈ y8)) : M Bool)) >>= fun c9 => if c9 = true then (((pure e2 : M (List Tx)) >>= fun y12 => lf (fun e11 => ((((pure e11 : M Tx) >>= fun x13 => (pure (0 : Int) : M Int) >>= fun y14 => atT x13 y14) >>= fun x15 => (pure (Txt.isupper (S x15)) : M Bool)) >>= fun c16 => pure (!c16))) (fun e11 => (pure e11 : M Tx)) y12) >>= fun a10 =>
  (((pure (a10.length : Int) : M Int) >>= fun x17 => (pure (0 : Int) : M Int) >>= fun y18 => (pure (decide (y18 < x17)) : M Bool)) >>= fun c19 => if c19 = true then (((pure (0 : Int) : M Int) >>= fun k20 => atL a10 k20) >>= fun r21 => (pure (.rt r21) : M (Tl Unit Tx))) else
  (((pure e2 : M (List Tx)) >>= fun x22 => minT x22) >>= fun r23 => (pure (.rt r23) : M (Tl Unit Tx))))) else (pure (.ct ()) : M (Tl Unit Tx)))) () l3 >>= thenT (fun s1 =>
  (pure p1 : M Tx)) id)

def m__law_merged (p0 : (List (List Tx))) (p1 : (Tx × Tx)) : M (List (List Tx)) :=
  ((((pure p1 : M (Tx × Tx)) >>= fun x2 => pure x2.1) >>= fun x8 => (((pure p1 : M (Tx × Tx)) >>= fun x4 => pure x4.2) >>= fun x6 => (pure [] : M (List Tx)) >>= fun r7 => pure (x6 :: r7)) >>= fun r9 => pure (x8 :: r9)) >>= fun a1 =>
  ((pure [] : M (List (List Tx))) >>= fun a10 =>
  (((pure p0 : M (List (List Tx))) >>= fun l13 => forP (fun (s11 : ((List Tx) × (List (List Tx)))) (e12 : (List Tx)) => ((((((pure p1 : M (Tx × Tx)) >>= fun x17 => pure x17.1) >>= fun x19 => (pure e12 : M (List Tx)) >>= fun y20 => (pure (decide (x19 ∈ y20)) : M Bool)) >>= fun c25 => if c25 = true then pure true else (((pure p1 : M (Tx × Tx)) >>= fun x21 => pure x21.2) >>= fun x23 => (pure e12 : M (List Tx)) >>= fun y24 => (pure (decide (x23 ∈ y24)) : M Bool))) >>= fun c26 => if c26 = true then (((pure s11.1 : M (List Tx)) >>= fun x33 => ((pure e12 : M (List Tx)) >>= fun y30 => lf (fun e29 => ((pure e29 : M Tx) >>= fun x31 => (pure s11.1 : M (List Tx)) >>= fun y32 => (pure (!decide (x31 ∈ y32)) : M Bool))) (fun e29 => (pure e29 : M Tx)) y30) >>= fun y34 => catM x33 y34) >>= fun a28 =>
  (pure (a28, s11.2) : M ((List Tx) × (List (List Tx))))) else (((pure e12 : M (List Tx)) >>= fun a36 => chk (s11.2.length < SZ) >>= fun _u37 => pure a36) >>= fun a35 =>
  (pure (s11.1, (s11.2 ++ [a35])) : M ((List Tx) × (List (List Tx)))))) >>= fun s27 =>
  (pure (s27.1, s27.2) : M ((List Tx) × (List (List Tx)))))) (a1, a10) l13) >>= fun s11 =>
  ((pure s11.2 : M (List (List Tx))) >>= fun x40 => ((pure s11.1 : M (List Tx)) >>= fun x38 => (pure [] : M (List (List Tx))) >>= fun r39 => pure (x38 :: r39)) >>= fun y41 => catM x40 y41))))

def m__law_torn (p0 : (List (List Tx))) : M Bool :=
  ((pure p0 : M (List (List Tx))) >>= fun l3 => forT (fun (s1 : Unit) (e2 : (List Tx)) => (((((pure e2 : M (List Tx)) >>= fun y8 => lf (fun e7 => ((((pure e7 : M Tx) >>= fun x9 => (pure (0 : Int) : M Int) >>= fun y10 => atT x9 y10) >>= fun x11 => (pure (Txt.isupper (S x11)) : M Bool)) >>= fun c12 => pure (!c12))) (fun e7 => (pure e7 : M Tx)) y8) >>= fun x13 => lenSet x13) >>= fun x14 => (pure (1 : Int) : M Int) >>= fun y15 => (pure (decide (y15 < x14)) : M Bool)) >>= fun c16 => if c16 = true then ((pure true : M Bool) >>= fun r17 => (pure (.rt r17) : M (Tl Unit Bool))) else (pure (.ct ()) : M (Tl Unit Bool)))) () l3 >>= thenT (fun s1 =>
  (pure false : M Bool)) id)

def m__law_now (p0 : (List (List Tx))) (p1 : (Tx × (Tup Tx))) : M (Tx × (Tup Tx)) :=
  (((pure p1 : M (Tx × (Tup Tx))) >>= fun x1 => pure x1.1) >>= fun x10 => (((((pure p1 : M (Tx × (Tup Tx))) >>= fun x3 => pure x3.2) : M (List Tx)) >>= fun y8 => lc (fun e5 => ((pure p0 : M (List (List Tx))) >>= fun x6 => (pure e5 : M Tx) >>= fun x7 => m__law_stand x6 x7)) y8) >>= fun x9 => (pure x9 : M (Tup Tx))) >>= fun x11 => pure (x10, x11))

def m__law_pool (p0 : (List (Tx × (Tup Tx)))) (p1 : (List (Tx × (Tup Tx)))) (p2 : (List (List Tx))) (p3 : (List Tx)) : M (T4 (Tup (Tx × (Tup Tx))) (Tup (Tx × (Tup Tx))) (TupN (Tx × Tx)) Bool) :=
  (((pure p2 : M (List (List Tx))) >>= fun x1 => m__law_torn x1) >>= fun c2 => if c2 = true then (((pure [] : M (List (Tx × (Tup Tx)))) >>= fun x3 => (pure x3 : M (Tup (Tx × (Tup Tx))))) >>= fun x6 => ((pure [] : M (List (Tx × (Tup Tx)))) >>= fun x4 => (pure x4 : M (Tup (Tx × (Tup Tx))))) >>= fun x7 => ((pure [] : M (List (Tx × Tx))) >>= fun x5 => (pure x5 : M (TupN (Tx × Tx)))) >>= fun x8 => (pure true : M Bool) >>= fun x9 => pure (T4.mk x6 x7 x8 x9)) else
  ((pure [] : M (List (Tx × (Tup Tx)))) >>= fun a10 =>
  (((pure p1 : M (List (Tx × (Tup Tx)))) >>= fun l13 => forP (fun (s11 : (List (Tx × (Tup Tx)))) (e12 : (Tx × (Tup Tx))) => (((pure p2 : M (List (List Tx))) >>= fun x18 => (pure e12 : M (Tx × (Tup Tx))) >>= fun x19 => m__law_now x18 x19) >>= fun a17 =>
  ((((pure a17 : M (Tx × (Tup Tx))) >>= fun x21 => (pure s11 : M (List (Tx × (Tup Tx)))) >>= fun y22 => (chk (Shp x21 ∧ Shp y22) >>= fun _u20 => (pure (!memD x21 y22) : M Bool))) >>= fun c23 => if c23 = true then (((pure a17 : M (Tx × (Tup Tx))) >>= fun a26 => chk (s11.length < SZ) >>= fun _u27 => pure a26) >>= fun a25 =>
  (pure (s11 ++ [a25]) : M (List (Tx × (Tup Tx))))) else (pure s11 : M (List (Tx × (Tup Tx))))) >>= fun s24 =>
  (pure s24 : M (List (Tx × (Tup Tx))))))) a10 l13) >>= fun s11 =>
  (((pure p3 : M (List Tx)) >>= fun y34 => lc (fun e29 => ((pure e29 : M Tx) >>= fun x32 => ((pure p2 : M (List (List Tx))) >>= fun x30 => (pure e29 : M Tx) >>= fun x31 => m__law_stand x30 x31) >>= fun x33 => pure (x32, x33))) y34) >>= fun a28 =>
  ((((pure p0 : M (List (Tx × (Tup Tx)))) >>= fun y39 => lc (fun e36 => ((pure p2 : M (List (List Tx))) >>= fun x37 => (pure e36 : M (Tx × (Tup Tx))) >>= fun x38 => m__law_now x37 x38)) y39) >>= fun x40 => sortM x40) >>= fun a35 =>
  (((pure a35 : M (List (Tx × (Tup Tx)))) >>= fun x41 => (pure x41 : M (Tup (Tx × (Tup Tx))))) >>= fun x46 => (((pure s11 : M (List (Tx × (Tup Tx)))) >>= fun x42 => sortM x42) >>= fun x43 => (pure x43 : M (Tup (Tx × (Tup Tx))))) >>= fun x47 => (((pure a28 : M (List (Tx × Tx))) >>= fun x44 => sortM x44) >>= fun x45 => (pure x45 : M (TupN (Tx × Tx)))) >>= fun x48 => (pure false : M Bool) >>= fun x49 => pure (T4.mk x46 x47 x48 x49)))))))

def m__law_is_pool (p0 : (T4 (Tup (Tx × (Tup Tx))) (Tup (Tx × (Tup Tx))) (TupN (Tx × Tx)) Bool)) (p1 : (T4 (Tup (Tx × (Tup Tx))) (Tup (Tx × (Tup Tx))) (TupN (Tx × Tx)) Bool)) : M Bool :=
  (((((pure p0 : M (T4 (Tup (Tx × (Tup Tx))) (Tup (Tx × (Tup Tx))) (TupN (Tx × Tx)) Bool)) >>= fun _x1 => (pure true : M Bool)) >>= fun c2 => pure (!c2)) >>= fun c11 => if c11 = true then pure true else ((((pure p0 : M (T4 (Tup (Tx × (Tup Tx))) (Tup (Tx × (Tup Tx))) (TupN (Tx × Tx)) Bool)) >>= fun x3 => (pure 4 : M Int)) >>= fun x4 => (pure (4 : Int) : M Int) >>= fun y5 => (pure (!decide (x4 = y5)) : M Bool)) >>= fun c10 => if c10 = true then pure true else ((((pure p0 : M (T4 (Tup (Tx × (Tup Tx))) (Tup (Tx × (Tup Tx))) (TupN (Tx × Tx)) Bool)) >>= fun x6 => (pure x6.d : M Bool)) >>= fun _x8 => (pure true : M Bool)) >>= fun c9 => pure (!c9)))) >>= fun c12 => if c12 = true then (pure false : M Bool) else
  ((pure p0 : M (T4 (Tup (Tx × (Tup Tx))) (Tup (Tx × (Tup Tx))) (TupN (Tx × Tx)) Bool)) >>= fun x13 => (pure p1 : M (T4 (Tup (Tx × (Tup Tx))) (Tup (Tx × (Tup Tx))) (TupN (Tx × Tx)) Bool)) >>= fun y14 => (pure (decide (x13 = y14)) : M Bool)))

def m__law_fact_text (p0 : (Tx × (Tup Tx))) : M Tx :=
  (((((pure p0 : M (Tx × (Tup Tx))) >>= fun x1 => pure x1.2) >>= fun x3 => (pure ((List.length (α := Tx) x3 : Nat) : Int) : M Int)) >>= fun x4 => (pure (0 : Int) : M Int) >>= fun y5 => (pure (decide (x4 = y5)) : M Bool)) >>= fun c6 => if c6 = true then ((pure p0 : M (Tx × (Tup Tx))) >>= fun x7 => pure x7.1) else
  (((((pure p0 : M (Tx × (Tup Tx))) >>= fun x9 => pure x9.1) >>= fun x11 => (pure (tx "(") : M Tx) >>= fun y12 => addT x11 y12) >>= fun x17 => ((pure (tx ",") : M Tx) >>= fun x15 => ((pure p0 : M (Tx × (Tup Tx))) >>= fun x13 => pure x13.2) >>= fun y16 => joinM x15 y16) >>= fun y18 => addT x17 y18) >>= fun x19 => (pure (tx ")") : M Tx) >>= fun y20 => addT x19 y20))

def m__law_pairs (p0 : (List Tx)) (p1 : Int) (p2 : (List Int)) : M (List (Tx × Tx)) :=
  ((pure p0 : M (List Tx)) >>= fun a1 =>
  ((((pure p1 : M Int) >>= fun x2 => (pure (1 : Int) : M Int) >>= fun y3 => (pure (decide (x2 = y3)) : M Bool)) >>= fun c4 => if c4 = true then (((pure p0 : M (List Tx)) >>= fun s8 => (pure none : M (Option Int)) >>= fun l9 => ((pure (5 : Int) : M Int) >>= fun x7 => pure (some x7)) >>= fun u10 => pure (cut s8 l9 u10)) >>= fun a6 =>
  (pure a6 : M (List Tx))) else (pure a1 : M (List Tx))) >>= fun s5 =>
  ((((pure p1 : M Int) >>= fun x11 => (pure (2 : Int) : M Int) >>= fun y12 => (pure (decide (x11 = y12)) : M Bool)) >>= fun c13 => if c13 = true then (((pure p0 : M (List Tx)) >>= fun s17 => (pure none : M (Option Int)) >>= fun l18 => ((pure (6 : Int) : M Int) >>= fun x16 => pure (some x16)) >>= fun u19 => pure (cut s17 l18 u19)) >>= fun a15 =>
  (pure a15 : M (List Tx))) else (pure s5 : M (List Tx))) >>= fun s14 =>
  ((pure [] : M (List (Tx × Tx))) >>= fun a20 =>
  (((pure p2 : M (List Int)) >>= fun l23 => forP (fun (s21 : (List (Tx × Tx))) (e22 : Int) => (((pure e22 : M Int) >>= fun x28 => (pure (5 : Int) : M Int) >>= fun x29 => m__law_mix x28 x29) >>= fun a27 =>
  (((pure p0 : M (List Tx)) >>= fun x31 => ((pure a27 : M Int) >>= fun x33 => (pure (5 : Int) : M Int) >>= fun y34 => modI x33 y34) >>= fun y32 => atL x31 y32) >>= fun a30 =>
  (((pure s14 : M (List Tx)) >>= fun x36 => (((pure a27 : M Int) >>= fun x38 => (pure (5 : Int) : M Int) >>= fun y39 => divI x38 y39) >>= fun x41 => ((pure s14 : M (List Tx)) >>= fun x40 => (pure (x40.length : Int) : M Int)) >>= fun y42 => modI x41 y42) >>= fun y37 => atL x36 y37) >>= fun a35 =>
  (((((pure p1 : M Int) >>= fun x43 => (pure (0 : Int) : M Int) >>= fun y44 => (pure (decide (x43 = y44)) : M Bool)) >>= fun c51 => if c51 = true then ((((pure a27 : M Int) >>= fun x45 => (pure (40 : Int) : M Int) >>= fun y46 => divI x45 y46) >>= fun x47 => (pure (3 : Int) : M Int) >>= fun y48 => modI x47 y48) >>= fun x49 => (pure (0 : Int) : M Int) >>= fun y50 => (pure (decide (x49 = y50)) : M Bool)) else pure false) >>= fun c52 => if c52 = true then (((pure p0 : M (List Tx)) >>= fun x55 => (((pure a27 : M Int) >>= fun x57 => (pure (120 : Int) : M Int) >>= fun y58 => divI x57 y58) >>= fun x59 => (pure (8 : Int) : M Int) >>= fun y60 => modI x59 y60) >>= fun y56 => atL x55 y56) >>= fun a54 =>
  (pure a54 : M Tx)) else (pure a30 : M Tx)) >>= fun s53 =>
  ((((((pure a27 : M Int) >>= fun x61 => (pure (7 : Int) : M Int) >>= fun y62 => divI x61 y62) >>= fun x63 => (pure (2 : Int) : M Int) >>= fun y64 => modI x63 y64) >>= fun x65 => (pure (0 : Int) : M Int) >>= fun y66 => (pure (decide (x65 = y66)) : M Bool)) >>= fun c67 => if c67 = true then ((((pure s53 : M Tx) >>= fun x70 => (pure a35 : M Tx) >>= fun x71 => pure (x70, x71)) >>= fun a72 => chk (s21.length < SZ) >>= fun _u73 => pure a72) >>= fun a69 =>
  (pure (s21 ++ [a69]) : M (List (Tx × Tx)))) else ((((pure a35 : M Tx) >>= fun x75 => (pure s53 : M Tx) >>= fun x76 => pure (x75, x76)) >>= fun a77 => chk (s21.length < SZ) >>= fun _u78 => pure a77) >>= fun a74 =>
  (pure (s21 ++ [a74]) : M (List (Tx × Tx))))) >>= fun s68 =>
  (pure s68 : M (List (Tx × Tx))))))))) a20 l23) >>= fun s21 =>
  (pure s21 : M (List (Tx × Tx))))))))

def m__law_asked (p0 : (T4 (Tup (Tx × (Tup Tx))) (Tup (Tx × (Tup Tx))) (TupN (Tx × Tx)) Bool)) (p1 : Tx) : M (List Tx) :=
  ((pure none : M (Option Tx)) >>= fun a1 =>
  ((pure true : M Bool) >>= fun a2 =>
  (tryM exc_NoName (fun (a5 : Tx) => (((some a5), a2) : ((Option Tx) × Bool))) (fun (ec6 : Str) => (((pure false : M Bool) >>= fun a8 =>
  (pure (a1, a8) : M ((Option Tx) × Bool))) : M ((Option Tx) × Bool))) ((pure p0 : M (T4 (Tup (Tx × (Tup Tx))) (Tup (Tx × (Tup Tx))) (TupN (Tx × Tx)) Bool)) >>= fun x3 => (pure p1 : M Tx) >>= fun x4 => m_stands_for x3 x4) >>= fun (s7 : ((Option Tx) × Bool)) =>
  ((pure s7.2 : M Bool) >>= fun c9 => if c9 = true then (((pure s7.1 : M (Option Tx)) >>= fun x10 => (ofO x10 : M Tx)) >>= fun x11 => (pure [] : M (List Tx)) >>= fun r12 => pure (x11 :: r12)) else
  (pure [] : M (List Tx))))))

def m__law_names_told (p0 : (T4 (Tup (Tx × (Tup Tx))) (Tup (Tx × (Tup Tx))) (TupN (Tx × Tx)) Bool)) (p1 : (List Tx)) (p2 : (List (List Tx))) (p3 : (List Tx)) : M Bool :=
  ((pure p1 : M (List Tx)) >>= fun l3 => forT (fun (s1 : Unit) (e2 : Tx) => ((((pure p2 : M (List (List Tx))) >>= fun x8 => (pure e2 : M Tx) >>= fun x9 => m__law_stand x8 x9) >>= fun x10 => (pure [] : M (List Tx)) >>= fun r11 => pure (x10 :: r11)) >>= fun a7 =>
  ((((((pure e2 : M Tx) >>= fun x12 => (pure (0 : Int) : M Int) >>= fun y13 => atT x12 y13) >>= fun x14 => (pure (Txt.isupper (S x14)) : M Bool)) >>= fun c19 => if c19 = true then (((pure p2 : M (List (List Tx))) >>= fun x15 => m__law_torn x15) >>= fun c18 => if c18 = true then pure true else ((pure e2 : M Tx) >>= fun x16 => (pure p3 : M (List Tx)) >>= fun y17 => (pure (!decide (x16 ∈ y17)) : M Bool))) else pure false) >>= fun c20 => if c20 = true then ((pure [] : M (List Tx)) >>= fun a22 =>
  (pure a22 : M (List Tx))) else (pure a7 : M (List Tx))) >>= fun s21 =>
  ((((((pure e2 : M Tx) >>= fun x23 => (pure (0 : Int) : M Int) >>= fun y24 => atT x23 y24) >>= fun x25 => (pure (Txt.isupper (S x25)) : M Bool)) >>= fun c26 => pure (!c26)) >>= fun c27 => if c27 = true then (((pure e2 : M Tx) >>= fun x30 => (pure [] : M (List Tx)) >>= fun r31 => pure (x30 :: r31)) >>= fun a29 =>
  (pure a29 : M (List Tx))) else (pure s21 : M (List Tx))) >>= fun s28 =>
  ((((pure p0 : M (T4 (Tup (Tx × (Tup Tx))) (Tup (Tx × (Tup Tx))) (TupN (Tx × Tx)) Bool)) >>= fun x32 => (pure e2 : M Tx) >>= fun x33 => m__law_asked x32 x33) >>= fun x34 => (pure s28 : M (List Tx)) >>= fun y35 => (pure (!decide (x34 = y35)) : M Bool)) >>= fun c36 => if c36 = true then ((pure false : M Bool) >>= fun r37 => (pure (.rt r37) : M (Tl Unit Bool))) else (pure (.ct ()) : M (Tl Unit Bool))))))) () l3 >>= thenT (fun s1 =>
  (pure true : M Bool)) id)

def m__law_written (p0 : (T4 (Tup (Tx × (Tup Tx))) (Tup (Tx × (Tup Tx))) (TupN (Tx × Tx)) Bool)) : M Tx :=
  (((pure p0 : M (T4 (Tup (Tx × (Tup Tx))) (Tup (Tx × (Tup Tx))) (TupN (Tx × Tx)) Bool)) >>= fun x1 => (pure x1.d : M Bool)) >>= fun c3 => if c3 = true then (pure (tx "broken") : M Tx) else
  ((((pure (tx ", ") : M Tx) >>= fun x10 => ((((pure p0 : M (T4 (Tup (Tx × (Tup Tx))) (Tup (Tx × (Tup Tx))) (TupN (Tx × Tx)) Bool)) >>= fun x5 => (pure x5.a : M (Tup (Tx × (Tup Tx))))) : M (List (Tx × (Tup Tx)))) >>= fun y9 => lc (fun e7 => ((pure e7 : M (Tx × (Tup Tx))) >>= fun x8 => m__law_fact_text x8)) y9) >>= fun y11 => joinM x10 y11) >>= fun x12 => (pure [] : M (List Tx)) >>= fun r13 => pure (x12 :: r13)) >>= fun a4 =>
  ((((pure (tx ", ") : M Tx) >>= fun x20 => ((((pure p0 : M (T4 (Tup (Tx × (Tup Tx))) (Tup (Tx × (Tup Tx))) (TupN (Tx × Tx)) Bool)) >>= fun x15 => (pure x15.b : M (Tup (Tx × (Tup Tx))))) : M (List (Tx × (Tup Tx)))) >>= fun y19 => lc (fun e17 => ((pure e17 : M (Tx × (Tup Tx))) >>= fun x18 => m__law_fact_text x18)) y19) >>= fun y21 => joinM x20 y21) >>= fun a22 => chk (a4.length < SZ) >>= fun _u23 => pure a22) >>= fun a14 =>
  ((((pure (tx ", ") : M Tx) >>= fun x44 => (((((pure p0 : M (T4 (Tup (Tx × (Tup Tx))) (Tup (Tx × (Tup Tx))) (TupN (Tx × Tx)) Bool)) >>= fun x25 => (pure x25.c : M (TupN (Tx × Tx)))) >>= fun x27 => (pure (show (Tup (Tx × Tx)) from x27) : M (Tup (Tx × Tx)))) : M (List (Tx × Tx))) >>= fun y37 => lf (fun e28 => (((pure e28 : M (Tx × Tx)) >>= fun x38 => pure x38.1) >>= fun x42 => ((pure e28 : M (Tx × Tx)) >>= fun x40 => pure x40.2) >>= fun y43 => (pure (!decide (x42 = y43)) : M Bool))) (fun e28 => ((((pure e28 : M (Tx × Tx)) >>= fun x29 => pure x29.1) >>= fun x31 => (pure (tx "=") : M Tx) >>= fun y32 => addT x31 y32) >>= fun x35 => ((pure e28 : M (Tx × Tx)) >>= fun x33 => pure x33.2) >>= fun y36 => addT x35 y36)) y37) >>= fun y45 => joinM x44 y45) >>= fun a46 => chk ((a4 ++ [a14]).length < SZ) >>= fun _u47 => pure a46) >>= fun a24 =>
  ((pure (tx "; ") : M Tx) >>= fun x48 => (pure ((a4 ++ [a14]) ++ [a24]) : M (List Tx)) >>= fun y49 => joinM x48 y49)))))

def m__law_due (p0 : (List (T3 Tx Int Bool))) (p1 : (List (Tx × (Tup Tx)))) (p2 : (List (Tx × Tx))) (p3 : (List (List Tx))) : M ((T4 (Tup (Tx × (Tup Tx))) (Tup (Tx × (Tup Tx))) (TupN (Tx × Tx)) Bool) × (List Tx)) :=
  ((pure [] : M (List Tx)) >>= fun a1 =>
  (((pure p1 : M (List (Tx × (Tup Tx)))) >>= fun l4 => forP (fun (s2 : (List Tx)) (e3 : (Tx × (Tup Tx))) => (((pure s2 : M (List Tx)) >>= fun x11 => ((pure e3 : M (Tx × (Tup Tx))) >>= fun x9 => pure x9.2) >>= fun x12 => m__law_known x11 x12) >>= fun a8 =>
  (pure a8 : M (List Tx)))) a1 l4) >>= fun s2 =>
  (((pure p2 : M (List (Tx × Tx))) >>= fun l15 => forP (fun (s13 : (List Tx)) (e14 : (Tx × Tx)) => (((pure s13 : M (List Tx)) >>= fun x21 => ((pure e14 : M (Tx × Tx)) >>= fun x20 => (pure (show (Tup Tx) from [x20.1, x20.2]) : M (Tup Tx))) >>= fun x22 => m__law_known x21 x22) >>= fun a19 =>
  (pure a19 : M (List Tx)))) s2 l15) >>= fun s13 =>
  (((pure p1 : M (List (Tx × (Tup Tx)))) >>= fun y25 => lf (fun e24 => (((pure p0 : M (List (T3 Tx Int Bool))) >>= fun x26 => (pure e24 : M (Tx × (Tup Tx))) >>= fun x27 => m__law_lasts x26 x27) >>= fun c28 => pure (!c28))) (fun e24 => (pure e24 : M (Tx × (Tup Tx)))) y25) >>= fun a23 =>
  (((pure p1 : M (List (Tx × (Tup Tx)))) >>= fun y31 => lf (fun e30 => ((pure p0 : M (List (T3 Tx Int Bool))) >>= fun x32 => (pure e30 : M (Tx × (Tup Tx))) >>= fun x33 => m__law_lasts x32 x33)) (fun e30 => (pure e30 : M (Tx × (Tup Tx)))) y31) >>= fun a29 =>
  (((pure a23 : M (List (Tx × (Tup Tx)))) >>= fun x34 => (pure a29 : M (List (Tx × (Tup Tx)))) >>= fun x35 => (pure p3 : M (List (List Tx))) >>= fun x36 => (pure s13 : M (List Tx)) >>= fun x37 => m__law_pool x34 x35 x36 x37) >>= fun x38 => (pure s13 : M (List Tx)) >>= fun x39 => pure (x38, x39)))))))

def m_law (p0 : (List Int)) : M Bool :=
  ((((pure p0 : M (List Int)) >>= fun x2 => (pure (0 : Int) : M Int) >>= fun x3 => m__law_cell_at x2 x3) >>= fun x16 => ((pure (0 : Int) : M Int) >>= fun x14 => ((pure (1 : Int) : M Int) >>= fun x12 => ((pure (2 : Int) : M Int) >>= fun x10 => ((pure (2 : Int) : M Int) >>= fun x8 => ((pure (1 : Int) : M Int) >>= fun x6 => ((pure (3 : Int) : M Int) >>= fun x4 => (pure [] : M (List Int)) >>= fun r5 => pure (x4 :: r5)) >>= fun r7 => pure (x6 :: r7)) >>= fun r9 => pure (x8 :: r9)) >>= fun r11 => pure (x10 :: r11)) >>= fun r13 => pure (x12 :: r13)) >>= fun r15 => pure (x14 :: r15)) >>= fun x17 => m__law_kinds x16 x17) >>= fun a1 =>
  (((((pure p0 : M (List Int)) >>= fun x19 => (pure (1 : Int) : M Int) >>= fun x20 => m__law_cell_at x19 x20) >>= fun x21 => (pure (5 : Int) : M Int) >>= fun x22 => m__law_opens x21 x22) >>= fun x27 => (((pure p0 : M (List Int)) >>= fun x23 => (pure (2 : Int) : M Int) >>= fun x24 => m__law_cell_at x23 x24) >>= fun x25 => (pure (3 : Int) : M Int) >>= fun x26 => m__law_words x25 x26) >>= fun y28 => catM x27 y28) >>= fun a18 =>
  ((((pure p0 : M (List Int)) >>= fun x30 => (pure (3 : Int) : M Int) >>= fun x31 => m__law_cell_at x30 x31) >>= fun x32 => (pure (3 : Int) : M Int) >>= fun y33 => modI x32 y33) >>= fun a29 =>
  (((pure (4 : Int) : M Int) >>= fun x41 => ((((pure p0 : M (List Int)) >>= fun x35 => (pure (3 : Int) : M Int) >>= fun x36 => m__law_cell_at x35 x36) >>= fun x37 => (pure (3 : Int) : M Int) >>= fun y38 => divI x37 y38) >>= fun x39 => (pure (60 : Int) : M Int) >>= fun y40 => modI x39 y40) >>= fun y42 => (pure (x41 + y42) : M Int)) >>= fun a34 =>
  ((((pure p0 : M (List Int)) >>= fun s46 => ((pure (4 : Int) : M Int) >>= fun x44 => pure (some x44)) >>= fun l47 => ((pure a34 : M Int) >>= fun x45 => pure (some x45)) >>= fun u48 => pure (cut s46 l47 u48)) >>= fun y53 => lc (fun e49 => ((pure a1 : M (List (T3 Tx Int Bool))) >>= fun x50 => (pure a18 : M (List Tx)) >>= fun x51 => (pure e49 : M Int) >>= fun x52 => m__law_fact x50 x51 x52)) y53) >>= fun a43 =>
  (((pure a18 : M (List Tx)) >>= fun x60 => (pure a29 : M Int) >>= fun x61 => ((pure p0 : M (List Int)) >>= fun s57 => ((pure a34 : M Int) >>= fun x55 => pure (some x55)) >>= fun l58 => ((pure (154 : Int) : M Int) >>= fun x56 => pure (some x56)) >>= fun u59 => pure (cut s57 l58 u59)) >>= fun x62 => m__law_pairs x60 x61 x62) >>= fun a54 =>
  (((pure (a43.length : Int) : M Int) >>= fun x64 => (pure (2 : Int) : M Int) >>= fun y65 => divI x64 y65) >>= fun a63 =>
  ((((((pure a63 : M Int) >>= fun x67 => pure (some x67)) >>= fun l69 => (pure none : M (Option Int)) >>= fun u70 => pure (cut a43 l69 u70)) >>= fun x71 => (pure x71 : M (List (Tx × (Tup Tx))))) >>= fun x73 => ((pure a54 : M (List (Tx × Tx))) >>= fun x72 => (pure x72 : M (List (Tx × Tx)))) >>= fun x74 => pure (H2.mk x73 x74)) >>= fun a66 =>
  (((pure a1 : M (List (T3 Tx Int Bool))) >>= fun x80 => ((pure none : M (Option Int)) >>= fun l78 => ((pure a63 : M Int) >>= fun x76 => pure (some x76)) >>= fun u79 => pure (cut a43 l78 u79)) >>= fun x81 => m_start_pool x80 x81) >>= fun a75 =>
  (((pure a1 : M (List (T3 Tx Int Bool))) >>= fun x87 => (pure a75 : M (T4 (Tup (Tx × (Tup Tx))) (Tup (Tx × (Tup Tx))) (TupN (Tx × Tx)) Bool)) >>= fun x88 => (pure [] : M (List (Tx × (Tup Tx)))) >>= fun x89 => ((pure a66 : M (H2 (List (Tx × (Tup Tx))) (List (Tx × Tx)))) >>= fun x83 => (pure x83.a : M (List (Tx × (Tup Tx))))) >>= fun x90 => ((pure a66 : M (H2 (List (Tx × (Tup Tx))) (List (Tx × Tx)))) >>= fun x85 => (pure x85.b : M (List (Tx × Tx)))) >>= fun x91 => m_moved x87 x88 x89 x90 x91) >>= fun a82 =>
  (((pure a66 : M (H2 (List (Tx × (Tup Tx))) (List (Tx × Tx)))) >>= fun x98 => ((((pure a63 : M Int) >>= fun x92 => pure (some x92)) >>= fun l94 => (pure none : M (Option Int)) >>= fun u95 => pure (cut a43 l94 u95)) >>= fun x96 => (pure a54 : M (List (Tx × Tx))) >>= fun x97 => pure (H2.mk x96 x97)) >>= fun y99 => (pure (!decide (x98 = y99)) : M Bool)) >>= fun c100 => if c100 = true then (pure false : M Bool) else
  ((pure [] : M (List (List Tx))) >>= fun a101 =>
  (((pure a1 : M (List (T3 Tx Int Bool))) >>= fun x107 => (pure a75 : M (T4 (Tup (Tx × (Tup Tx))) (Tup (Tx × (Tup Tx))) (TupN (Tx × Tx)) Bool)) >>= fun x108 => (pure [] : M (List (Tx × (Tup Tx)))) >>= fun x109 => (((pure a63 : M Int) >>= fun x103 => pure (some x103)) >>= fun l105 => (pure none : M (Option Int)) >>= fun u106 => pure (cut a43 l105 u106)) >>= fun x110 => (pure [] : M (List (Tx × Tx))) >>= fun x111 => m_moved x107 x108 x109 x110 x111) >>= fun a102 =>
  (((pure a54 : M (List (Tx × Tx))) >>= fun l114 => forP (fun (s112 : ((List (List Tx)) × (T4 (Tup (Tx × (Tup Tx))) (Tup (Tx × (Tup Tx))) (TupN (Tx × Tx)) Bool))) (e113 : (Tx × Tx)) => (((pure s112.1 : M (List (List Tx))) >>= fun x119 => (pure e113 : M (Tx × Tx)) >>= fun x120 => m__law_merged x119 x120) >>= fun a118 =>
  (((pure a1 : M (List (T3 Tx Int Bool))) >>= fun x124 => (pure s112.2 : M (T4 (Tup (Tx × (Tup Tx))) (Tup (Tx × (Tup Tx))) (TupN (Tx × Tx)) Bool)) >>= fun x125 => (pure [] : M (List (Tx × (Tup Tx)))) >>= fun x126 => (pure [] : M (List (Tx × (Tup Tx)))) >>= fun x127 => ((pure e113 : M (Tx × Tx)) >>= fun x122 => (pure [] : M (List (Tx × Tx))) >>= fun r123 => pure (x122 :: r123)) >>= fun x128 => m_moved x124 x125 x126 x127 x128) >>= fun a121 =>
  (pure (a118, a121) : M ((List (List Tx)) × (T4 (Tup (Tx × (Tup Tx))) (Tup (Tx × (Tup Tx))) (TupN (Tx × Tx)) Bool)))))) (a101, a102) l114) >>= fun s112 =>
  (((pure a1 : M (List (T3 Tx Int Bool))) >>= fun x130 => (pure a43 : M (List (Tx × (Tup Tx)))) >>= fun x131 => (pure a54 : M (List (Tx × Tx))) >>= fun x132 => (pure s112.1 : M (List (List Tx))) >>= fun x133 => m__law_due x130 x131 x132 x133) >>= fun a129 =>
  (((((pure a82 : M (T4 (Tup (Tx × (Tup Tx))) (Tup (Tx × (Tup Tx))) (TupN (Tx × Tx)) Bool)) >>= fun x136 => ((pure a129 : M ((T4 (Tup (Tx × (Tup Tx))) (Tup (Tx × (Tup Tx))) (TupN (Tx × Tx)) Bool) × (List Tx))) >>= fun x134 => pure x134.1) >>= fun x137 => m__law_is_pool x136 x137) >>= fun c138 => pure (!c138)) >>= fun c144 => if c144 = true then pure true else (((pure s112.2 : M (T4 (Tup (Tx × (Tup Tx))) (Tup (Tx × (Tup Tx))) (TupN (Tx × Tx)) Bool)) >>= fun x141 => ((pure a129 : M ((T4 (Tup (Tx × (Tup Tx))) (Tup (Tx × (Tup Tx))) (TupN (Tx × Tx)) Bool) × (List Tx))) >>= fun x139 => pure x139.1) >>= fun x142 => m__law_is_pool x141 x142) >>= fun c143 => pure (!c143))) >>= fun c145 => if c145 = true then (pure false : M Bool) else
  (((pure a82 : M (T4 (Tup (Tx × (Tup Tx))) (Tup (Tx × (Tup Tx))) (TupN (Tx × Tx)) Bool)) >>= fun x147 => m_pool_text x147) >>= fun a146 =>
  (((((pure a146 : M Tx) >>= fun _x148 => (pure true : M Bool)) >>= fun c149 => pure (!c149)) >>= fun c155 => if c155 = true then pure true else ((pure a146 : M Tx) >>= fun x153 => (((pure a129 : M ((T4 (Tup (Tx × (Tup Tx))) (Tup (Tx × (Tup Tx))) (TupN (Tx × Tx)) Bool) × (List Tx))) >>= fun x150 => pure x150.1) >>= fun x152 => m__law_written x152) >>= fun y154 => (pure (!decide (x153 = y154)) : M Bool))) >>= fun c156 => if c156 = true then (pure false : M Bool) else
  ((pure a82 : M (T4 (Tup (Tx × (Tup Tx))) (Tup (Tx × (Tup Tx))) (TupN (Tx × Tx)) Bool)) >>= fun x159 => (pure a18 : M (List Tx)) >>= fun x160 => (pure s112.1 : M (List (List Tx))) >>= fun x161 => ((pure a129 : M ((T4 (Tup (Tx × (Tup Tx))) (Tup (Tx × (Tup Tx))) (TupN (Tx × Tx)) Bool) × (List Tx))) >>= fun x157 => pure x157.2) >>= fun x162 => m__law_names_told x159 x160 x161 x162)))))))))))))))))))
end Q

set_option Elab.async false
set_option linter.all false
set_option maxRecDepth 100000
set_option maxHeartbeats 4000000
namespace Q
open PySem L2 G
/-! what the top has left -/
structure Fx (K : Fg) (mg : Str → Option Value) : Prop where
  f_is_name : ∃ fd, FunD K "is_name" "is_name" (defArgs (top 11)) (defBody (top 11)) (defScope (top 11)) [] [] (He.ga K "is_name") fd
  g_is_name : mg "is_name" = some (.ref (He.ga K "is_name"))
  f_is_word : ∃ fd, FunD K "is_word" "is_word" (defArgs (top 12)) (defBody (top 12)) (defScope (top 12)) [] [] (He.ga K "is_word") fd
  g_is_word : mg "is_word" = some (.ref (He.ga K "is_word"))
  f_is_open : ∃ fd, FunD K "is_open" "is_open" (defArgs (top 13)) (defBody (top 13)) (defScope (top 13)) [] [] (He.ga K "is_open") fd
  g_is_open : mg "is_open" = some (.ref (He.ga K "is_open"))
  f_fact_text : ∃ fd, FunD K "fact_text" "fact_text" (defArgs (top 14)) (defBody (top 14)) (defScope (top 14)) [] [] (He.ga K "fact_text") fd
  g_fact_text : mg "fact_text" = some (.ref (He.ga K "fact_text"))
  f_facts_text : ∃ fd, FunD K "facts_text" "facts_text" (defArgs (top 15)) (defBody (top 15)) (defScope (top 15)) [] [] (He.ga K "facts_text") fd
  g_facts_text : mg "facts_text" = some (.ref (He.ga K "facts_text"))
  f_kind_lasts : ∃ fd, FunD K "kind_lasts" "kind_lasts" (defArgs (top 19)) (defBody (top 19)) (defScope (top 19)) [] [] (He.ga K "kind_lasts") fd
  g_kind_lasts : mg "kind_lasts" = some (.ref (He.ga K "kind_lasts"))
  f_look_at_facts : ∃ fd, FunD K "look_at_facts" "look_at_facts" (defArgs (top 20)) (defBody (top 20)) (defScope (top 20)) [] [] (He.ga K "look_at_facts") fd
  g_look_at_facts : mg "look_at_facts" = some (.ref (He.ga K "look_at_facts"))
  f_look_at_taken : ∃ fd, FunD K "look_at_taken" "look_at_taken" (defArgs (top 21)) (defBody (top 21)) (defScope (top 21)) [] [] (He.ga K "look_at_taken") fd
  g_look_at_taken : mg "look_at_taken" = some (.ref (He.ga K "look_at_taken"))
  f_renamed_fact : ∃ fd, FunD K "renamed_fact" "renamed_fact" (defArgs (top 22)) (defBody (top 22)) (defScope (top 22)) [] [] (He.ga K "renamed_fact") fd
  g_renamed_fact : mg "renamed_fact" = some (.ref (He.ga K "renamed_fact"))
  f_learn_names : ∃ fd, FunD K "learn_names" "learn_names" (defArgs (top 23)) (defBody (top 23)) (defScope (top 23)) [] [] (He.ga K "learn_names") fd
  g_learn_names : mg "learn_names" = some (.ref (He.ga K "learn_names"))
  f_first_of : ∃ fd, FunD K "first_of" "first_of" (defArgs (top 24)) (defBody (top 24)) (defScope (top 24)) [] [] (He.ga K "first_of") fd
  g_first_of : mg "first_of" = some (.ref (He.ga K "first_of"))
  f_tell_same : ∃ fd, FunD K "tell_same" "tell_same" (defArgs (top 25)) (defBody (top 25)) (defScope (top 25)) [] [] (He.ga K "tell_same") fd
  g_tell_same : mg "tell_same" = some (.ref (He.ga K "tell_same"))
  f_without_facts : ∃ fd, FunD K "without_facts" "without_facts" (defArgs (top 26)) (defBody (top 26)) (defScope (top 26)) [] [] (He.ga K "without_facts") fd
  g_without_facts : mg "without_facts" = some (.ref (He.ga K "without_facts"))
  f_settled_pool : ∃ fd, FunD K "settled_pool" "settled_pool" (defArgs (top 27)) (defBody (top 27)) (defScope (top 27)) [] [] (He.ga K "settled_pool") fd
  g_settled_pool : mg "settled_pool" = some (.ref (He.ga K "settled_pool"))
  f_moved : ∃ fd, FunD K "moved" "moved" (defArgs (top 28)) (defBody (top 28)) (defScope (top 28)) [] [] (He.ga K "moved") fd
  g_moved : mg "moved" = some (.ref (He.ga K "moved"))
  f_start_pool : ∃ fd, FunD K "start_pool" "start_pool" (defArgs (top 29)) (defBody (top 29)) (defScope (top 29)) [] [] (He.ga K "start_pool") fd
  g_start_pool : mg "start_pool" = some (.ref (He.ga K "start_pool"))
  f_stands_for : ∃ fd, FunD K "stands_for" "stands_for" (defArgs (top 30)) (defBody (top 30)) (defScope (top 30)) [] [] (He.ga K "stands_for") fd
  g_stands_for : mg "stands_for" = some (.ref (He.ga K "stands_for"))
  f_pool_text : ∃ fd, FunD K "pool_text" "pool_text" (defArgs (top 31)) (defBody (top 31)) (defScope (top 31)) [] [] (He.ga K "pool_text") fd
  g_pool_text : mg "pool_text" = some (.ref (He.ga K "pool_text"))
  f__law_cell_at : ∃ fd, FunD K "_law_cell_at" "_law_cell_at" (defArgs (top 33)) (defBody (top 33)) (defScope (top 33)) [] [] (He.ga K "_law_cell_at") fd
  g__law_cell_at : mg "_law_cell_at" = some (.ref (He.ga K "_law_cell_at"))
  f__law_mix : ∃ fd, FunD K "_law_mix" "_law_mix" (defArgs (top 34)) (defBody (top 34)) (defScope (top 34)) [] [] (He.ga K "_law_mix") fd
  g__law_mix : mg "_law_mix" = some (.ref (He.ga K "_law_mix"))
  f__law_names : ∃ fd, FunD K "_law_names" "_law_names" (defArgs (top 35)) (defBody (top 35)) (defScope (top 35)) [] [] (He.ga K "_law_names") fd
  g__law_names : mg "_law_names" = some (.ref (He.ga K "_law_names"))
  f__law_titles : ∃ fd, FunD K "_law_titles" "_law_titles" (defArgs (top 36)) (defBody (top 36)) (defScope (top 36)) [] [] (He.ga K "_law_titles") fd
  g__law_titles : mg "_law_titles" = some (.ref (He.ga K "_law_titles"))
  f__law_opens : ∃ fd, FunD K "_law_opens" "_law_opens" (defArgs (top 37)) (defBody (top 37)) (defScope (top 37)) [] [] (He.ga K "_law_opens") fd
  g__law_opens : mg "_law_opens" = some (.ref (He.ga K "_law_opens"))
  f__law_words : ∃ fd, FunD K "_law_words" "_law_words" (defArgs (top 38)) (defBody (top 38)) (defScope (top 38)) [] [] (He.ga K "_law_words") fd
  g__law_words : mg "_law_words" = some (.ref (He.ga K "_law_words"))
  f__law_kinds : ∃ fd, FunD K "_law_kinds" "_law_kinds" (defArgs (top 39)) (defBody (top 39)) (defScope (top 39)) [] [] (He.ga K "_law_kinds") fd
  g__law_kinds : mg "_law_kinds" = some (.ref (He.ga K "_law_kinds"))
  f__law_fact : ∃ fd, FunD K "_law_fact" "_law_fact" (defArgs (top 40)) (defBody (top 40)) (defScope (top 40)) [] [] (He.ga K "_law_fact") fd
  g__law_fact : mg "_law_fact" = some (.ref (He.ga K "_law_fact"))
  f__law_known : ∃ fd, FunD K "_law_known" "_law_known" (defArgs (top 41)) (defBody (top 41)) (defScope (top 41)) [] [] (He.ga K "_law_known") fd
  g__law_known : mg "_law_known" = some (.ref (He.ga K "_law_known"))
  f__law_lasts : ∃ fd, FunD K "_law_lasts" "_law_lasts" (defArgs (top 42)) (defBody (top 42)) (defScope (top 42)) [] [] (He.ga K "_law_lasts") fd
  g__law_lasts : mg "_law_lasts" = some (.ref (He.ga K "_law_lasts"))
  f__law_stand : ∃ fd, FunD K "_law_stand" "_law_stand" (defArgs (top 43)) (defBody (top 43)) (defScope (top 43)) [] [] (He.ga K "_law_stand") fd
  g__law_stand : mg "_law_stand" = some (.ref (He.ga K "_law_stand"))
  f__law_merged : ∃ fd, FunD K "_law_merged" "_law_merged" (defArgs (top 44)) (defBody (top 44)) (defScope (top 44)) [] [] (He.ga K "_law_merged") fd
  g__law_merged : mg "_law_merged" = some (.ref (He.ga K "_law_merged"))
  f__law_torn : ∃ fd, FunD K "_law_torn" "_law_torn" (defArgs (top 45)) (defBody (top 45)) (defScope (top 45)) [] [] (He.ga K "_law_torn") fd
  g__law_torn : mg "_law_torn" = some (.ref (He.ga K "_law_torn"))
  f__law_now : ∃ fd, FunD K "_law_now" "_law_now" (defArgs (top 46)) (defBody (top 46)) (defScope (top 46)) [] [] (He.ga K "_law_now") fd
  g__law_now : mg "_law_now" = some (.ref (He.ga K "_law_now"))
  f__law_pool : ∃ fd, FunD K "_law_pool" "_law_pool" (defArgs (top 47)) (defBody (top 47)) (defScope (top 47)) [] [] (He.ga K "_law_pool") fd
  g__law_pool : mg "_law_pool" = some (.ref (He.ga K "_law_pool"))
  f__law_is_pool : ∃ fd, FunD K "_law_is_pool" "_law_is_pool" (defArgs (top 48)) (defBody (top 48)) (defScope (top 48)) [] [] (He.ga K "_law_is_pool") fd
  g__law_is_pool : mg "_law_is_pool" = some (.ref (He.ga K "_law_is_pool"))
  f__law_fact_text : ∃ fd, FunD K "_law_fact_text" "_law_fact_text" (defArgs (top 49)) (defBody (top 49)) (defScope (top 49)) [] [] (He.ga K "_law_fact_text") fd
  g__law_fact_text : mg "_law_fact_text" = some (.ref (He.ga K "_law_fact_text"))
  f__law_pairs : ∃ fd, FunD K "_law_pairs" "_law_pairs" (defArgs (top 50)) (defBody (top 50)) (defScope (top 50)) [] [] (He.ga K "_law_pairs") fd
  g__law_pairs : mg "_law_pairs" = some (.ref (He.ga K "_law_pairs"))
  f__law_asked : ∃ fd, FunD K "_law_asked" "_law_asked" (defArgs (top 51)) (defBody (top 51)) (defScope (top 51)) [] [] (He.ga K "_law_asked") fd
  g__law_asked : mg "_law_asked" = some (.ref (He.ga K "_law_asked"))
  f__law_names_told : ∃ fd, FunD K "_law_names_told" "_law_names_told" (defArgs (top 52)) (defBody (top 52)) (defScope (top 52)) [] [] (He.ga K "_law_names_told") fd
  g__law_names_told : mg "_law_names_told" = some (.ref (He.ga K "_law_names_told"))
  f__law_written : ∃ fd, FunD K "_law_written" "_law_written" (defArgs (top 53)) (defBody (top 53)) (defScope (top 53)) [] [] (He.ga K "_law_written") fd
  g__law_written : mg "_law_written" = some (.ref (He.ga K "_law_written"))
  f__law_due : ∃ fd, FunD K "_law_due" "_law_due" (defArgs (top 54)) (defBody (top 54)) (defScope (top 54)) [] [] (He.ga K "_law_due") fd
  g__law_due : mg "_law_due" = some (.ref (He.ga K "_law_due"))
  f_law : ∃ fd, FunD K "law" "law" (defArgs (top 55)) (defBody (top 55)) (defScope (top 55)) [] [] (He.ga K "law") fd
  g_law : mg "law" = some (.ref (He.ga K "law"))
  em_NoName : ∀ c ∈ exc_NoName, (He.Fa.exm c "NoName" true).ok K = true
  ex_NoName : ∀ c ∈ exc_NoName, excB K c = true
  g_BROKEN : mg "BROKEN" = some (.ref (He.ga K "BROKEN"))
  u_BROKEN : emp4N K "BROKEN" true = true
  g_EMPTY : mg "EMPTY" = some (.ref (He.ga K "EMPTY"))
  u_EMPTY : emp4N K "EMPTY" false = true
  n_bool : mg "bool" = none
  n_dict : mg "dict" = none
  n_isinstance : mg "isinstance" = none
  n_len : mg "len" = none
  n_list : mg "list" = none
  n_min : mg "min" = none
  n_range : mg "range" = none
  n_set : mg "set" = none
  n_sorted : mg "sorted" = none
  n_str : mg "str" = none
  n_tuple : mg "tuple" = none
  s_FIGURES : ∃ t, mg "FIGURES" = some (.str (Str.ofString "0123456789") t)
  s_GREAT : ∃ t, mg "GREAT" = some (.str (Str.ofString "ABCDEFGHIJKLMNOPQRSTUVWXYZ") t)
  s_SMALL : ∃ t, mg "SMALL" = some (.str (Str.ofString "abcdefghijklmnopqrstuvwxyz") t)
  g_BadArgs : mg "BadArgs" = some (.ref (He.ga K "BadArgs"))
  x_BadArgs : (He.Fa.exc "BadArgs").ok K = true
  g_BadTake : mg "BadTake" = some (.ref (He.ga K "BadTake"))
  x_BadTake : (He.Fa.exc "BadTake").ok K = true
  g_NoFact : mg "NoFact" = some (.ref (He.ga K "NoFact"))
  x_NoFact : (He.Fa.exc "NoFact").ok K = true
  g_NoKind : mg "NoKind" = some (.ref (He.ga K "NoKind"))
  x_NoKind : (He.Fa.exc "NoKind").ok K = true
  g_NoName : mg "NoName" = some (.ref (He.ga K "NoName"))
  x_NoName : (He.Fa.exc "NoName").ok K = true
/-! each def keeps its promise -/
abbrev N_is_name : List Str := ["text", "sign"]
theorem nd_is_name : N_is_name.Nodup := by decide +kernel
theorem ok_is_name {P : Program} {w : World} {K : Fg} {mg : Str → Option Value} {base : Heap} (T : Fx K mg) : OkF P w K mg base "is_name" 1 (sp1 K m_is_name) :=
  mkF1 (N := N_is_name) T.f_is_name T.g_is_name ⟨rfl, rfl, rfl, nd_is_name, rfl, by decide +kernel, by decide +kernel⟩ (fun _ _ _ _ _ _ us hl => match us, hl with | [_], _ => rfl) fun cdv A outer s H E hr p0 b hown => by
    unfold m_is_name
    exact (js_if1 pi_rt (jt_not (jt_chain op_le ro_le op_le ro_le je_int (je_callB call_len_str ra_lenS T.n_len bt_len (je_var 0 rfl)) je_int)) (js_ret je_bl)
  (js_forR (Lf := fun (s9 : Unit) => [.im (rp K p0), .no]) (wr := id) (fun _ _ h => h) (ji_str (je_var 0 rfl)) (jg_name 1 (fun _ => nd_is_name)) (Wk.s (Wk.s Wk.nil)) (fun F14 s9 e10 => (js_if2 (jw_jt (jw_and (jt_cmp op_notInS ro_notIn (je_var 1 rfl) (je_gstr T.s_SMALL)) (jw_and (jt_cmp op_notInS ro_notIn (je_var 1 rfl) (je_gstr T.s_GREAT)) (jw_and1 (jt_cmp op_notInS ro_notIn (je_var 1 rfl) (je_gstr T.s_FIGURES)))))) (js_retL je_bl) (js_nilL (Wk.s (Wk.n Wk.nil))))) (fun s9 =>
  (js_ret je_bl)) pasO))

abbrev N_is_word : List Str := ["text"]
theorem nd_is_word : N_is_word.Nodup := by decide +kernel
theorem ok_is_word {P : Program} {w : World} {K : Fg} {mg : Str → Option Value} {base : Heap} (T : Fx K mg) : OkF P w K mg base "is_word" 2 (sp1 K m_is_word) :=
  mkF1 (N := N_is_word) T.f_is_word T.g_is_word ⟨rfl, rfl, rfl, nd_is_word, rfl, by decide +kernel, by decide +kernel⟩ (fun _ _ _ _ _ _ us hl => match us, hl with | [_], _ => rfl) fun cdv A outer s H E hr p0 b hown => by
    unfold m_is_word
    exact (js_ret (je_and (je_call1 (ok_is_name T) (hr.mono (by decide)) pasF (je_var 0 rfl)) (je_one (je_cmp op_notInS ro_notIn (je_ix ix_str ro_ixS (je_var 0 rfl) je_int) (je_gstr T.s_GREAT)))))

abbrev N_is_open : List Str := ["text"]
theorem nd_is_open : N_is_open.Nodup := by decide +kernel
theorem ok_is_open {P : Program} {w : World} {K : Fg} {mg : Str → Option Value} {base : Heap} (T : Fx K mg) : OkF P w K mg base "is_open" 2 (sp1 K m_is_open) :=
  mkF1 (N := N_is_open) T.f_is_open T.g_is_open ⟨rfl, rfl, rfl, nd_is_open, rfl, by decide +kernel, by decide +kernel⟩ (fun _ _ _ _ _ _ us hl => match us, hl with | [_], _ => rfl) fun cdv A outer s H E hr p0 b hown => by
    unfold m_is_open
    exact (js_ret (je_and (je_call1 (ok_is_name T) (hr.mono (by decide)) pasF (je_var 0 rfl)) (je_one (je_cmp op_inS ro_in (je_ix ix_str ro_ixS (je_var 0 rfl) je_int) (je_gstr T.s_GREAT)))))

abbrev N_fact_text : List Str := ["fact"]
theorem nd_fact_text : N_fact_text.Nodup := by decide +kernel
theorem ok_fact_text {P : Program} {w : World} {K : Fg} {mg : Str → Option Value} {base : Heap} (T : Fx K mg) : OkF P w K mg base "fact_text" 1 (sp1 K m_fact_text) :=
  mkF1 (N := N_fact_text) T.f_fact_text T.g_fact_text ⟨rfl, rfl, rfl, nd_fact_text, rfl, by decide +kernel, by decide +kernel⟩ (fun _ _ _ _ _ _ us hl => match us, hl with | [_], _ => rfl) fun cdv A outer s H E hr p0 b hown => by
    unfold m_fact_text
    exact (js_if1 pi_rt (jt_cmp op_eq ro_eqI (je_callB call_len_seq ra_lenU T.n_len bt_len (je_p1 (je_var 0 rfl))) je_int) (js_ret (je_p0 (je_var 0 rfl)))
  (js_ret (je_bin op_add_str ro_addT (je_bin op_add_str ro_addT (je_bin op_add_str ro_addT (je_p0 (je_var 0 rfl)) je_str) (je_m1 PySem.F.slot_str_join PySem.F.type_str_join mt_join rm_joinU je_str (je_p1 (je_var 0 rfl)))) je_str)))

abbrev N_facts_text : List Str := ["facts", "fact"]
theorem nd_facts_text : N_facts_text.Nodup := by decide +kernel
theorem ok_facts_text {P : Program} {w : World} {K : Fg} {mg : Str → Option Value} {base : Heap} (T : Fx K mg) : OkF P w K mg base "facts_text" 2 (sp1 K m_facts_text) :=
  mkF1 (N := N_facts_text) T.f_facts_text T.g_facts_text ⟨rfl, rfl, rfl, nd_facts_text, rfl, by decide +kernel, by decide +kernel⟩ (fun _ _ _ _ _ _ us hl => match us, hl with | [_], _ => rfl) fun cdv A outer s H E hr p0 b hown => by
    unfold m_facts_text
    exact (js_ret (je_m1 PySem.F.slot_str_join PySem.F.type_str_join mt_join rm_join je_str (je_jf (jf_lc (own := [("fact", 1)]) (ji_list (je_var 0 rfl)) (jg_name 1 (fun _ => nd_facts_text)) (fun _ e1 => (je_call1 (ok_fact_text T) (hr.mono (by decide)) passL (je_var 1 rfl))) nd_facts_text (blkOk_by (N := N_facts_text) (sc := defScope (top 15)) (by decide +kernel))))))

abbrev N_facts_text_v1 : List Str := ["facts", "fact"]
theorem nd_facts_text_v1 : N_facts_text_v1.Nodup := by decide +kernel
theorem ok_facts_text_v1 {P : Program} {w : World} {K : Fg} {mg : Str → Option Value} {base : Heap} (T : Fx K mg) : OkF P w K mg base "facts_text" 2 (sp1 K m_facts_text_v1) :=
  mkF1 (N := N_facts_text_v1) T.f_facts_text T.g_facts_text ⟨rfl, rfl, rfl, nd_facts_text_v1, rfl, by decide +kernel, by decide +kernel⟩ (fun _ _ _ _ _ _ us hl => match us, hl with | [_], _ => rfl) fun cdv A outer s H E hr p0 b hown => by
    unfold m_facts_text_v1
    exact (js_ret (je_m1 PySem.F.slot_str_join PySem.F.type_str_join mt_join rm_join je_str (je_jf (jf_lc (own := [("fact", 1)]) (ji_tup (je_var 0 rfl)) (jg_name 1 (fun _ => nd_facts_text_v1)) (fun _ e1 => (je_call1 (ok_fact_text T) (hr.mono (by decide)) passL (je_var 1 rfl))) nd_facts_text_v1 (blkOk_by (N := N_facts_text_v1) (sc := defScope (top 15)) (by decide +kernel))))))

abbrev N_kind_lasts : List Str := ["kinds", "told", "kind"]
theorem nd_kind_lasts : N_kind_lasts.Nodup := by decide +kernel
theorem ok_kind_lasts {P : Program} {w : World} {K : Fg} {mg : Str → Option Value} {base : Heap} (T : Fx K mg) : OkF P w K mg base "kind_lasts" 1 (sp1 K m_kind_lasts) :=
  mkF1 (N := N_kind_lasts) T.f_kind_lasts T.g_kind_lasts ⟨rfl, rfl, rfl, nd_kind_lasts, rfl, by decide +kernel, by decide +kernel⟩ (fun _ _ _ _ _ _ us hl => match us, hl with | [_], _ => rfl) fun cdv A outer s H E hr p0 b hown => by
    unfold m_kind_lasts
    exact (js_cons (j1_setF 1 jf_dnew nd_kind_lasts) fun a1 =>
  (js_cons (j1_forP (Lf := fun (s2 : (Dic Bool)) => [.im (rp K p0), .mu (ctD K s2), .no]) (ji_list (je_var 0 rfl)) (jg_name 2 (fun _ => nd_kind_lasts)) (Wk.s (Wk.s (Wk.s Wk.nil))) (fun F7 s2 e3 => (js_cons (j1_dput 1 hr.units (je_t2 (je_var 2 rfl)) (je_t0 (je_var 2 rfl))) fun a8 =>
  (js_nilP (Wk.s (Wk.s (Wk.n Wk.nil)))))) pasO) fun s2 =>
  (js_frzD 1 (js_ret (je_var 1 rfl)))))

abbrev N_look_at_facts : List Str := ["kinds", "facts", "sizes", "kind", "fact"]
theorem nd_look_at_facts : N_look_at_facts.Nodup := by decide +kernel
theorem ok_look_at_facts {P : Program} {w : World} {K : Fg} {mg : Str → Option Value} {base : Heap} (T : Fx K mg) : OkF P w K mg base "look_at_facts" 1 (sp2 K m_look_at_facts) :=
  mkF2 (N := N_look_at_facts) T.f_look_at_facts T.g_look_at_facts ⟨rfl, rfl, rfl, nd_look_at_facts, rfl, by decide +kernel, by decide +kernel⟩ (fun _ _ _ _ _ _ us hl => match us, hl with | [_, _], _ => rfl) fun cdv A outer s H E hr p0 p1 b hown => by
    unfold m_look_at_facts
    exact (js_cons (j1_setF 2 jf_dnew nd_look_at_facts) fun a1 =>
  (js_cons (j1_forP (Lf := fun (s2 : (Dic Int)) => [.im (rp K p0), .im (rp K p1), .mu (ctD K s2), .no, .no]) (ji_list (je_var 0 rfl)) (jg_name 3 (fun _ => nd_look_at_facts)) (Wk.s (Wk.s (Wk.s (Wk.s (Wk.s Wk.nil))))) (fun F7 s2 e3 => (js_cons (j1_dput 2 hr.units (je_t1 (je_var 3 rfl)) (je_t0 (je_var 3 rfl))) fun a8 =>
  (js_nilP (Wk.s (Wk.s (Wk.s (Wk.n (Wk.s Wk.nil)))))))) pasO) fun s2 =>
  (js_cons (j1_forP (Lf := fun (s16 : Unit) => [.im (rp K p0), .im (rp K p1), .mu (ctD K s2), .no, .no]) (ji_list (je_var 1 rfl)) (jg_name 4 (fun _ => nd_look_at_facts)) (Wk.s (Wk.s (Wk.s (Wk.s (Wk.s Wk.nil))))) (fun F21 s16 e17 => (js_cons (j1_if (Lf := fun (s27 : Unit) => [.im (rp K p0), .im (rp K p1), .mu (ctD K s2), .no, .im (rp K e17)]) (jt_dnotin hr.units (je_p0 (je_var 4 rfl)) (jd_held 2)) (js_raise takF rfl T.g_NoKind T.x_NoKind) (js_nilP (Wk.s (Wk.s (Wk.s (Wk.s (Wk.s Wk.nil))))))) fun s27 =>
  (js_cons (j1_if (Lf := fun (s38 : Unit) => [.im (rp K p0), .im (rp K p1), .mu (ctD K s2), .no, .im (rp K e17)]) (jt_cmp op_ne ro_neI (je_callB call_len_seq ra_lenU T.n_len bt_len (je_p1 (je_var 4 rfl))) (je_dget hr.units (jd_held 2) (je_p0 (je_var 4 rfl)))) (js_raise takF rfl T.g_BadArgs T.x_BadArgs) (js_nilP (Wk.s (Wk.s (Wk.s (Wk.s (Wk.s Wk.nil))))))) fun s38 =>
  (js_nilP (Wk.s (Wk.s (Wk.s (Wk.s (Wk.n Wk.nil))))))))) pasO) fun s16 =>
  js_nilF)))

abbrev N_look_at_taken : List Str := ["lasting", "taken", "fact"]
theorem nd_look_at_taken : N_look_at_taken.Nodup := by decide +kernel
theorem ok_look_at_taken {P : Program} {w : World} {K : Fg} {mg : Str → Option Value} {base : Heap} (T : Fx K mg) : OkF P w K mg base "look_at_taken" 1 (sp2 K m_look_at_taken) :=
  mkF2 (N := N_look_at_taken) T.f_look_at_taken T.g_look_at_taken ⟨rfl, rfl, rfl, nd_look_at_taken, rfl, by decide +kernel, by decide +kernel⟩ (fun _ _ _ _ _ _ us hl => match us, hl with | [_, _], _ => rfl) fun cdv A outer s H E hr p0 p1 b hown => by
    unfold m_look_at_taken
    exact (js_cons (j1_forP (Lf := fun (s1 : Unit) => [.im (rp K p0), .im (rp K p1), .no]) (ji_list (je_var 1 rfl)) (jg_name 2 (fun _ => nd_look_at_taken)) (Wk.s (Wk.s (Wk.s Wk.nil))) (fun F6 s1 e2 => (js_cons (j1_if (Lf := fun (s12 : Unit) => [.im (rp K p0), .im (rp K p1), .im (rp K e2)]) (jt_val (je_dget hr.units (jd_val (je_var 0 rfl)) (je_p0 (je_var 2 rfl)))) (js_raise takF rfl T.g_BadTake T.x_BadTake) (js_nilP (Wk.s (Wk.s (Wk.s Wk.nil))))) fun s12 =>
  (js_nilP (Wk.s (Wk.s (Wk.n Wk.nil)))))) pasO) fun s1 =>
  js_nilF)

abbrev N_renamed_fact : List Str := ["fact", "same", "name"]
theorem nd_renamed_fact : N_renamed_fact.Nodup := by decide +kernel
theorem ok_renamed_fact {P : Program} {w : World} {K : Fg} {mg : Str → Option Value} {base : Heap} (T : Fx K mg) : OkF P w K mg base "renamed_fact" 1 (sp2 K m_renamed_fact) :=
  mkF2 (N := N_renamed_fact) T.f_renamed_fact T.g_renamed_fact ⟨rfl, rfl, rfl, nd_renamed_fact, rfl, by decide +kernel, by decide +kernel⟩ (fun _ _ _ _ _ _ us hl => match us, hl with | [_, _], _ => rfl) fun cdv A outer s H E hr p0 p1 b hown => by
    unfold m_renamed_fact
    exact (js_ret (je_pair (je_p0 (je_var 0 rfl)) (je_callTy call_tuple_of ra_tupL T.n_tuple bt_tuple (je_jf (jf_lc (own := [("name", 2)]) (ji_tup (je_p1 (je_var 0 rfl))) (jg_name 2 (fun _ => nd_renamed_fact)) (fun _ e5 => (je_dget2 hr.units (jd_val (je_var 1 rfl)) (je_var 2 rfl) (je_var 2 rfl))) nd_renamed_fact (blkOk_by (N := N_renamed_fact) (sc := defScope (top 22)) (by decide +kernel)))))))

abbrev N_learn_names : List Str := ["same", "names", "name"]
theorem nd_learn_names : N_learn_names.Nodup := by decide +kernel
theorem ok_learn_names {P : Program} {w : World} {K : Fg} {mg : Str → Option Value} {base : Heap} (T : Fx K mg) : OkF P w K mg base "learn_names" 3 (spO2_0 K (fun (x : (Dic Tx)) => one (ctD K (α := Tx) x)) (fun (x : (Dic Tx)) => one (ctD K (α := Tx) x)) m_learn_names) :=
  mkFO2_0 (N := N_learn_names) T.f_learn_names T.g_learn_names ⟨rfl, rfl, rfl, nd_learn_names, rfl, by decide +kernel, by decide +kernel⟩ (fun _ _ _ _ _ _ us hl => match us, hl with | [_, _], _ => rfl) fun cdv A outer s H E hr p0 p1 b vx => by
    unfold m_learn_names
    exact (js_cons (j1_forP (Lf := fun (s1 : (Dic Tx)) => [.tr true (pin vx (one (ctD K s1))), .im (rp K p1), .no]) (ji_tup (je_var 1 rfl)) (jg_name 2 (fun _ => nd_learn_names)) (Wk.s (Wk.s (Wk.s Wk.nil))) (fun F6 s1 e2 => (js_cons (j1_if (Lf := fun (s12 : (Dic Tx)) => [.tr true (pin vx (one (ctD K s12))), .im (rp K p1), .im (rp K e2)]) (jw_jt (jw_and (jt_val (je_call1 (ok_is_open T) (hr.mono (by decide)) pasF (je_var 2 rfl))) (jw_and1 (jt_dnotin hr.units (je_var 2 rfl) (jd_at (jp_pin (jp_name 0 rfl))))))) (js_cons (j1_dputP hr.units (je_var 2 rfl) (jp_pin (jp_name 0 rfl)) (je_var 2 rfl)) fun a13 =>
  (js_nilP (Wk.s (Wk.s (Wk.s Wk.nil))))) (js_nilP (Wk.s (Wk.s (Wk.s Wk.nil))))) fun s12 =>
  (js_nilP (Wk.s (Wk.s (Wk.n Wk.nil)))))) pasO) fun s1 =>
  (js_nilP' 0))

abbrev N_first_of : List Str := ["left", "right"]
theorem nd_first_of : N_first_of.Nodup := by decide +kernel
theorem ok_first_of {P : Program} {w : World} {K : Fg} {mg : Str → Option Value} {base : Heap} (T : Fx K mg) : OkF P w K mg base "first_of" 3 (sp2 K m_first_of) :=
  mkF2 (N := N_first_of) T.f_first_of T.g_first_of ⟨rfl, rfl, rfl, nd_first_of, rfl, by decide +kernel, by decide +kernel⟩ (fun _ _ _ _ _ _ us hl => match us, hl with | [_, _], _ => rfl) fun cdv A outer s H E hr p0 p1 b hown => by
    unfold m_first_of
    exact (js_if1 pi_rt (jt_val (je_call1 (ok_is_word T) (hr.mono (by decide)) pasF (je_var 0 rfl))) (js_ret (je_var 0 rfl))
  (js_if1 pi_rt (jt_val (je_call1 (ok_is_word T) (hr.mono (by decide)) pasF (je_var 1 rfl))) (js_ret (je_var 1 rfl))
  (js_ret (je_callB2 (call_min2S rfl) ra_min2S T.n_min bt_min (je_var 0 rfl) (je_var 1 rfl)))))

abbrev N_tell_same : List Str := ["same", "pair", "left", "right", "chosen", "name"]
theorem nd_tell_same : N_tell_same.Nodup := by decide +kernel
theorem ok_tell_same {P : Program} {w : World} {K : Fg} {mg : Str → Option Value} {base : Heap} (T : Fx K mg) : OkF P w K mg base "tell_same" 4 (spO2_0 K (fun (x : (Dic Tx)) => one (ctD K (α := Tx) x)) (fun (x : (Dic Tx)) => one (ctD K (α := Tx) x)) m_tell_same) :=
  mkFO2_0 (N := N_tell_same) T.f_tell_same T.g_tell_same ⟨rfl, rfl, rfl, nd_tell_same, rfl, by decide +kernel, by decide +kernel⟩ (fun _ _ _ _ _ _ us hl => match us, hl with | [_, _], _ => rfl) fun cdv A outer s H E hr p0 p1 b vx => by
    unfold m_tell_same
    exact (js_cons (j1_set 2 (je_dget2 hr.units (jd_at (jp_pin (jp_name 0 rfl))) (je_p0 (je_var 1 rfl)) (je_p0 (je_var 1 rfl))) nd_tell_same) fun a1 =>
  (js_cons (j1_set 3 (je_dget2 hr.units (jd_at (jp_pin (jp_name 0 rfl))) (je_p1 (je_var 1 rfl)) (je_p1 (je_var 1 rfl))) nd_tell_same) fun a9 =>
  (js_if1 (pi_rt (R := (PinT Bool (Dic Tx) (fun (x : (Dic Tx)) => one (ctD K (α := Tx) x)) vx))) (jt_cmp op_eq ro_eqT (je_var 2 rfl) (je_var 3 rfl)) (js_retP 0 je_bl)
  (js_if1 (pi_rt (R := (PinT Bool (Dic Tx) (fun (x : (Dic Tx)) => one (ctD K (α := Tx) x)) vx))) (jw_jt (jw_and (jt_val (je_call1 (ok_is_word T) (hr.mono (by decide)) pasF (je_var 2 rfl))) (jw_and1 (jt_val (je_call1 (ok_is_word T) (hr.mono (by decide)) pasF (je_var 3 rfl)))))) (js_retP 0 je_bl)
  (js_cons (j1_set 4 (je_call2 (ok_first_of T) (hr.mono (by decide)) pasF (je_var 2 rfl) (je_var 3 rfl)) nd_tell_same) fun a26 =>
  (js_cons (j1_forP (Lf := fun (s30 : (Dic Tx)) => [.tr true (pin vx (one (ctD K s30))), .im (rp K p1), .im (rp K a1), .im (rp K a9), .im (rp K a26), .no]) (ji_list (je_keys rfl T.n_list (jd_at (jp_pin (jp_name 0 rfl))))) (jg_name 5 (fun _ => nd_tell_same)) (Wk.s (Wk.s (Wk.s (Wk.s (Wk.s (Wk.s Wk.nil)))))) (fun F35 s30 e31 => (js_cons (j1_if (Lf := fun (s46 : (Dic Tx)) => [.tr true (pin vx (one (ctD K s46))), .im (rp K p1), .im (rp K a1), .im (rp K a9), .im (rp K a26), .im (rp K e31)]) (jw_jt (jw_or (jt_cmp op_eq ro_eqT (je_dget hr.units (jd_at (jp_pin (jp_name 0 rfl))) (je_var 5 rfl)) (je_var 2 rfl)) (jw_or1 (jt_cmp op_eq ro_eqT (je_dget hr.units (jd_at (jp_pin (jp_name 0 rfl))) (je_var 5 rfl)) (je_var 3 rfl))))) (js_cons (j1_dputP hr.units (je_var 4 rfl) (jp_pin (jp_name 0 rfl)) (je_var 5 rfl)) fun a47 =>
  (js_nilP (Wk.s (Wk.s (Wk.s (Wk.s (Wk.s (Wk.s Wk.nil)))))))) (js_nilP (Wk.s (Wk.s (Wk.s (Wk.s (Wk.s (Wk.s Wk.nil)))))))) fun s46 =>
  (js_nilP (Wk.s (Wk.s (Wk.s (Wk.s (Wk.s (Wk.n Wk.nil))))))))) pasO) fun s30 =>
  (js_retP 0 je_bl)))))))

abbrev N_without_facts : List Str := ["facts", "taken", "left", "fact"]
theorem nd_without_facts : N_without_facts.Nodup := by decide +kernel
theorem ok_without_facts {P : Program} {w : World} {K : Fg} {mg : Str → Option Value} {base : Heap} (T : Fx K mg) : OkF P w K mg base "without_facts" 1 (spF2 K (ctL K) m_without_facts) :=
  mkFF2 (N := N_without_facts) T.f_without_facts T.g_without_facts ⟨rfl, rfl, rfl, nd_without_facts, rfl, by decide +kernel, by decide +kernel⟩ (fun _ _ _ _ _ _ us hl => match us, hl with | [_, _], _ => rfl) fun cdv A outer s H E hr p0 p1 b hown => by
    unfold m_without_facts
    exact (js_cons (j1_setF 2 (jf_listU T.n_list (je_var 0 rfl)) nd_without_facts) fun a1 =>
  (js_cons (j1_forP (Lf := fun (s3 : (List (Tx × (Tup Tx)))) => [.im (rp K p0), .im (rp K p1), .mu (ctL K s3), .no]) (ji_list (je_var 1 rfl)) (jg_name 3 (fun _ => nd_without_facts)) (Wk.s (Wk.s (Wk.s (Wk.s Wk.nil)))) (fun F8 s3 e4 => (js_cons (j1_if (Lf := fun (s13 : Unit) => [.im (rp K p0), .im (rp K p1), .mu (ctL K s3), .im (rp K e4)]) (jt_thawG 2 tells_L (fun b' => (jt_cmp (op_notInD hr.u65) ro_notInDM (je_var 3 rfl) (je_var 2 rfl)))) (js_raise takF rfl T.g_NoFact T.x_NoFact) (js_nilP (Wk.s (Wk.s (Wk.s (Wk.s Wk.nil)))))) fun s13 =>
  (js_cons (j1_remove 2 hr.u70 (je_var 3 rfl)) fun a14 =>
  (js_nilP (Wk.s (Wk.s (Wk.s (Wk.n Wk.nil)))))))) pasO) fun s3 =>
  (js_retF (c := ctL K) 2)))

abbrev N_settled_pool : List Str := ["passing", "lasting", "same", "bag", "once", "fact"]
theorem nd_settled_pool : N_settled_pool.Nodup := by decide +kernel
theorem ok_settled_pool {P : Program} {w : World} {K : Fg} {mg : Str → Option Value} {base : Heap} (T : Fx K mg) : OkF P w K mg base "settled_pool" 2 (sp3 K m_settled_pool) :=
  mkF3 (N := N_settled_pool) T.f_settled_pool T.g_settled_pool ⟨rfl, rfl, rfl, nd_settled_pool, rfl, by decide +kernel, by decide +kernel⟩ (fun _ _ _ _ _ _ us hl => match us, hl with | [_, _, _], _ => rfl) fun cdv A outer s H E hr p0 p1 p2 b hown => by
    unfold m_settled_pool
    exact (js_cons (j1_set 3 (je_jf (jf_sorted (α := (Tx × (Tup Tx))) hr.u70 T.n_sorted (je_jf (jf_lc (own := [("fact", 5)]) (ji_list (je_var 0 rfl)) (jg_name 5 (fun _ => nd_settled_pool)) (fun _ e2 => (je_call2 (ok_renamed_fact T) (hr.mono (by decide)) passL (je_var 5 rfl) (je_var 2 rfl))) nd_settled_pool (blkOk_by (N := N_settled_pool) (sc := defScope (top 27)) (by decide +kernel)))))) nd_settled_pool) fun a1 =>
  (js_cons (j1_fnew (κ := (Tx × (Tup Tx))) (α := Bool) 4 nd_settled_pool) fun a7 =>
  (js_cons (j1_forP (Lf := fun (s8 : (List ((Tx × (Tup Tx)) × Bool))) => [.im (rp K p0), .im (rp K p1), .im (rp K p2), .im (rp K a1), .tr false (fdT K P w s8), .no]) (ji_list (je_var 1 rfl)) (jg_name 5 (fun _ => nd_settled_pool)) (Wk.s (Wk.s (Wk.s (Wk.s (Wk.s (Wk.s Wk.nil)))))) (fun F13 s8 e9 => (js_cons (j1_fput (by decide) hr.units je_bl (jp_name 4 rfl) (je_call2 (ok_renamed_fact T) (hr.mono (by decide)) pasF (je_var 5 rfl) (je_var 2 rfl))) fun a14 =>
  (js_nilP (Wk.s (Wk.s (Wk.s (Wk.s (Wk.s (Wk.n Wk.nil))))))))) pasO) fun s8 =>
  (js_ret (je_quad (je_callTy call_tuple_of ra_tupL T.n_tuple bt_tuple (je_var 3 rfl)) (je_callTy call_tuple_of ra_tupL T.n_tuple bt_tuple (je_jf (jf_sortF (κ := (Tx × (Tup Tx))) (α := Bool) s8 (by decide) rfl hr.u70 T.n_sorted (jp_name 4 rfl)))) (je_tupN T.n_tuple (je_jf (jf_sortIt rfl hr.u70 T.n_sorted (jd_val (je_var 2 rfl))))) je_bl)))))

abbrev N_moved : List Str := ["kinds", "pool", "taken", "put", "told", "lasting", "same", "bag", "kept", "fact", "pair"]
theorem nd_moved : N_moved.Nodup := by decide +kernel
theorem ok_moved {P : Program} {w : World} {K : Fg} {mg : Str → Option Value} {base : Heap} (T : Fx K mg) : OkF P w K mg base "moved" 5 (sp5 K m_moved) :=
  mkF5 (N := N_moved) T.f_moved T.g_moved ⟨rfl, rfl, rfl, nd_moved, rfl, by decide +kernel, by decide +kernel⟩ (fun _ _ _ _ _ _ us hl => match us, hl with | [_, _, _, _, _], _ => rfl) fun cdv A outer s H E hr p0 p1 p2 p3 p4 b hown => by
    unfold m_moved
    exact (js_cons (j1_drop (je_call2 (ok_look_at_facts T) (hr.mono (by decide)) pasF (je_var 0 rfl) (je_var 2 rfl))) fun a1 =>
  (js_cons (j1_drop (je_call2 (ok_look_at_facts T) (hr.mono (by decide)) pasF (je_var 0 rfl) (je_var 3 rfl))) fun a5 =>
  (js_cons (j1_set 5 (je_call1 (ok_kind_lasts T) (hr.mono (by decide)) pasF (je_var 0 rfl)) nd_moved) fun a9 =>
  (js_cons (j1_drop (je_call2 (ok_look_at_taken T) (hr.mono (by decide)) pasF (je_var 5 rfl) (je_var 2 rfl))) fun a11 =>
  (js_if1 pi_rt (jt_val (je_at at_q3 (je_var 1 rfl))) (js_ret (je_emp4N T.g_BROKEN T.u_BROKEN))
  (js_cons (j1_setF 6 (jf_dictN rfl T.n_dict (je_at at_q2 (je_var 1 rfl))) nd_moved) fun a18 =>
  (js_cons (j1_setF 7 (jf_thaw 6 tells_D treeB_D (fun b' => (jf_call2 (ok_without_facts T) (hr.mono (by decide)) pasF (je_at at_q0 (je_var 1 rfl)) (je_jf (jf_lc (own := [("fact", 9)]) (ji_list (je_var 2 rfl)) (jg_name 9 (fun _ => nd_moved)) (fun _ e25 => (je_call2 (ok_renamed_fact T) (hr.mono (by decide)) passL (je_var 9 rfl) (je_var 6 rfl))) nd_moved (blkOk_by (N := N_moved) (sc := defScope (top 28)) (by decide +kernel))))))) nd_moved) fun a22 =>
  (js_cons (j1_setF 8 (jf_listU T.n_list (je_at at_q1 (je_var 1 rfl))) nd_moved) fun a31 =>
  (js_cons (j1_forP (Lf := fun (s35 : ((Dic Tx) × (List (Tx × (Tup Tx))) × (List (Tx × (Tup Tx))))) => [.im (rp K p0), .im (rp K p1), .im (rp K p2), .im (rp K p3), .im (rp K p4), .im (rp K a9), .mu (ctD K s35.1), .mu (ctL K s35.2.1), .mu (ctL K s35.2.2), .no, .no]) (ji_list (je_var 3 rfl)) (jg_name 9 (fun _ => nd_moved)) (Wk.s (Wk.s (Wk.s (Wk.s (Wk.s (Wk.s (Wk.s (Wk.s (Wk.s (Wk.s (Wk.s Wk.nil))))))))))) (fun F40 s35 e36 => (js_cons (j1_dropM (jm_callO2_0 (ok_learn_names T) (hr.mono (by decide)) pasF (jp_name 6 rfl) (je_p1 (je_var 9 rfl)))) fun a41 =>
  (js_cons (j1_if (Lf := fun (s51 : ((List (Tx × (Tup Tx))) × (List (Tx × (Tup Tx))))) => [.im (rp K p0), .im (rp K p1), .im (rp K p2), .im (rp K p3), .im (rp K p4), .im (rp K a9), .mu (ctD K a41), .mu (ctL K s51.1), .mu (ctL K s51.2), .im (rp K e36), .no]) (jt_val (je_dget hr.units (jd_val (je_var 5 rfl)) (je_p0 (je_var 9 rfl)))) (js_cons (j1_append 8 (je_var 9 rfl)) fun a52 =>
  (js_nilP (Wk.s (Wk.s (Wk.s (Wk.s (Wk.s (Wk.s (Wk.s (Wk.s (Wk.s (Wk.s (Wk.s Wk.nil))))))))))))) (js_cons (j1_append 7 (je_var 9 rfl)) fun a55 =>
  (js_nilP (Wk.s (Wk.s (Wk.s (Wk.s (Wk.s (Wk.s (Wk.s (Wk.s (Wk.s (Wk.s (Wk.s Wk.nil)))))))))))))) fun s51 =>
  (js_nilP (Wk.s (Wk.s (Wk.s (Wk.s (Wk.s (Wk.s (Wk.s (Wk.s (Wk.s (Wk.n (Wk.s Wk.nil))))))))))))))) pasO) fun s35 =>
  (js_forR (Lf := fun (s58 : (Dic Tx)) => [.im (rp K p0), .im (rp K p1), .im (rp K p2), .im (rp K p3), .im (rp K p4), .im (rp K a9), .mu (ctD K s58), .mu (ctL K s35.2.1), .mu (ctL K s35.2.2), .no, .no]) (wr := id) (fun _ _ h => h) (ji_list (je_var 4 rfl)) (jg_name 10 (fun _ => nd_moved)) (Wk.s (Wk.s (Wk.s (Wk.s (Wk.s (Wk.s (Wk.s (Wk.s (Wk.s (Wk.s (Wk.s Wk.nil))))))))))) (fun F63 s58 e59 => (js_cons (j1_dropM (jm_callO2_0 (ok_learn_names T) (hr.mono (by decide)) pasF (jp_name 6 rfl) (je_co (g := fun (x : (Tx × Tx)) => (show (Tup Tx) from [x.1, x.2] : (Tup Tx))) co_pU (je_var 10 rfl)))) fun a64 =>
  (js_if1N pi_tl (jt_notM (jt_valM (jm_callO2_0 (ok_tell_same T) (hr.mono (by decide)) pasF (jp_name 6 rfl) (je_var 10 rfl)))) (fun s70 => (js_retL (je_emp4N T.g_BROKEN T.u_BROKEN))) (fun s70 =>
  (js_nilL (Wk.s (Wk.s (Wk.s (Wk.s (Wk.s (Wk.s (Wk.s (Wk.s (Wk.s (Wk.s (Wk.n Wk.nil)))))))))))))))) (fun s58 =>
  (js_frz 7 (js_frz 8 (js_ret (je_thaw 6 tells_D treeB_D (fun b' => (je_call3 (ok_settled_pool T) (hr.mono (by decide)) pasF (je_var 7 rfl) (je_var 8 rfl) (je_var 6 rfl)))))))) pasO))))))))))

abbrev N_start_pool : List Str := ["kinds", "facts"]
theorem nd_start_pool : N_start_pool.Nodup := by decide +kernel
theorem ok_start_pool {P : Program} {w : World} {K : Fg} {mg : Str → Option Value} {base : Heap} (T : Fx K mg) : OkF P w K mg base "start_pool" 6 (sp2 K m_start_pool) :=
  mkF2 (N := N_start_pool) T.f_start_pool T.g_start_pool ⟨rfl, rfl, rfl, nd_start_pool, rfl, by decide +kernel, by decide +kernel⟩ (fun _ _ _ _ _ _ us hl => match us, hl with | [_, _], _ => rfl) fun cdv A outer s H E hr p0 p1 b hown => by
    unfold m_start_pool
    exact (js_ret (je_call5 (ok_moved T) (hr.mono (by decide)) pasF (je_var 0 rfl) (je_emp4N T.g_EMPTY T.u_EMPTY) (je_lst jl_nil) (je_var 1 rfl) (je_lst jl_nil)))

abbrev N_stands_for : List Str := ["pool", "name", "pair"]
theorem nd_stands_for : N_stands_for.Nodup := by decide +kernel
theorem ok_stands_for {P : Program} {w : World} {K : Fg} {mg : Str → Option Value} {base : Heap} (T : Fx K mg) : OkF P w K mg base "stands_for" 3 (sp2 K m_stands_for) :=
  mkF2 (N := N_stands_for) T.f_stands_for T.g_stands_for ⟨rfl, rfl, rfl, nd_stands_for, rfl, by decide +kernel, by decide +kernel⟩ (fun _ _ _ _ _ _ us hl => match us, hl with | [_, _], _ => rfl) fun cdv A outer s H E hr p0 p1 b hown => by
    unfold m_stands_for
    exact (js_if1 pi_rt (jt_val (je_call1 (ok_is_word T) (hr.mono (by decide)) pasF (je_var 1 rfl))) (js_ret (je_var 1 rfl))
  (js_forR (Lf := fun (s6 : Unit) => [.im (rp K p0), .im (rp K p1), .no]) (wr := id) (fun _ _ h => h) (ji_tup (je_co (g := fun (x : (TupN (Tx × Tx))) => (show (Tup (Tx × Tx)) from x : (Tup (Tx × Tx)))) co_NU (je_at at_q2 (je_var 0 rfl)))) (jg_name 2 (fun _ => nd_stands_for)) (Wk.s (Wk.s (Wk.s Wk.nil))) (fun F11 s6 e7 => (js_if2 (jt_cmp op_eq ro_eqT (je_p0 (je_var 2 rfl)) (je_var 1 rfl)) (js_retL (je_p1 (je_var 2 rfl))) (js_nilL (Wk.s (Wk.s (Wk.n Wk.nil)))))) (fun s6 =>
  (js_raise takF rfl T.g_NoName T.x_NoName)) pasO))

abbrev N_pool_text : List Str := ["pool", "pairs", "pair"]
theorem nd_pool_text : N_pool_text.Nodup := by decide +kernel
theorem ok_pool_text {P : Program} {w : World} {K : Fg} {mg : Str → Option Value} {base : Heap} (T : Fx K mg) : OkF P w K mg base "pool_text" 3 (sp1 K m_pool_text) :=
  mkF1 (N := N_pool_text) T.f_pool_text T.g_pool_text ⟨rfl, rfl, rfl, nd_pool_text, rfl, by decide +kernel, by decide +kernel⟩ (fun _ _ _ _ _ _ us hl => match us, hl with | [_], _ => rfl) fun cdv A outer s H E hr p0 b hown => by
    unfold m_pool_text
    exact (js_if1 pi_rt (jt_val (je_at at_q3 (je_var 0 rfl))) (js_ret je_str)
  (js_cons (j1_set 1 (je_m1 PySem.F.slot_str_join PySem.F.type_str_join mt_join rm_join je_str (je_jf (jf_lf (own := [("pair", 2)]) (ji_tup (je_co (g := fun (x : (TupN (Tx × Tx))) => (show (Tup (Tx × Tx)) from x : (Tup (Tx × Tx)))) co_NU (je_at at_q2 (je_var 0 rfl)))) (jg_name 2 (fun _ => nd_pool_text)) (fun _ e8 => (jt_cmp op_ne ro_neT (je_p0 (je_var 2 rfl)) (je_p1 (je_var 2 rfl)))) (fun _ e8 => (je_bin op_add_str ro_addT (je_bin op_add_str ro_addT (je_p0 (je_var 2 rfl)) je_str) (je_p1 (je_var 2 rfl)))) nd_pool_text (blkOk_by (N := N_pool_text) (sc := defScope (top 31)) (by decide +kernel))))) nd_pool_text) fun a4 =>
  (js_ret (je_bin op_add_str ro_addT (je_bin op_add_str ro_addT (je_bin op_add_str ro_addT (je_bin op_add_str ro_addT (je_call1 (ok_facts_text_v1 T) (hr.mono (by decide)) pasF (je_at at_q0 (je_var 0 rfl))) je_str) (je_call1 (ok_facts_text_v1 T) (hr.mono (by decide)) pasF (je_at at_q1 (je_var 0 rfl)))) je_str) (je_var 1 rfl)))))

abbrev N__law_cell_at : List Str := ["_law_script", "_law_k"]
theorem nd__law_cell_at : N__law_cell_at.Nodup := by decide +kernel
theorem ok__law_cell_at {P : Program} {w : World} {K : Fg} {mg : Str → Option Value} {base : Heap} (T : Fx K mg) : OkF P w K mg base "_law_cell_at" 1 (sp2 K m__law_cell_at) :=
  mkF2 (N := N__law_cell_at) T.f__law_cell_at T.g__law_cell_at ⟨rfl, rfl, rfl, nd__law_cell_at, rfl, by decide +kernel, by decide +kernel⟩ (fun _ _ _ _ _ _ us hl => match us, hl with | [_, _], _ => rfl) fun cdv A outer s H E hr p0 p1 b hown => by
    unfold m__law_cell_at
    exact (js_if1 pi_rt (jt_cmp op_lt ro_lt (je_var 1 rfl) (je_callB call_len_seq ra_lenL T.n_len bt_len (je_var 0 rfl))) (js_ret (je_ix ix_list ro_ixL (je_var 0 rfl) (je_var 1 rfl)))
  (js_ret je_int))

abbrev N__law_mix : List Str := ["_law_cell", "_law_k", "_law_factor"]
theorem nd__law_mix : N__law_mix.Nodup := by decide +kernel
theorem ok__law_mix {P : Program} {w : World} {K : Fg} {mg : Str → Option Value} {base : Heap} (T : Fx K mg) : OkF P w K mg base "_law_mix" 1 (sp2 K m__law_mix) :=
  mkF2 (N := N__law_mix) T.f__law_mix T.g__law_mix ⟨rfl, rfl, rfl, nd__law_mix, rfl, by decide +kernel, by decide +kernel⟩ (fun _ _ _ _ _ _ us hl => match us, hl with | [_, _], _ => rfl) fun cdv A outer s H E hr p0 p1 b hown => by
    unfold m__law_mix
    exact (js_cons (j1_set 2 (je_ix ix_list ro_ixL (je_lst (jl_cons je_int (jl_cons je_int (jl_cons je_int (jl_cons je_int (jl_cons je_int (jl_cons je_int (jl_cons je_int jl_nil)))))))) (je_bin op_mod ro_mod (je_var 1 rfl) je_int)) nd__law_mix) fun a1 =>
  (js_ret (je_bin op_mod ro_mod (je_bin op_mul ro_mul (je_bin op_add ro_add (je_bin op_mod ro_mod (je_var 0 rfl) je_int) (je_bin op_mul ro_mul je_int (je_var 1 rfl))) (je_var 2 rfl)) je_int)))

abbrev N__law_names : List Str := ["_law_cell", "_law_many", "_law_firsts", "_law_rest", "_law_number", "_law_start", "_law_tail", "_law_size", "_law_at", "_law_k", "_law_sign", "_law_j"]
theorem nd__law_names : N__law_names.Nodup := by decide +kernel
theorem ok__law_names {P : Program} {w : World} {K : Fg} {mg : Str → Option Value} {base : Heap} (T : Fx K mg) : OkF P w K mg base "_law_names" 2 (sp3 K m__law_names) :=
  mkF3 (N := N__law_names) T.f__law_names T.g__law_names ⟨rfl, rfl, rfl, nd__law_names, rfl, by decide +kernel, by decide +kernel⟩ (fun _ _ _ _ _ _ us hl => match us, hl with | [_, _, _], _ => rfl) fun cdv A outer s H E hr p0 p1 p2 b hown => by
    unfold m__law_names
    exact (js_cons (j1_set 3 je_str nd__law_names) fun a1 =>
  (js_cons (j1_set 4 (je_call2 (ok__law_mix T) (hr.mono (by decide)) pasF (je_var 0 rfl) je_int) nd__law_names) fun a2 =>
  (js_cons (j1_set 5 (je_bin op_mod ro_mod (je_bin op_fdiv ro_div (je_var 4 rfl) je_int) (je_callB call_len_str ra_lenS T.n_len bt_len (je_var 2 rfl))) nd__law_names) fun a5 =>
  (js_cons (j1_set 6 (je_m1 PySem.F.slot_str_join PySem.F.type_str_join mt_join rm_join je_str (je_jf (jf_lc (own := [("_law_j", 11)]) (ji_range1 T.n_range je_int) (jg_name 11 (fun _ => nd__law_names)) (fun _ e13 => (je_ix ix_str ro_ixS (je_var 3 rfl) (je_bin op_mod ro_mod (je_bin op_add ro_add (je_bin op_fdiv ro_div (je_var 4 rfl) (je_bin op_add ro_add (je_var 11 rfl) je_int)) (je_bin op_mul ro_mul (je_var 11 rfl) (je_var 11 rfl))) je_int))) nd__law_names (blkOk_by (N := N__law_names) (sc := defScope (top 35)) (by decide +kernel))))) nd__law_names) fun a11 =>
  (js_if1 pi_rt (jt_cmp op_eq ro_eqI (je_bin op_mod ro_mod (je_var 4 rfl) je_int) je_int) (js_ret (je_jf (jf_lc (own := [("_law_k", 9)]) (ji_range1 T.n_range (je_var 1 rfl)) (jg_name 9 (fun _ => nd__law_names)) (fun _ e35 => (je_bin op_add_str ro_addT (je_ix ix_str ro_ixS (je_var 2 rfl) (je_var 5 rfl)) (je_slS (je_var 6 rfl) jo_no (jo_at (je_var 9 rfl))))) nd__law_names (blkOk_by (N := N__law_names) (sc := defScope (top 35)) (by decide +kernel)))))
  (js_if1 pi_rt (jt_cmp op_eq ro_eqI (je_bin op_mod ro_mod (je_var 4 rfl) je_int) je_int) (js_cons (j1_set 7 (je_bin op_mod ro_mod (je_bin op_fdiv ro_div (je_var 4 rfl) je_int) je_int) nd__law_names) fun a50 =>
  (js_ret (je_jf (jf_lc (own := [("_law_k", 9)]) (ji_range1 T.n_range (je_var 1 rfl)) (jg_name 9 (fun _ => nd__law_names)) (fun _ e56 => (je_bin op_add_str ro_addT (je_ix ix_str ro_ixS (je_var 2 rfl) (je_bin op_mod ro_mod (je_bin op_add ro_add (je_var 5 rfl) (je_var 9 rfl)) (je_callB call_len_str ra_lenS T.n_len bt_len (je_var 2 rfl)))) (je_slS (je_var 6 rfl) jo_no (jo_at (je_var 7 rfl))))) nd__law_names (blkOk_by (N := N__law_names) (sc := defScope (top 35)) (by decide +kernel))))))
  (js_cons (j1_set 7 (je_bin op_mod ro_mod (je_bin op_fdiv ro_div (je_var 4 rfl) je_int) je_int) nd__law_names) fun a71 =>
  (js_cons (j1_set 8 (je_bin op_mod ro_mod (je_bin op_fdiv ro_div (je_var 4 rfl) je_int) (je_bin op_add ro_add (je_var 7 rfl) je_int)) nd__law_names) fun a76 =>
  (js_cons (j1_setF 3 (jf_lc (own := [("_law_k", 9)]) (ji_range1 T.n_range (je_var 1 rfl)) (jg_name 9 (fun _ => nd__law_names)) (fun _ e85 => (je_ix ix_str ro_ixS (je_var 3 rfl) (je_bin op_mod ro_mod (je_bin op_add ro_add (je_bin op_fdiv ro_div (je_var 4 rfl) je_int) (je_var 9 rfl)) je_int))) nd__law_names (blkOk_by (N := N__law_names) (sc := defScope (top 35)) (by decide +kernel))) nd__law_names) fun a83 =>
  (js_frz 3 (js_ret (je_jf (jf_lc (own := [("_law_sign", 10)]) (ji_list (je_var 3 rfl)) (jg_name 10 (fun _ => nd__law_names)) (fun _ e95 => (je_bin op_add_str ro_addT (je_bin op_add_str ro_addT (je_bin op_add_str ro_addT (je_ix ix_str ro_ixS (je_var 2 rfl) (je_var 5 rfl)) (je_slS (je_var 6 rfl) jo_no (jo_at (je_var 8 rfl)))) (je_var 10 rfl)) (je_slS (je_var 6 rfl) (jo_at (je_var 8 rfl)) (jo_at (je_var 7 rfl))))) nd__law_names (blkOk_by (N := N__law_names) (sc := defScope (top 35)) (by decide +kernel)))))))))))))))

abbrev N__law_titles : List Str := ["_law_cell", "_law_many"]
theorem nd__law_titles : N__law_titles.Nodup := by decide +kernel
theorem ok__law_titles {P : Program} {w : World} {K : Fg} {mg : Str → Option Value} {base : Heap} (T : Fx K mg) : OkF P w K mg base "_law_titles" 3 (sp2 K m__law_titles) :=
  mkF2 (N := N__law_titles) T.f__law_titles T.g__law_titles ⟨rfl, rfl, rfl, nd__law_titles, rfl, by decide +kernel, by decide +kernel⟩ (fun _ _ _ _ _ _ us hl => match us, hl with | [_, _], _ => rfl) fun cdv A outer s H E hr p0 p1 b hown => by
    unfold m__law_titles
    exact (js_ret (je_call3 (ok__law_names T) (hr.mono (by decide)) pasF (je_var 0 rfl) (je_var 1 rfl) je_str))

abbrev N__law_opens : List Str := ["_law_cell", "_law_many"]
theorem nd__law_opens : N__law_opens.Nodup := by decide +kernel
theorem ok__law_opens {P : Program} {w : World} {K : Fg} {mg : Str → Option Value} {base : Heap} (T : Fx K mg) : OkF P w K mg base "_law_opens" 3 (sp2 K m__law_opens) :=
  mkF2 (N := N__law_opens) T.f__law_opens T.g__law_opens ⟨rfl, rfl, rfl, nd__law_opens, rfl, by decide +kernel, by decide +kernel⟩ (fun _ _ _ _ _ _ us hl => match us, hl with | [_, _], _ => rfl) fun cdv A outer s H E hr p0 p1 b hown => by
    unfold m__law_opens
    exact (js_ret (je_call3 (ok__law_names T) (hr.mono (by decide)) pasF (je_var 0 rfl) (je_var 1 rfl) je_str))

abbrev N__law_words : List Str := ["_law_cell", "_law_many"]
theorem nd__law_words : N__law_words.Nodup := by decide +kernel
theorem ok__law_words {P : Program} {w : World} {K : Fg} {mg : Str → Option Value} {base : Heap} (T : Fx K mg) : OkF P w K mg base "_law_words" 3 (sp2 K m__law_words) :=
  mkF2 (N := N__law_words) T.f__law_words T.g__law_words ⟨rfl, rfl, rfl, nd__law_words, rfl, by decide +kernel, by decide +kernel⟩ (fun _ _ _ _ _ _ us hl => match us, hl with | [_, _], _ => rfl) fun cdv A outer s H E hr p0 p1 b hown => by
    unfold m__law_words
    exact (js_ret (je_call3 (ok__law_names T) (hr.mono (by decide)) pasF (je_var 0 rfl) (je_var 1 rfl) je_str))

abbrev N__law_kinds : List Str := ["_law_cell", "_law_sizes", "_law_titles_here", "_law_number", "_law_rows", "_law_flags", "_law_k"]
theorem nd__law_kinds : N__law_kinds.Nodup := by decide +kernel
theorem ok__law_kinds {P : Program} {w : World} {K : Fg} {mg : Str → Option Value} {base : Heap} (T : Fx K mg) : OkF P w K mg base "_law_kinds" 4 (sp2 K m__law_kinds) :=
  mkF2 (N := N__law_kinds) T.f__law_kinds T.g__law_kinds ⟨rfl, rfl, rfl, nd__law_kinds, rfl, by decide +kernel, by decide +kernel⟩ (fun _ _ _ _ _ _ us hl => match us, hl with | [_, _], _ => rfl) fun cdv A outer s H E hr p0 p1 b hown => by
    unfold m__law_kinds
    exact (js_cons (j1_set 2 (je_call2 (ok__law_titles T) (hr.mono (by decide)) pasF (je_var 0 rfl) je_int) nd__law_kinds) fun a1 =>
  (js_cons (j1_set 3 (je_call2 (ok__law_mix T) (hr.mono (by decide)) pasF (je_var 0 rfl) je_int) nd__law_kinds) fun a4 =>
  (js_cons (j1_set 4 (je_lst (jl_cons (je_lst (jl_cons je_bl (jl_cons je_bl (jl_cons je_bl (jl_cons je_bl jl_nil))))) (jl_cons (je_lst (jl_cons je_bl (jl_cons je_bl (jl_cons je_bl (jl_cons je_bl jl_nil))))) jl_nil))) nd__law_kinds) fun a7 =>
  (js_cons (j1_set 4 (je_bin op_catQ ro_catL (je_var 4 rfl) (je_lst (jl_cons (je_lst (jl_cons je_bl (jl_cons je_bl (jl_cons je_bl (jl_cons je_bl jl_nil))))) (jl_cons (je_lst (jl_cons je_bl (jl_cons je_bl (jl_cons je_bl (jl_cons je_bl jl_nil))))) jl_nil)))) nd__law_kinds) fun a28 =>
  (js_cons (j1_set 5 (je_ix ix_list ro_ixL (je_var 4 rfl) (je_bin op_mod ro_mod (je_var 3 rfl) je_int)) nd__law_kinds) fun a51 =>
  (js_ret (je_jf (jf_lc (own := [("_law_k", 6)]) (ji_range1 T.n_range je_int) (jg_name 6 (fun _ => nd__law_kinds)) (fun _ e57 => (je_tri (je_ix ix_list ro_ixL (je_var 2 rfl) (je_var 6 rfl)) (je_ix ix_list ro_ixL (je_var 1 rfl) (je_bin op_mod ro_mod (je_bin op_fdiv ro_div (je_var 3 rfl) (je_bin op_add ro_add (je_bin op_mul ro_mul je_int (je_var 6 rfl)) je_int)) (je_callB call_len_seq ra_lenL T.n_len bt_len (je_var 1 rfl)))) (je_ix ix_list ro_ixL (je_var 5 rfl) (je_var 6 rfl)))) nd__law_kinds (blkOk_by (N := N__law_kinds) (sc := defScope (top 39)) (by decide +kernel))))))))))

abbrev N__law_fact : List Str := ["_law_kinds_here", "_law_names_here", "_law_cell", "_law_number", "_law_kind", "_law_args", "_law_k"]
theorem nd__law_fact : N__law_fact.Nodup := by decide +kernel
theorem ok__law_fact {P : Program} {w : World} {K : Fg} {mg : Str → Option Value} {base : Heap} (T : Fx K mg) : OkF P w K mg base "_law_fact" 2 (sp3 K m__law_fact) :=
  mkF3 (N := N__law_fact) T.f__law_fact T.g__law_fact ⟨rfl, rfl, rfl, nd__law_fact, rfl, by decide +kernel, by decide +kernel⟩ (fun _ _ _ _ _ _ us hl => match us, hl with | [_, _, _], _ => rfl) fun cdv A outer s H E hr p0 p1 p2 b hown => by
    unfold m__law_fact
    exact (js_cons (j1_set 3 (je_call2 (ok__law_mix T) (hr.mono (by decide)) pasF (je_var 2 rfl) je_int) nd__law_fact) fun a1 =>
  (js_cons (j1_set 4 (je_ix ix_list ro_ixL (je_var 0 rfl) (je_bin op_mod ro_mod (je_var 3 rfl) (je_callB call_len_seq ra_lenL T.n_len bt_len (je_var 0 rfl)))) nd__law_fact) fun a4 =>
  (js_cons (j1_set 3 (je_bin op_fdiv ro_div (je_var 3 rfl) je_int) nd__law_fact) fun a10 =>
  (js_cons (j1_setF 5 (jf_lst jl_nil) nd__law_fact) fun a13 =>
  (js_cons (j1_forP (Lf := fun (s17 : (Int × (List Tx))) => [.im (rp K p0), .im (rp K p1), .im (rp K p2), .im (rp K s17.1), .im (rp K a4), .mu (ctL K s17.2), .no]) (ji_range1 T.n_range (je_t1 (je_var 4 rfl))) (jg_name 6 (fun _ => nd__law_fact)) (Wk.s (Wk.s (Wk.s (Wk.s (Wk.s (Wk.s (Wk.s Wk.nil))))))) (fun F22 s17 e18 => (js_cons (j1_append 5 (je_ix ix_list ro_ixL (je_var 1 rfl) (je_bin op_mod ro_mod (je_var 3 rfl) (je_callB call_len_seq ra_lenL T.n_len bt_len (je_var 1 rfl))))) fun a23 =>
  (js_cons (j1_set 3 (je_bin op_add ro_add (je_bin op_fdiv ro_div (je_var 3 rfl) (je_callB call_len_seq ra_lenL T.n_len bt_len (je_var 1 rfl))) (je_bin op_mul ro_mul je_int (je_var 6 rfl))) nd__law_fact) fun a31 =>
  (js_nilP (Wk.s (Wk.s (Wk.s (Wk.s (Wk.s (Wk.s (Wk.n Wk.nil))))))))))) pasO) fun s17 =>
  (js_frz 5 (js_ret (je_pair (je_t0 (je_var 4 rfl)) (je_callTy call_tuple_of ra_tupL T.n_tuple bt_tuple (je_var 5 rfl))))))))))

abbrev N__law_known : List Str := ["_law_known_here", "_law_names_here", "_law_due_here", "_law_name"]
theorem nd__law_known : N__law_known.Nodup := by decide +kernel
theorem ok__law_known {P : Program} {w : World} {K : Fg} {mg : Str → Option Value} {base : Heap} (T : Fx K mg) : OkF P w K mg base "_law_known" 1 (sp2 K m__law_known) :=
  mkF2 (N := N__law_known) T.f__law_known T.g__law_known ⟨rfl, rfl, rfl, nd__law_known, rfl, by decide +kernel, by decide +kernel⟩ (fun _ _ _ _ _ _ us hl => match us, hl with | [_, _], _ => rfl) fun cdv A outer s H E hr p0 p1 b hown => by
    unfold m__law_known
    exact (js_cons (j1_setF 2 (jf_list T.n_list (je_var 0 rfl)) nd__law_known) fun a1 =>
  (js_cons (j1_forP (Lf := fun (s3 : (List Tx)) => [.im (rp K p0), .im (rp K p1), .mu (ctL K s3), .no]) (ji_tup (je_var 1 rfl)) (jg_name 3 (fun _ => nd__law_known)) (Wk.s (Wk.s (Wk.s (Wk.s Wk.nil)))) (fun F8 s3 e4 => (js_cons (j1_if (Lf := fun (s16 : (List Tx)) => [.im (rp K p0), .im (rp K p1), .mu (ctL K s16), .im (rp K e4)]) (jt_thawG 2 tells_L (fun b' => (jw_jt (jw_and (jt_val (je_m0 PySem.F.slot_str_isupper PySem.F.type_str_isupper mt_isupper rm_isupper (je_ix ix_str ro_ixS (je_var 3 rfl) je_int))) (jw_and1 (jt_cmp op_notIn_seq ro_notInL (je_var 3 rfl) (je_var 2 rfl))))))) (js_cons (j1_append 2 (je_var 3 rfl)) fun a17 =>
  (js_nilP (Wk.s (Wk.s (Wk.s (Wk.s Wk.nil)))))) (js_nilP (Wk.s (Wk.s (Wk.s (Wk.s Wk.nil)))))) fun s16 =>
  (js_nilP (Wk.s (Wk.s (Wk.s (Wk.n Wk.nil))))))) pasO) fun s3 =>
  (js_frz 2 (js_ret (je_var 2 rfl)))))

abbrev N__law_lasts : List Str := ["_law_kinds_here", "_law_fact_here", "_law_kind"]
theorem nd__law_lasts : N__law_lasts.Nodup := by decide +kernel
theorem ok__law_lasts {P : Program} {w : World} {K : Fg} {mg : Str → Option Value} {base : Heap} (T : Fx K mg) : OkF P w K mg base "_law_lasts" 1 (sp2 K m__law_lasts) :=
  mkF2 (N := N__law_lasts) T.f__law_lasts T.g__law_lasts ⟨rfl, rfl, rfl, nd__law_lasts, rfl, by decide +kernel, by decide +kernel⟩ (fun _ _ _ _ _ _ us hl => match us, hl with | [_, _], _ => rfl) fun cdv A outer s H E hr p0 p1 b hown => by
    unfold m__law_lasts
    exact (js_forR (Lf := fun (s1 : Unit) => [.im (rp K p0), .im (rp K p1), .no]) (wr := id) (fun _ _ h => h) (ji_list (je_var 0 rfl)) (jg_name 2 (fun _ => nd__law_lasts)) (Wk.s (Wk.s (Wk.s Wk.nil))) (fun F6 s1 e2 => (js_if2 (jt_cmp op_eq ro_eqT (je_t0 (je_var 2 rfl)) (je_p0 (je_var 1 rfl))) (js_retL (je_t2 (je_var 2 rfl))) (js_nilL (Wk.s (Wk.s (Wk.n Wk.nil)))))) (fun s1 =>
  (js_ret je_bl)) pasO)

abbrev N__law_stand : List Str := ["_law_classes", "_law_name", "_law_one", "_law_words_here", "_law_word"]
theorem nd__law_stand : N__law_stand.Nodup := by decide +kernel
theorem ok__law_stand {P : Program} {w : World} {K : Fg} {mg : Str → Option Value} {base : Heap} (T : Fx K mg) : OkF P w K mg base "_law_stand" 1 (sp2 K m__law_stand) :=
  mkF2 (N := N__law_stand) T.f__law_stand T.g__law_stand ⟨rfl, rfl, rfl, nd__law_stand, rfl, by decide +kernel, by decide +kernel⟩ (fun _ _ _ _ _ _ us hl => match us, hl with | [_, _], _ => rfl) fun cdv A outer s H E hr p0 p1 b hown => by
    unfold m__law_stand
    exact (js_forR (Lf := fun (s1 : Unit) => [.im (rp K p0), .im (rp K p1), .no, .no, .no]) (wr := id) (fun _ _ h => h) (ji_list (je_var 0 rfl)) (jg_name 2 (fun _ => nd__law_stand)) (Wk.s (Wk.s (Wk.s (Wk.s (Wk.s Wk.nil))))) (fun F6 s1 e2 => (js_if2 (jt_cmp op_in_seq ro_inL (je_var 1 rfl) (je_var 2 rfl)) (js_cons (j1_setLf 3 (own := [("_law_word", 4)]) (ji_list (je_var 2 rfl)) (jg_name 4 (fun _ => nd__law_stand)) (fun _ e11 => (jt_not (jt_val (je_m0 PySem.F.slot_str_isupper PySem.F.type_str_isupper mt_isupper rm_isupper (je_ix ix_str ro_ixS (je_var 4 rfl) je_int))))) (fun _ e11 => (je_var 4 rfl)) nd__law_stand (blkOk_by (N := N__law_stand) (sc := defScope (top 43)) (by decide +kernel))) fun a10 =>
  (js_if1 pi_tl (jt_cmp op_gt ro_gt (je_lenM 3 T.n_len) je_int) (js_retL (je_ixM 3 je_int))
  (js_retL (je_callB (call_minT hr.u65) ra_minT T.n_min bt_min (je_var 2 rfl))))) (js_nilL (Wk.s (Wk.s (Wk.n (Wk.s (Wk.s Wk.nil)))))))) (fun s1 =>
  (js_ret (je_var 1 rfl))) pasO)

abbrev N__law_merged : List Str := ["_law_classes", "_law_pair", "_law_both", "_law_rest", "_law_one", "_law_name"]
theorem nd__law_merged : N__law_merged.Nodup := by decide +kernel
theorem ok__law_merged {P : Program} {w : World} {K : Fg} {mg : Str → Option Value} {base : Heap} (T : Fx K mg) : OkF P w K mg base "_law_merged" 1 (sp2 K m__law_merged) :=
  mkF2 (N := N__law_merged) T.f__law_merged T.g__law_merged ⟨rfl, rfl, rfl, nd__law_merged, rfl, by decide +kernel, by decide +kernel⟩ (fun _ _ _ _ _ _ us hl => match us, hl with | [_, _], _ => rfl) fun cdv A outer s H E hr p0 p1 b hown => by
    unfold m__law_merged
    exact (js_cons (j1_set 2 (je_lst (jl_cons (je_p0 (je_var 1 rfl)) (jl_cons (je_p1 (je_var 1 rfl)) jl_nil))) nd__law_merged) fun a1 =>
  (js_cons (j1_setF 3 (jf_lst jl_nil) nd__law_merged) fun a10 =>
  (js_cons (j1_forP (Lf := fun (s11 : ((List Tx) × (List (List Tx)))) => [.im (rp K p0), .im (rp K p1), .im (rp K s11.1), .mu (ctL K s11.2), .no, .no]) (ji_list (je_var 0 rfl)) (jg_name 4 (fun _ => nd__law_merged)) (Wk.s (Wk.s (Wk.s (Wk.s (Wk.s (Wk.s Wk.nil)))))) (fun F16 s11 e12 => (js_cons (j1_if (Lf := fun (s27 : ((List Tx) × (List (List Tx)))) => [.im (rp K p0), .im (rp K p1), .im (rp K s27.1), .mu (ctL K s27.2), .im (rp K e12), .no]) (jw_jt (jw_or (jt_cmp op_in_seq ro_inL (je_p0 (je_var 1 rfl)) (je_var 4 rfl)) (jw_or1 (jt_cmp op_in_seq ro_inL (je_p1 (je_var 1 rfl)) (je_var 4 rfl))))) (js_cons (j1_set 2 (je_bin op_catQ ro_catL (je_var 2 rfl) (je_jf (jf_lf (own := [("_law_name", 5)]) (ji_list (je_var 4 rfl)) (jg_name 5 (fun _ => nd__law_merged)) (fun _ e29 => (jt_cmp op_notIn_seq ro_notInL (je_var 5 rfl) (je_var 2 rfl))) (fun _ e29 => (je_var 5 rfl)) nd__law_merged (blkOk_by (N := N__law_merged) (sc := defScope (top 44)) (by decide +kernel))))) nd__law_merged) fun a28 =>
  (js_nilP (Wk.s (Wk.s (Wk.s (Wk.s (Wk.s (Wk.s Wk.nil)))))))) (js_cons (j1_append 3 (je_var 4 rfl)) fun a35 =>
  (js_nilP (Wk.s (Wk.s (Wk.s (Wk.s (Wk.s (Wk.s Wk.nil))))))))) fun s27 =>
  (js_nilP (Wk.s (Wk.s (Wk.s (Wk.s (Wk.n (Wk.s Wk.nil))))))))) pasO) fun s11 =>
  (js_frz 3 (js_ret (je_bin op_catQ ro_catL (je_var 3 rfl) (je_lst (jl_cons (je_var 2 rfl) jl_nil))))))))

abbrev N__law_torn : List Str := ["_law_classes", "_law_one", "_law_word"]
theorem nd__law_torn : N__law_torn.Nodup := by decide +kernel
theorem ok__law_torn {P : Program} {w : World} {K : Fg} {mg : Str → Option Value} {base : Heap} (T : Fx K mg) : OkF P w K mg base "_law_torn" 1 (sp1 K m__law_torn) :=
  mkF1 (N := N__law_torn) T.f__law_torn T.g__law_torn ⟨rfl, rfl, rfl, nd__law_torn, rfl, by decide +kernel, by decide +kernel⟩ (fun _ _ _ _ _ _ us hl => match us, hl with | [_], _ => rfl) fun cdv A outer s H E hr p0 b hown => by
    unfold m__law_torn
    exact (js_forR (Lf := fun (s1 : Unit) => [.im (rp K p0), .no, .no]) (wr := id) (fun _ _ h => h) (ji_list (je_var 0 rfl)) (jg_name 1 (fun _ => nd__law_torn)) (Wk.s (Wk.s (Wk.s Wk.nil))) (fun F6 s1 e2 => (js_if2 (jt_cmp op_gt ro_gt (je_lenSet T.n_len T.n_set (je_jf (jf_lf (own := [("_law_word", 2)]) (ji_list (je_var 1 rfl)) (jg_name 2 (fun _ => nd__law_torn)) (fun _ e7 => (jt_not (jt_val (je_m0 PySem.F.slot_str_isupper PySem.F.type_str_isupper mt_isupper rm_isupper (je_ix ix_str ro_ixS (je_var 2 rfl) je_int))))) (fun _ e7 => (je_var 2 rfl)) nd__law_torn (blkOk_by (N := N__law_torn) (sc := defScope (top 45)) (by decide +kernel))))) je_int) (js_retL je_bl) (js_nilL (Wk.s (Wk.n (Wk.s Wk.nil)))))) (fun s1 =>
  (js_ret je_bl)) pasO)

abbrev N__law_now : List Str := ["_law_classes", "_law_fact_here", "_law_name"]
theorem nd__law_now : N__law_now.Nodup := by decide +kernel
theorem ok__law_now {P : Program} {w : World} {K : Fg} {mg : Str → Option Value} {base : Heap} (T : Fx K mg) : OkF P w K mg base "_law_now" 2 (sp2 K m__law_now) :=
  mkF2 (N := N__law_now) T.f__law_now T.g__law_now ⟨rfl, rfl, rfl, nd__law_now, rfl, by decide +kernel, by decide +kernel⟩ (fun _ _ _ _ _ _ us hl => match us, hl with | [_, _], _ => rfl) fun cdv A outer s H E hr p0 p1 b hown => by
    unfold m__law_now
    exact (js_ret (je_pair (je_p0 (je_var 1 rfl)) (je_callTy call_tuple_of ra_tupL T.n_tuple bt_tuple (je_jf (jf_lc (own := [("_law_name", 2)]) (ji_tup (je_p1 (je_var 1 rfl))) (jg_name 2 (fun _ => nd__law_now)) (fun _ e5 => (je_call2 (ok__law_stand T) (hr.mono (by decide)) passL (je_var 0 rfl) (je_var 2 rfl))) nd__law_now (blkOk_by (N := N__law_now) (sc := defScope (top 46)) (by decide +kernel)))))))

abbrev N__law_pool : List Str := ["_law_bag", "_law_once", "_law_classes", "_law_known_here", "_law_kept", "_law_fact_here", "_law_same", "_law_facts", "_law_now_here", "_law_name"]
theorem nd__law_pool : N__law_pool.Nodup := by decide +kernel
theorem ok__law_pool {P : Program} {w : World} {K : Fg} {mg : Str → Option Value} {base : Heap} (T : Fx K mg) : OkF P w K mg base "_law_pool" 3 (sp4 K m__law_pool) :=
  mkF4 (N := N__law_pool) T.f__law_pool T.g__law_pool ⟨rfl, rfl, rfl, nd__law_pool, rfl, by decide +kernel, by decide +kernel⟩ (fun _ _ _ _ _ _ us hl => match us, hl with | [_, _, _, _], _ => rfl) fun cdv A outer s H E hr p0 p1 p2 p3 b hown => by
    unfold m__law_pool
    exact (js_if1 pi_rt (jt_val (je_call1 (ok__law_torn T) (hr.mono (by decide)) pasF (je_var 2 rfl))) (js_ret (je_quad (je_tupU jl_nil) (je_tupU jl_nil) (je_tupNN jl_nil) je_bl))
  (js_cons (j1_setF 4 (jf_lst jl_nil) nd__law_pool) fun a10 =>
  (js_cons (j1_forP (Lf := fun (s11 : (List (Tx × (Tup Tx)))) => [.im (rp K p0), .im (rp K p1), .im (rp K p2), .im (rp K p3), .mu (ctL K s11), .no, .no, .no, .no, .no]) (ji_list (je_var 1 rfl)) (jg_name 5 (fun _ => nd__law_pool)) (Wk.s (Wk.s (Wk.s (Wk.s (Wk.s (Wk.s (Wk.s (Wk.s (Wk.s (Wk.s Wk.nil)))))))))) (fun F16 s11 e12 => (js_cons (j1_set 8 (je_call2 (ok__law_now T) (hr.mono (by decide)) pasF (je_var 2 rfl) (je_var 5 rfl)) nd__law_pool) fun a17 =>
  (js_cons (j1_if (Lf := fun (s24 : (List (Tx × (Tup Tx)))) => [.im (rp K p0), .im (rp K p1), .im (rp K p2), .im (rp K p3), .mu (ctL K s24), .im (rp K e12), .no, .no, .im (rp K a17), .no]) (jt_thawG 4 tells_L (fun b' => (jt_cmp (op_notInD hr.u65) ro_notInDM (je_var 8 rfl) (je_var 4 rfl)))) (js_cons (j1_append 4 (je_var 8 rfl)) fun a25 =>
  (js_nilP (Wk.s (Wk.s (Wk.s (Wk.s (Wk.s (Wk.s (Wk.s (Wk.s (Wk.s (Wk.s Wk.nil)))))))))))) (js_nilP (Wk.s (Wk.s (Wk.s (Wk.s (Wk.s (Wk.s (Wk.s (Wk.s (Wk.s (Wk.s Wk.nil)))))))))))) fun s24 =>
  (js_nilP (Wk.s (Wk.s (Wk.s (Wk.s (Wk.s (Wk.n (Wk.s (Wk.s (Wk.n (Wk.s Wk.nil)))))))))))))) pasO) fun s11 =>
  (js_cons (j1_setLc 6 (own := [("_law_name", 9)]) (ji_list (je_var 3 rfl)) (jg_name 9 (fun _ => nd__law_pool)) (fun _ e29 => (je_pair (je_var 9 rfl) (je_call2 (ok__law_stand T) (hr.mono (by decide)) passL (je_var 2 rfl) (je_var 9 rfl)))) nd__law_pool (blkOk_by (N := N__law_pool) (sc := defScope (top 47)) (by decide +kernel))) fun a28 =>
  (js_cons (j1_set 7 (je_jf (jf_sorted (α := (Tx × (Tup Tx))) hr.u70 T.n_sorted (je_jf (jf_lc (own := [("_law_fact_here", 5)]) (ji_list (je_var 0 rfl)) (jg_name 5 (fun _ => nd__law_pool)) (fun _ e36 => (je_call2 (ok__law_now T) (hr.mono (by decide)) passL (je_var 2 rfl) (je_var 5 rfl))) nd__law_pool (blkOk_by (N := N__law_pool) (sc := defScope (top 47)) (by decide +kernel)))))) nd__law_pool) fun a35 =>
  (js_frz 4 (js_frz 6 (js_ret (je_quad (je_callTy call_tuple_of ra_tupL T.n_tuple bt_tuple (je_var 7 rfl)) (je_callTy call_tuple_of ra_tupL T.n_tuple bt_tuple (je_jf (jf_sorted (α := (Tx × (Tup Tx))) hr.u70 T.n_sorted (je_var 4 rfl)))) (je_tupN T.n_tuple (je_jf (jf_sorted (α := (Tx × Tx)) hr.u70 T.n_sorted (je_var 6 rfl)))) je_bl)))))))))

abbrev N__law_is_pool : List Str := ["_law_found", "_law_due_here"]
theorem nd__law_is_pool : N__law_is_pool.Nodup := by decide +kernel
theorem ok__law_is_pool {P : Program} {w : World} {K : Fg} {mg : Str → Option Value} {base : Heap} (T : Fx K mg) : OkF P w K mg base "_law_is_pool" 1 (sp2 K m__law_is_pool) :=
  mkF2 (N := N__law_is_pool) T.f__law_is_pool T.g__law_is_pool ⟨rfl, rfl, rfl, nd__law_is_pool, rfl, by decide +kernel, by decide +kernel⟩ (fun _ _ _ _ _ _ us hl => match us, hl with | [_, _], _ => rfl) fun cdv A outer s H E hr p0 p1 b hown => by
    unfold m__law_is_pool
    exact (js_if1 pi_rt (jw_jt (jw_or (jt_not (jt_val (je_isiB (tn := "tuple") tyx_T4 (by decide +kernel) T.n_isinstance T.n_tuple bt_tuple (je_var 0 rfl)))) (jw_or (jt_cmp op_ne ro_neI (je_callB call_len_seq ra_lenT4 T.n_len bt_len (je_var 0 rfl)) je_int) (jw_or1 (jt_not (jt_val (je_isiB (tn := "bool") tyx_bool (by decide +kernel) T.n_isinstance T.n_bool bt_bool (je_at at_q3 (je_var 0 rfl))))))))) (js_ret je_bl)
  (js_ret (je_cmp (op_eqA (α := (T4 (Tup (Tx × (Tup Tx))) (Tup (Tx × (Tup Tx))) (TupN (Tx × Tx)) Bool)) hr.units) ro_eqA (je_var 0 rfl) (je_var 1 rfl))))

abbrev N__law_fact_text : List Str := ["_law_fact_here"]
theorem nd__law_fact_text : N__law_fact_text.Nodup := by decide +kernel
theorem ok__law_fact_text {P : Program} {w : World} {K : Fg} {mg : Str → Option Value} {base : Heap} (T : Fx K mg) : OkF P w K mg base "_law_fact_text" 1 (sp1 K m__law_fact_text) :=
  mkF1 (N := N__law_fact_text) T.f__law_fact_text T.g__law_fact_text ⟨rfl, rfl, rfl, nd__law_fact_text, rfl, by decide +kernel, by decide +kernel⟩ (fun _ _ _ _ _ _ us hl => match us, hl with | [_], _ => rfl) fun cdv A outer s H E hr p0 b hown => by
    unfold m__law_fact_text
    exact (js_if1 pi_rt (jt_cmp op_eq ro_eqI (je_callB call_len_seq ra_lenU T.n_len bt_len (je_p1 (je_var 0 rfl))) je_int) (js_ret (je_p0 (je_var 0 rfl)))
  (js_ret (je_bin op_add_str ro_addT (je_bin op_add_str ro_addT (je_bin op_add_str ro_addT (je_p0 (je_var 0 rfl)) je_str) (je_m1 PySem.F.slot_str_join PySem.F.type_str_join mt_join rm_joinU je_str (je_p1 (je_var 0 rfl)))) je_str)))

abbrev N__law_pairs : List Str := ["_law_names_here", "_law_way", "_law_cells", "_law_some", "_law_rows", "_law_cell", "_law_number", "_law_left", "_law_right"]
theorem nd__law_pairs : N__law_pairs.Nodup := by decide +kernel
theorem ok__law_pairs {P : Program} {w : World} {K : Fg} {mg : Str → Option Value} {base : Heap} (T : Fx K mg) : OkF P w K mg base "_law_pairs" 2 (sp3 K m__law_pairs) :=
  mkF3 (N := N__law_pairs) T.f__law_pairs T.g__law_pairs ⟨rfl, rfl, rfl, nd__law_pairs, rfl, by decide +kernel, by decide +kernel⟩ (fun _ _ _ _ _ _ us hl => match us, hl with | [_, _, _], _ => rfl) fun cdv A outer s H E hr p0 p1 p2 b hown => by
    unfold m__law_pairs
    exact (js_cons (j1_set 3 (je_var 0 rfl) nd__law_pairs) fun a1 =>
  (js_cons (j1_if (Lf := fun (s5 : (List Tx)) => [.im (rp K p0), .im (rp K p1), .im (rp K p2), .im (rp K s5), .no, .no, .no, .no, .no]) (jt_cmp op_eq ro_eqI (je_var 1 rfl) je_int) (js_cons (j1_set 3 (je_slL (je_var 0 rfl) jo_no (jo_at je_int)) nd__law_pairs) fun a6 =>
  (js_nilP (Wk.s (Wk.s (Wk.s (Wk.s (Wk.s (Wk.s (Wk.s (Wk.s (Wk.s Wk.nil))))))))))) (js_nilP (Wk.s (Wk.s (Wk.s (Wk.s (Wk.s (Wk.s (Wk.s (Wk.s (Wk.s Wk.nil))))))))))) fun s5 =>
  (js_cons (j1_if (Lf := fun (s14 : (List Tx)) => [.im (rp K p0), .im (rp K p1), .im (rp K p2), .im (rp K s14), .no, .no, .no, .no, .no]) (jt_cmp op_eq ro_eqI (je_var 1 rfl) je_int) (js_cons (j1_set 3 (je_slL (je_var 0 rfl) jo_no (jo_at je_int)) nd__law_pairs) fun a15 =>
  (js_nilP (Wk.s (Wk.s (Wk.s (Wk.s (Wk.s (Wk.s (Wk.s (Wk.s (Wk.s Wk.nil))))))))))) (js_nilP (Wk.s (Wk.s (Wk.s (Wk.s (Wk.s (Wk.s (Wk.s (Wk.s (Wk.s Wk.nil))))))))))) fun s14 =>
  (js_cons (j1_setF 4 (jf_lst jl_nil) nd__law_pairs) fun a20 =>
  (js_cons (j1_forP (Lf := fun (s21 : (List (Tx × Tx))) => [.im (rp K p0), .im (rp K p1), .im (rp K p2), .im (rp K s14), .mu (ctL K s21), .no, .no, .no, .no]) (ji_list (je_var 2 rfl)) (jg_name 5 (fun _ => nd__law_pairs)) (Wk.s (Wk.s (Wk.s (Wk.s (Wk.s (Wk.s (Wk.s (Wk.s (Wk.s Wk.nil))))))))) (fun F26 s21 e22 => (js_cons (j1_set 6 (je_call2 (ok__law_mix T) (hr.mono (by decide)) pasF (je_var 5 rfl) je_int) nd__law_pairs) fun a27 =>
  (js_cons (j1_set 7 (je_ix ix_list ro_ixL (je_var 0 rfl) (je_bin op_mod ro_mod (je_var 6 rfl) je_int)) nd__law_pairs) fun a30 =>
  (js_cons (j1_set 8 (je_ix ix_list ro_ixL (je_var 3 rfl) (je_bin op_mod ro_mod (je_bin op_fdiv ro_div (je_var 6 rfl) je_int) (je_callB call_len_seq ra_lenL T.n_len bt_len (je_var 3 rfl)))) nd__law_pairs) fun a35 =>
  (js_cons (j1_if (Lf := fun (s53 : Tx) => [.im (rp K p0), .im (rp K p1), .im (rp K p2), .im (rp K s14), .mu (ctL K s21), .im (rp K e22), .im (rp K a27), .im (rp K s53), .im (rp K a35)]) (jw_jt (jw_and (jt_cmp op_eq ro_eqI (je_var 1 rfl) je_int) (jw_and1 (jt_cmp op_eq ro_eqI (je_bin op_mod ro_mod (je_bin op_fdiv ro_div (je_var 6 rfl) je_int) je_int) je_int)))) (js_cons (j1_set 7 (je_ix ix_list ro_ixL (je_var 0 rfl) (je_bin op_mod ro_mod (je_bin op_fdiv ro_div (je_var 6 rfl) je_int) je_int)) nd__law_pairs) fun a54 =>
  (js_nilP (Wk.s (Wk.s (Wk.s (Wk.s (Wk.s (Wk.s (Wk.s (Wk.s (Wk.s Wk.nil))))))))))) (js_nilP (Wk.s (Wk.s (Wk.s (Wk.s (Wk.s (Wk.s (Wk.s (Wk.s (Wk.s Wk.nil))))))))))) fun s53 =>
  (js_cons (j1_if (Lf := fun (s68 : (List (Tx × Tx))) => [.im (rp K p0), .im (rp K p1), .im (rp K p2), .im (rp K s14), .mu (ctL K s68), .im (rp K e22), .im (rp K a27), .im (rp K s53), .im (rp K a35)]) (jt_cmp op_eq ro_eqI (je_bin op_mod ro_mod (je_bin op_fdiv ro_div (je_var 6 rfl) je_int) je_int) je_int) (js_cons (j1_append 4 (je_pair (je_var 7 rfl) (je_var 8 rfl))) fun a69 =>
  (js_nilP (Wk.s (Wk.s (Wk.s (Wk.s (Wk.s (Wk.s (Wk.s (Wk.s (Wk.s Wk.nil))))))))))) (js_cons (j1_append 4 (je_pair (je_var 8 rfl) (je_var 7 rfl))) fun a74 =>
  (js_nilP (Wk.s (Wk.s (Wk.s (Wk.s (Wk.s (Wk.s (Wk.s (Wk.s (Wk.s Wk.nil)))))))))))) fun s68 =>
  (js_nilP (Wk.s (Wk.s (Wk.s (Wk.s (Wk.s (Wk.n (Wk.n (Wk.n (Wk.n Wk.nil)))))))))))))))) pasO) fun s21 =>
  (js_frz 4 (js_ret (je_var 4 rfl))))))))

abbrev N__law_asked : List Str := ["_law_pool_here", "_law_name", "_law_found", "_law_good"]
theorem nd__law_asked : N__law_asked.Nodup := by decide +kernel
theorem ok__law_asked {P : Program} {w : World} {K : Fg} {mg : Str → Option Value} {base : Heap} (T : Fx K mg) : OkF P w K mg base "_law_asked" 4 (sp2 K m__law_asked) :=
  mkF2 (N := N__law_asked) T.f__law_asked T.g__law_asked ⟨rfl, rfl, rfl, nd__law_asked, rfl, by decide +kernel, by decide +kernel⟩ (fun _ _ _ _ _ _ us hl => match us, hl with | [_, _], _ => rfl) fun cdv A outer s H E hr p0 p1 b hown => by
    unfold m__law_asked
    exact (js_cons (j1_set 2 je_non nd__law_asked) fun a1 =>
  (js_cons (j1_set 3 je_bl nd__law_asked) fun a2 =>
  (js_cons (j1_tryS1 (Lf := fun (s7 : ((Option Tx) × Bool)) => [.im (rp K p0), .im (rp K p1), .im (rp K s7.1), .im (rp K s7.2)]) (sOk := (fun (a5 : Tx) => (((some a5), a2) : ((Option Tx) × Bool)))) (hh := (fun (ec6 : Str) => (((pure false : M Bool) >>= fun a8 =>
  (pure (a1, a8) : M ((Option Tx) × Bool))) : M ((Option Tx) × Bool)))) 2 (fun pn xe => jc_call2 (ok_stands_for T) (hr.mono (by decide)) (fun E => (je_var 0 rfl)) (fun E => (je_var 1 rfl))) (fun a5 => (Wk.s (Wk.s (Wk.s (Wk.s Wk.nil))))) T.em_NoName (fun ec6 hec a oe pn hz hv => (js_cons (j1_set 3 je_bl nd__law_asked) fun a8 =>
  (js_nilP (Wk.s (Wk.s (Wk.s (Wk.s Wk.nil))))))) T.g_NoName nd__law_asked) fun s7 =>
  (js_if1 pi_rt (jt_val (je_var 3 rfl)) (js_ret (je_lst (jl_cons (je_get (je_var 2 rfl)) jl_nil)))
  (js_ret (je_lst jl_nil))))))

abbrev N__law_names_told : List Str := ["_law_pool_here", "_law_names_here", "_law_classes", "_law_known_here", "_law_name", "_law_due_here"]
theorem nd__law_names_told : N__law_names_told.Nodup := by decide +kernel
theorem ok__law_names_told {P : Program} {w : World} {K : Fg} {mg : Str → Option Value} {base : Heap} (T : Fx K mg) : OkF P w K mg base "_law_names_told" 5 (sp4 K m__law_names_told) :=
  mkF4 (N := N__law_names_told) T.f__law_names_told T.g__law_names_told ⟨rfl, rfl, rfl, nd__law_names_told, rfl, by decide +kernel, by decide +kernel⟩ (fun _ _ _ _ _ _ us hl => match us, hl with | [_, _, _, _], _ => rfl) fun cdv A outer s H E hr p0 p1 p2 p3 b hown => by
    unfold m__law_names_told
    exact (js_forR (Lf := fun (s1 : Unit) => [.im (rp K p0), .im (rp K p1), .im (rp K p2), .im (rp K p3), .no, .no]) (wr := id) (fun _ _ h => h) (ji_list (je_var 1 rfl)) (jg_name 4 (fun _ => nd__law_names_told)) (Wk.s (Wk.s (Wk.s (Wk.s (Wk.s (Wk.s Wk.nil)))))) (fun F6 s1 e2 => (js_cons (j1_set 5 (je_lst (jl_cons (je_call2 (ok__law_stand T) (hr.mono (by decide)) pasF (je_var 2 rfl) (je_var 4 rfl)) jl_nil)) nd__law_names_told) fun a7 =>
  (js_cons (j1_if (Lf := fun (s21 : (List Tx)) => [.im (rp K p0), .im (rp K p1), .im (rp K p2), .im (rp K p3), .im (rp K e2), .im (rp K s21)]) (jw_jt (jw_and (jt_val (je_m0 PySem.F.slot_str_isupper PySem.F.type_str_isupper mt_isupper rm_isupper (je_ix ix_str ro_ixS (je_var 4 rfl) je_int))) (jw_and1 (jw_jt (jw_or (jt_val (je_call1 (ok__law_torn T) (hr.mono (by decide)) pasF (je_var 2 rfl))) (jw_or1 (jt_cmp op_notIn_seq ro_notInL (je_var 4 rfl) (je_var 3 rfl)))))))) (js_cons (j1_set 5 (je_lst jl_nil) nd__law_names_told) fun a22 =>
  (js_nilP (Wk.s (Wk.s (Wk.s (Wk.s (Wk.s (Wk.s Wk.nil)))))))) (js_nilP (Wk.s (Wk.s (Wk.s (Wk.s (Wk.s (Wk.s Wk.nil)))))))) fun s21 =>
  (js_cons (j1_if (Lf := fun (s28 : (List Tx)) => [.im (rp K p0), .im (rp K p1), .im (rp K p2), .im (rp K p3), .im (rp K e2), .im (rp K s28)]) (jt_not (jt_val (je_m0 PySem.F.slot_str_isupper PySem.F.type_str_isupper mt_isupper rm_isupper (je_ix ix_str ro_ixS (je_var 4 rfl) je_int)))) (js_cons (j1_set 5 (je_lst (jl_cons (je_var 4 rfl) jl_nil)) nd__law_names_told) fun a29 =>
  (js_nilP (Wk.s (Wk.s (Wk.s (Wk.s (Wk.s (Wk.s Wk.nil)))))))) (js_nilP (Wk.s (Wk.s (Wk.s (Wk.s (Wk.s (Wk.s Wk.nil)))))))) fun s28 =>
  (js_if2 (jt_cmp (op_neA (α := (List Tx)) hr.units) ro_neA (je_call2 (ok__law_asked T) (hr.mono (by decide)) pasF (je_var 0 rfl) (je_var 4 rfl)) (je_var 5 rfl)) (js_retL je_bl) (js_nilL (Wk.s (Wk.s (Wk.s (Wk.s (Wk.n (Wk.n Wk.nil)))))))))))) (fun s1 =>
  (js_ret je_bl)) pasO)

abbrev N__law_written : List Str := ["_law_due_here", "_law_rows", "_law_fact_here", "_law_pair"]
theorem nd__law_written : N__law_written.Nodup := by decide +kernel
theorem ok__law_written {P : Program} {w : World} {K : Fg} {mg : Str → Option Value} {base : Heap} (T : Fx K mg) : OkF P w K mg base "_law_written" 2 (sp1 K m__law_written) :=
  mkF1 (N := N__law_written) T.f__law_written T.g__law_written ⟨rfl, rfl, rfl, nd__law_written, rfl, by decide +kernel, by decide +kernel⟩ (fun _ _ _ _ _ _ us hl => match us, hl with | [_], _ => rfl) fun cdv A outer s H E hr p0 b hown => by
    unfold m__law_written
    exact (js_if1 pi_rt (jt_val (je_at at_q3 (je_var 0 rfl))) (js_ret je_str)
  (js_cons (j1_setF 1 (jf_lst (jl_cons (je_m1 PySem.F.slot_str_join PySem.F.type_str_join mt_join rm_join je_str (je_jf (jf_lc (own := [("_law_fact_here", 2)]) (ji_tup (je_at at_q0 (je_var 0 rfl))) (jg_name 2 (fun _ => nd__law_written)) (fun _ e7 => (je_call1 (ok__law_fact_text T) (hr.mono (by decide)) passL (je_var 2 rfl))) nd__law_written (blkOk_by (N := N__law_written) (sc := defScope (top 53)) (by decide +kernel))))) jl_nil)) nd__law_written) fun a4 =>
  (js_cons (j1_append 1 (je_m1 PySem.F.slot_str_join PySem.F.type_str_join mt_join rm_join je_str (je_jf (jf_lc (own := [("_law_fact_here", 2)]) (ji_tup (je_at at_q1 (je_var 0 rfl))) (jg_name 2 (fun _ => nd__law_written)) (fun _ e17 => (je_call1 (ok__law_fact_text T) (hr.mono (by decide)) passL (je_var 2 rfl))) nd__law_written (blkOk_by (N := N__law_written) (sc := defScope (top 53)) (by decide +kernel)))))) fun a14 =>
  (js_cons (j1_append 1 (je_m1 PySem.F.slot_str_join PySem.F.type_str_join mt_join rm_join je_str (je_jf (jf_lf (own := [("_law_pair", 3)]) (ji_tup (je_co (g := fun (x : (TupN (Tx × Tx))) => (show (Tup (Tx × Tx)) from x : (Tup (Tx × Tx)))) co_NU (je_at at_q2 (je_var 0 rfl)))) (jg_name 3 (fun _ => nd__law_written)) (fun _ e28 => (jt_cmp op_ne ro_neT (je_p0 (je_var 3 rfl)) (je_p1 (je_var 3 rfl)))) (fun _ e28 => (je_bin op_add_str ro_addT (je_bin op_add_str ro_addT (je_p0 (je_var 3 rfl)) je_str) (je_p1 (je_var 3 rfl)))) nd__law_written (blkOk_by (N := N__law_written) (sc := defScope (top 53)) (by decide +kernel)))))) fun a24 =>
  (js_frz 1 (js_ret (je_m1 PySem.F.slot_str_join PySem.F.type_str_join mt_join rm_join je_str (je_var 1 rfl))))))))

abbrev N__law_due : List Str := ["_law_kinds_here", "_law_facts", "_law_pairs_here", "_law_classes", "_law_known_here", "_law_fact_here", "_law_pair", "_law_bag", "_law_once"]
theorem nd__law_due : N__law_due.Nodup := by decide +kernel
theorem ok__law_due {P : Program} {w : World} {K : Fg} {mg : Str → Option Value} {base : Heap} (T : Fx K mg) : OkF P w K mg base "_law_due" 4 (sp4 K m__law_due) :=
  mkF4 (N := N__law_due) T.f__law_due T.g__law_due ⟨rfl, rfl, rfl, nd__law_due, rfl, by decide +kernel, by decide +kernel⟩ (fun _ _ _ _ _ _ us hl => match us, hl with | [_, _, _, _], _ => rfl) fun cdv A outer s H E hr p0 p1 p2 p3 b hown => by
    unfold m__law_due
    exact (js_cons (j1_set 4 (je_lst jl_nil) nd__law_due) fun a1 =>
  (js_cons (j1_forP (Lf := fun (s2 : (List Tx)) => [.im (rp K p0), .im (rp K p1), .im (rp K p2), .im (rp K p3), .im (rp K s2), .no, .no, .no, .no]) (ji_list (je_var 1 rfl)) (jg_name 5 (fun _ => nd__law_due)) (Wk.s (Wk.s (Wk.s (Wk.s (Wk.s (Wk.s (Wk.s (Wk.s (Wk.s Wk.nil))))))))) (fun F7 s2 e3 => (js_cons (j1_set 4 (je_call2 (ok__law_known T) (hr.mono (by decide)) pasF (je_var 4 rfl) (je_p1 (je_var 5 rfl))) nd__law_due) fun a8 =>
  (js_nilP (Wk.s (Wk.s (Wk.s (Wk.s (Wk.s (Wk.n (Wk.s (Wk.s (Wk.s Wk.nil)))))))))))) pasO) fun s2 =>
  (js_cons (j1_forP (Lf := fun (s13 : (List Tx)) => [.im (rp K p0), .im (rp K p1), .im (rp K p2), .im (rp K p3), .im (rp K s13), .no, .no, .no, .no]) (ji_list (je_var 2 rfl)) (jg_name 6 (fun _ => nd__law_due)) (Wk.s (Wk.s (Wk.s (Wk.s (Wk.s (Wk.s (Wk.s (Wk.s (Wk.s Wk.nil))))))))) (fun F18 s13 e14 => (js_cons (j1_set 4 (je_call2 (ok__law_known T) (hr.mono (by decide)) pasF (je_var 4 rfl) (je_co (g := fun (x : (Tx × Tx)) => (show (Tup Tx) from [x.1, x.2] : (Tup Tx))) co_pU (je_var 6 rfl))) nd__law_due) fun a19 =>
  (js_nilP (Wk.s (Wk.s (Wk.s (Wk.s (Wk.s (Wk.s (Wk.n (Wk.s (Wk.s Wk.nil)))))))))))) pasO) fun s13 =>
  (js_cons (j1_setLf 7 (own := [("_law_fact_here", 5)]) (ji_list (je_var 1 rfl)) (jg_name 5 (fun _ => nd__law_due)) (fun _ e24 => (jt_not (jt_val (je_call2 (ok__law_lasts T) (hr.mono (by decide)) passL (je_var 0 rfl) (je_var 5 rfl))))) (fun _ e24 => (je_var 5 rfl)) nd__law_due (blkOk_by (N := N__law_due) (sc := defScope (top 54)) (by decide +kernel))) fun a23 =>
  (js_cons (j1_setLf 8 (own := [("_law_fact_here", 5)]) (ji_list (je_var 1 rfl)) (jg_name 5 (fun _ => nd__law_due)) (fun _ e30 => (jt_val (je_call2 (ok__law_lasts T) (hr.mono (by decide)) passL (je_var 0 rfl) (je_var 5 rfl)))) (fun _ e30 => (je_var 5 rfl)) nd__law_due (blkOk_by (N := N__law_due) (sc := defScope (top 54)) (by decide +kernel))) fun a29 =>
  (js_frz 7 (js_frz 8 (js_ret (je_pair (je_call4 (ok__law_pool T) (hr.mono (by decide)) pasF (je_var 7 rfl) (je_var 8 rfl) (je_var 3 rfl) (je_var 4 rfl)) (je_var 4 rfl))))))))))

abbrev N_law : List Str := ["_law_script", "_law_kinds_here", "_law_names_here", "_law_way", "_law_cut", "_law_facts", "_law_pairs_here", "_law_half", "_law_handed", "_law_start", "_law_found", "_law_classes", "_law_step", "_law_pair", "_law_due_here", "_law_told", "_law_cell"]
theorem nd_law : N_law.Nodup := by decide +kernel
theorem ok_law {P : Program} {w : World} {K : Fg} {mg : Str → Option Value} {base : Heap} (T : Fx K mg) {fd : FuncData} (F : FunD K "law" "law" (defArgs (top 55)) (defBody (top 55)) (defScope (top 55)) [] [] (He.ga K "law") fd) : FnOk P w K mg base (L2.CX P w) 7 (He.ga K "law") fd ["_law_script"] (sp1 K m_law) :=
  mkC1 (N := N_law) F ⟨rfl, rfl, rfl, nd_law, rfl, by decide +kernel, by decide +kernel⟩ fun cdv A outer s H E hr p0 b hown => by
    unfold m_law
    exact (js_cons (j1_set 1 (je_call2 (ok__law_kinds T) (hr.mono (by decide)) pasF (je_call2 (ok__law_cell_at T) (hr.mono (by decide)) pasF (je_var 0 rfl) je_int) (je_lst (jl_cons je_int (jl_cons je_int (jl_cons je_int (jl_cons je_int (jl_cons je_int (jl_cons je_int jl_nil)))))))) nd_law) fun a1 =>
  (js_cons (j1_set 2 (je_bin op_catQ ro_catL (je_call2 (ok__law_opens T) (hr.mono (by decide)) pasF (je_call2 (ok__law_cell_at T) (hr.mono (by decide)) pasF (je_var 0 rfl) je_int) je_int) (je_call2 (ok__law_words T) (hr.mono (by decide)) pasF (je_call2 (ok__law_cell_at T) (hr.mono (by decide)) pasF (je_var 0 rfl) je_int) je_int)) nd_law) fun a18 =>
  (js_cons (j1_set 3 (je_bin op_mod ro_mod (je_call2 (ok__law_cell_at T) (hr.mono (by decide)) pasF (je_var 0 rfl) je_int) je_int) nd_law) fun a29 =>
  (js_cons (j1_set 4 (je_bin op_add ro_add je_int (je_bin op_mod ro_mod (je_bin op_fdiv ro_div (je_call2 (ok__law_cell_at T) (hr.mono (by decide)) pasF (je_var 0 rfl) je_int) je_int) je_int)) nd_law) fun a34 =>
  (js_cons (j1_setLc 5 (own := [("_law_cell", 16)]) (ji_list (je_slL (je_var 0 rfl) (jo_at je_int) (jo_at (je_var 4 rfl)))) (jg_name 16 (fun _ => nd_law)) (fun _ e49 => (je_call3 (ok__law_fact T) (hr.mono (by decide)) passL (je_var 1 rfl) (je_var 2 rfl) (je_var 16 rfl))) nd_law (blkOk_by (N := N_law) (sc := defScope (top 55)) (by decide +kernel))) fun a43 =>
  (js_cons (j1_set 6 (je_call3 (ok__law_pairs T) (hr.mono (by decide)) pasF (je_var 2 rfl) (je_var 3 rfl) (je_slL (je_var 0 rfl) (jo_at (je_var 4 rfl)) (jo_at je_int))) nd_law) fun a54 =>
  (js_cons (j1_set 7 (je_bin op_fdiv ro_div (je_lenM 5 T.n_len) je_int) nd_law) fun a63 =>
  (js_cons (j1_set 8 (je_h2 (je_callTy call_list_of ra_lstL T.n_list bt_list (je_slM 5 (jo_at (je_var 7 rfl)) jo_no)) (je_callTy call_list_of ra_lstL T.n_list bt_list (je_var 6 rfl))) nd_law) fun a66 =>
  (js_cons (j1_set 9 (je_call2 (ok_start_pool T) (hr.mono (by decide)) pasF (je_var 1 rfl) (je_slM 5 jo_no (jo_at (je_var 7 rfl)))) nd_law) fun a75 =>
  (js_cons (j1_set 10 (je_call5 (ok_moved T) (hr.mono (by decide)) pasF (je_var 1 rfl) (je_var 9 rfl) (je_lst jl_nil) (je_h2_0 (je_var 8 rfl)) (je_h2_1 (je_var 8 rfl))) nd_law) fun a82 =>
  (js_if1 pi_rt (jt_cmp (op_neA (α := (H2 (List (Tx × (Tup Tx))) (List (Tx × Tx)))) hr.units) ro_neA (je_var 8 rfl) (je_h2 (je_slM 5 (jo_at (je_var 7 rfl)) jo_no) (je_var 6 rfl))) (js_ret je_bl)
  (js_cons (j1_set 11 (je_lst jl_nil) nd_law) fun a101 =>
  (js_cons (j1_set 12 (je_call5 (ok_moved T) (hr.mono (by decide)) pasF (je_var 1 rfl) (je_var 9 rfl) (je_lst jl_nil) (je_slM 5 (jo_at (je_var 7 rfl)) jo_no) (je_lst jl_nil)) nd_law) fun a102 =>
  (js_cons (j1_forP (Lf := fun (s112 : ((List (List Tx)) × (T4 (Tup (Tx × (Tup Tx))) (Tup (Tx × (Tup Tx))) (TupN (Tx × Tx)) Bool))) => [.im (rp K p0), .im (rp K a1), .im (rp K a18), .im (rp K a29), .im (rp K a34), .mu (ctL K a43), .im (rp K a54), .im (rp K a63), .im (rp K a66), .im (rp K a75), .im (rp K a82), .im (rp K s112.1), .im (rp K s112.2), .no, .no, .no, .no]) (ji_list (je_var 6 rfl)) (jg_name 13 (fun _ => nd_law)) (Wk.s (Wk.s (Wk.s (Wk.s (Wk.s (Wk.s (Wk.s (Wk.s (Wk.s (Wk.s (Wk.s (Wk.s (Wk.s (Wk.s (Wk.s (Wk.s (Wk.s Wk.nil))))))))))))))))) (fun F117 s112 e113 => (js_cons (j1_set 11 (je_call2 (ok__law_merged T) (hr.mono (by decide)) pasF (je_var 11 rfl) (je_var 13 rfl)) nd_law) fun a118 =>
  (js_cons (j1_set 12 (je_call5 (ok_moved T) (hr.mono (by decide)) pasF (je_var 1 rfl) (je_var 12 rfl) (je_lst jl_nil) (je_lst jl_nil) (je_lst (jl_cons (je_var 13 rfl) jl_nil))) nd_law) fun a121 =>
  (js_nilP (Wk.s (Wk.s (Wk.s (Wk.s (Wk.s (Wk.s (Wk.s (Wk.s (Wk.s (Wk.s (Wk.s (Wk.s (Wk.s (Wk.n (Wk.s (Wk.s (Wk.s Wk.nil))))))))))))))))))))) pasO) fun s112 =>
  (js_frz 5 (js_cons (j1_set 14 (je_call4 (ok__law_due T) (hr.mono (by decide)) pasF (je_var 1 rfl) (je_var 5 rfl) (je_var 6 rfl) (je_var 11 rfl)) nd_law) fun a129 =>
  (js_if1 pi_rt (jw_jt (jw_or (jt_not (jt_val (je_call2 (ok__law_is_pool T) (hr.mono (by decide)) pasF (je_var 10 rfl) (je_p0 (je_var 14 rfl))))) (jw_or1 (jt_not (jt_val (je_call2 (ok__law_is_pool T) (hr.mono (by decide)) pasF (je_var 12 rfl) (je_p0 (je_var 14 rfl)))))))) (js_ret je_bl)
  (js_cons (j1_set 15 (je_call1 (ok_pool_text T) (hr.mono (by decide)) pasF (je_var 10 rfl)) nd_law) fun a146 =>
  (js_if1 pi_rt (jw_jt (jw_or (jt_not (jt_val (je_isiB (tn := "str") tyx_str (by decide +kernel) T.n_isinstance T.n_str bt_str (je_var 15 rfl)))) (jw_or1 (jt_cmp op_ne ro_neT (je_var 15 rfl) (je_call1 (ok__law_written T) (hr.mono (by decide)) pasF (je_p0 (je_var 14 rfl))))))) (js_ret je_bl)
  (js_ret (je_call4 (ok__law_names_told T) (hr.mono (by decide)) pasF (je_var 10 rfl) (je_var 2 rfl) (je_var 11 rfl) (je_p1 (je_var 14 rfl)))))))))))))))))))))))
end Q

set_option Elab.async false
set_option linter.all false
set_option maxRecDepth 100000
set_option maxHeartbeats 2000000
namespace Q
open PySem L2 G TL
theorem tup_b {α β : Type} {x : List α} {f : Tup α → M β} : ((pure x : M (Tup α)) >>= f) = f x := rfl
def small : Tx := tx "abcdefghijklmnopqrstuvwxyz"
def great : Tx := tx "ABCDEFGHIJKLMNOPQRSTUVWXYZ"
def figs : Tx := tx "0123456789"
def alnum : Tx := tx "abcdefghijklmnopqrstuvwxyz0123456789ABCDEFGHIJKLMNOPQRSTUVWXYZ"
def isSign (c : Nat) : Bool := decide (c ∈ small) || decide (c ∈ great) || decide (c ∈ figs)
def isNm (x : Tx) : Bool := decide (1 ≤ x.length) && decide (x.length ≤ 12) && x.all isSign
def sg (p : Nat → Bool) (s : Tx) : Bool := match s with
  | [c] => p c
  | _ => false
theorem any_signs (x : Tx) (p : Nat → Bool) : (signs x).any (sg p) = x.any p := by
  unfold signs
  rw [List.any_map]
  rfl
theorem mem_signs {x s : Tx} (h : s ∈ signs x) : ∃ c, s = [c] ∧ c ∈ x := by
  obtain ⟨c, hc, rfl⟩ := List.mem_map.mp h
  exact ⟨c, rfl, hc⟩
theorem any_not (x : Tx) (p : Nat → Bool) : (x.any fun c => !p c) = !(x.all p) := by
  rw [List.any_eq_not_all_not]
  congr 2
  funext c
  rw [Bool.not_not]
theorem is_name_eq {x : Tx} (hz : x.length ≤ SZ) : m_is_name x = .ok (isNm x) := by
  unfold m_is_name isNm
  simp only [pure_bind, lenT_ok hz]
  by_cases h1 : 1 ≤ x.length
  · by_cases h2 : x.length ≤ 12
    · have i1 : (1 : Int) ≤ (x.length : Int) := by omega
      have i2 : (x.length : Int) ≤ 12 := by omega
      simp only [i1, i2, h1, h2, decide_true, if_true, pure_bind, Bool.not_true, Bool.false_eq_true, if_false, Bool.true_and]
      rw [forT_search (p := sg fun c => !isSign c) (r := false)]
      · rw [any_signs, any_not]
        cases x.all isSign <;> rfl
      · intro s hs
        obtain ⟨c, rfl, _⟩ := mem_signs hs
        simp only [inS_one, pure_bind, sg, isSign, small, great, figs]
        by_cases a1 : c ∈ tx "abcdefghijklmnopqrstuvwxyz" <;> by_cases a2 : c ∈ tx "ABCDEFGHIJKLMNOPQRSTUVWXYZ" <;> by_cases a3 : c ∈ tx "0123456789" <;> simp [a1, a2, a3] <;> rfl
    · have i1 : (1 : Int) ≤ (x.length : Int) := by omega
      have i2 : ¬ (x.length : Int) ≤ 12 := by omega
      simp only [i1, i2, h1, h2, decide_true, decide_false, if_true, pure_bind, Bool.not_false, Bool.true_and, Bool.false_and]
      rfl
  · have i1 : ¬ (1 : Int) ≤ (x.length : Int) := by omega
    simp only [i1, h1, decide_false, Bool.false_eq_true, if_false, pure_bind, Bool.not_false, if_true, Bool.false_and]
    rfl
theorem alnum_mem (c : Nat) : decide (c ∈ alnum) = isSign c := by
  have e : alnum = small ++ (figs ++ great) := by decide +kernel
  unfold isSign
  rw [e]
  by_cases a1 : c ∈ small <;> by_cases a2 : c ∈ great <;> by_cases a3 : c ∈ figs <;> simp [a1, a2, a3]
theorem sign_of_alnum {c : Nat} (h : c ∈ alnum) : isSign c = true := by rw [← alnum_mem]; exact decide_eq_true h
theorem alnum_len : alnum.length = 62 := by decide +kernel
theorem cell_ok (ns : List Int) (i : Int) (h : 0 ≤ i) : Okp (m__law_cell_at ns i) fun _ => True := by
  unfold m__law_cell_at
  simp only [pure_bind]
  by_cases hi : i < (ns.length : Int)
  · simp only [hi, decide_true, if_true]
    obtain ⟨a, e, _⟩ := atL_ok (xs := ns) h hi
    exact ⟨a, e, trivial⟩
  · simp only [hi, decide_false, Bool.false_eq_true, if_false]
    exact ⟨0, rfl, trivial⟩
theorem mix_ok (x k : Int) (h0 : 0 ≤ k) (h1 : k ≤ 1000) : Okp (m__law_mix x k) fun y => 0 ≤ y ∧ y < 999983 := by
  unfold m__law_mix
  simp only [pure_bind, modI_ok (show (0 : Int) < 7 by decide)]
  obtain ⟨a, e, ha⟩ := atL_ok (xs := ([48271, 69621, 16807, 40692, 30269, 62089, 45991] : List Int)) (i := k % 7) (by omega) (by show k % 7 < 7; omega)
  simp only [e, okb, pure_bind, modI_ok (show (0 : Int) < 1000003 by decide)]
  simp only [mulI_l (show (-(2 ^ 64) : Int) < 31 by decide) (show (31 : Int) < 2 ^ 64 by decide), pure_bind, mulI_r (show (-(2 ^ 64) : Int) < a by simp at ha; omega) (show a < (2 ^ 64 : Int) by simp at ha; omega), modI_ok (show (0 : Int) < 999983 by decide)]
  exact ⟨_, rfl, by omega, by omega⟩
theorem joinL_mem (s : Tx) : ∀ (xs : List Tx) {c : Nat}, c ∈ joinL s xs → c ∈ s ∨ ∃ x ∈ xs, c ∈ x
  | [], c, h => by cases h
  | [x], c, h => .inr ⟨x, List.mem_cons_self .., h⟩
  | x :: y :: r, c, h => by
    have e : joinL s (x :: y :: r) = x ++ (s ++ joinL s (y :: r)) := rfl
    rw [e, List.mem_append, List.mem_append] at h
    rcases h with h | h | h
    · exact .inr ⟨x, List.mem_cons_self .., h⟩
    · exact .inl h
    · rcases joinL_mem s (y :: r) h with h | ⟨z, hz, h⟩
      · exact .inl h
      · exact .inr ⟨z, List.mem_cons_of_mem _ hz, h⟩
theorem cut_mem {α : Type} {xs : List α} {lo hi : Option Int} {c : α} (h : c ∈ cut xs lo hi) : c ∈ xs := List.mem_of_mem_drop (List.mem_of_mem_take h)
theorem cutT_ok {x : Tx} {lo hi : Option Int} (h : x.length ≤ SZ) : cutT x lo hi = .ok (cut x lo hi) := by unfold cutT; rw [chk_b h]; rfl
/-- a name of the law's: its first sign from the firsts -/
def Nm (firsts y : Tx) : Prop := ∃ c r, y = c :: r ∧ c ∈ firsts ∧ r.length ≤ 11 ∧ ∀ d ∈ r, isSign d = true
theorem Nm.name {f y : Tx} (hf : ∀ c ∈ f, isSign c = true) (h : Nm f y) : isNm y = true := by
  obtain ⟨c, r, rfl, h1, h2, h3⟩ := h
  unfold isNm
  rw [List.all_cons, hf c h1, List.all_eq_true.mpr h3, List.length_cons, decide_eq_true (by omega), decide_eq_true (by omega)]
  rfl
theorem at_alnum {i : Int} (h0 : 0 ≤ i) (h1 : i < 62) : Okp (atT alnum i) fun y => ∃ c, y = [c] ∧ isSign c = true := by
  obtain ⟨c, e, e2⟩ := atT_ok (x := alnum) (i := i) h0 (by rw [alnum_len]; exact h1) (by rw [alnum_len, SZ_val]; decide)
  exact ⟨[c], e, c, rfl, sign_of_alnum (List.mem_of_getElem? e2)⟩
theorem names_ok (x n : Int) (f : Tx) (h0 : 0 ≤ n) (h1 : n ≤ 1000) (hf : 0 < f.length) (hf2 : f.length ≤ 1000) : Okp (m__law_names x n f) fun xs => xs.length = n.toNat ∧ ∀ y ∈ xs, Nm f y := by
  have hfz : f.length ≤ SZ := by rw [SZ_val]; omega
  have first : ∀ i : Int, 0 ≤ i → i < f.length → Okp (atT f i) fun y => ∃ c, y = [c] ∧ c ∈ f := fun i i0 i1 => by
    obtain ⟨c, e, e2⟩ := atT_ok (x := f) (i := i) i0 i1 hfz
    exact ⟨[c], e, c, rfl, List.mem_of_getElem? e2⟩
  unfold m__law_names
  rw [show tx "abcdefghijklmnopqrstuvwxyz0123456789ABCDEFGHIJKLMNOPQRSTUVWXYZ" = alnum from rfl]
  simp only [pure_bind]
  refine Okp.bind (mix_ok x 0 (by decide) (by decide)) fun a ha => ?_
  simp only [divI_ok (show (0 : Int) < 5 by decide) (show (5 : Int) < 1073741824 by decide), divI_ok (show (0 : Int) < 3 by decide) (show (3 : Int) < 1073741824 by decide), divI_ok (show (0 : Int) < 33 by decide) (show (33 : Int) < 1073741824 by decide), divI_ok (show (0 : Int) < 7 by decide) (show (7 : Int) < 1073741824 by decide),
    lenT_ok hfz, pure_bind, modI_ok (show (0 : Int) < (f.length : Int) by omega), modI_ok (show (0 : Int) < 3 by decide), modI_ok (show (0 : Int) < 12 by decide), modI_ok (show (0 : Int) < 11 by decide), modI_ok (show (0 : Int) < 62 by decide), range1_ok (show -(2 ^ 62) ≤ (11 : Int) by decide) (show (11 : Int) < 2 ^ 62 by decide), okb, range1_ok (show -(2 ^ 62) ≤ n by omega) (show n < 2 ^ 62 by omega)]
  have s0 : 0 ≤ a / 5 % (f.length : Int) := Int.emod_nonneg _ (by omega)
  have s1 : a / 5 % (f.length : Int) < f.length := Int.emod_lt_of_pos _ (by omega)
  refine Okp.bind (P := fun t : Tx => t.length ≤ 11 ∧ ∀ c ∈ t, isSign c = true) ?_ fun t ⟨t1, t2⟩ => ?_
  · refine Okp.bind (lc_ok (Q := fun y : Tx => ∃ c, y = [c] ∧ isSign c = true) (by rw [rangeL_len, SZ_val]; decide) fun e he => ?_) fun ys ⟨hl, hy⟩ => ?_
    · have hb := mem_rangeL he
      rw [divI_ok (show (0 : Int) < e + 1 by omega) (show e + 1 < 1073741824 by omega), pure_bind, mulI_l (show (-(2 ^ 64) : Int) < e by omega) (show e < 2 ^ 64 by omega), pure_bind]
      exact at_alnum (by omega) (by omega)
    · rw [rangeL_len] at hl
      have l1 : ∀ y ∈ ys, y.length ≤ 1 := fun y h => by obtain ⟨c, rfl, _⟩ := hy y h; exact Nat.le_refl _
      have e0 : (tx "").length = 0 := by decide +kernel
      have s2 := sum_le (k := 1) l1
      have s3 := joinL_len (tx "") ys
      rw [e0] at s3
      have hl' : ys.length = 11 := hl
      refine ⟨_, joinM_ok (by rw [e0]; omega), by omega, fun c hc => ?_⟩
      rcases joinL_mem _ _ hc with h | ⟨y, h1, h2⟩
      · exact absurd h (by rw [show tx "" = [] from rfl]; exact List.not_mem_nil)
      · obtain ⟨d, rfl, hd⟩ := hy y h1
        rw [List.mem_singleton.mp h2]; exact hd
  have tz : t.length ≤ SZ := by rw [SZ_val]; omega
  have mk : ∀ (i lo hi : Option Int) (j : Int), 0 ≤ j → j < f.length → Okp (atT f j >>= fun x => cutT t lo hi >>= fun y => addT x y) (fun y => Nm f y) := fun i lo hi j j0 j1 => by
    refine Okp.bind (first j j0 j1) fun y ⟨c, e, hc⟩ => ?_
    subst e
    have hl := cut_len t lo hi
    rw [cutT_ok tz, okb, addT_ok (by show 1 + _ ≤ SZ; rw [SZ_val]; omega)]
    exact ⟨_, rfl, c, cut t lo hi, rfl, hc, by omega, fun d hd => t2 d (cut_mem hd)⟩
  by_cases h3 : a % 3 = 0
  · simp only [h3, decide_true, if_true]
    refine Okp.imp (lc_ok (Q := Nm f) (by rw [rangeL_len, SZ_val]; omega) fun e he => ?_) fun ys ⟨a, b⟩ => ⟨by rw [a, rangeL_len], b⟩
    exact mk none _ _ _ s0 s1
  simp only [h3, decide_false, Bool.false_eq_true, if_false]
  by_cases h4 : a % 3 = 1
  · simp only [h4, decide_true, if_true]
    refine Okp.imp (lc_ok (Q := Nm f) (by rw [rangeL_len, SZ_val]; omega) fun e he => ?_) fun ys ⟨a, b⟩ => ⟨by rw [a, rangeL_len], b⟩
    exact mk none _ _ _ (Int.emod_nonneg _ (by omega)) (Int.emod_lt_of_pos _ (by omega))
  simp only [h4, decide_false, Bool.false_eq_true, if_false, modI_ok (show (0 : Int) < a / 3 % 11 + 1 by omega), pure_bind]
  refine Okp.bind (lc_ok (Q := fun y : Tx => ∃ c, y = [c] ∧ isSign c = true) (by rw [rangeL_len, SZ_val]; omega) fun e he => ?_) fun ys ⟨hl, hy⟩ => ?_
  · exact at_alnum (by omega) (by omega)
  rw [rangeL_len] at hl
  refine Okp.imp (lc_ok (Q := Nm f) (by rw [SZ_val]; omega) fun e he => ?_) fun zs ⟨a, b⟩ => ⟨by rw [a, hl], b⟩
  obtain ⟨d, rfl, hd⟩ := hy e he
  simp only [bind_assoc]
  refine Okp.bind (first _ s0 s1) fun y ⟨c, e, hc⟩ => ?_
  subst e
  have g0 : 0 ≤ a / 33 % (a / 3 % 11 + 1) := Int.emod_nonneg _ (by omega)
  have g1 : a / 33 % (a / 3 % 11 + 1) < a / 3 % 11 + 1 := Int.emod_lt_of_pos _ (by omega)
  have two : ∀ p q : Int, 0 ≤ p → p ≤ q → q ≤ 10 → (cut t none (some p)).length + (cut t (some p) (some q)).length ≤ 10 := fun p q p0 p1 p2 => by
    unfold cut
    rw [List.length_take, List.length_drop, List.length_take, List.length_drop]
    show min (HT.sIx _ _ (some p) - 0) _ + min (HT.sIx _ _ (some q) - HT.sIx _ _ (some p)) _ ≤ 10
    have z : ∀ (d : Nat) (v : Int), 0 ≤ v → HT.sIx t.length d (some v) = min v.toNat t.length := fun d v hv => by
      show (if v < 0 then _ else _) = _
      rw [if_neg (by omega)]
    rw [z _ p p0, z _ q (by omega), z _ p p0]
    omega
  have hl2 := two (a / 33 % (a / 3 % 11 + 1)) (a / 3 % 11) g0 (by omega) (by omega)
  rw [cutT_ok tz, okb, addT_ok (by show 1 + _ ≤ SZ; rw [SZ_val]; omega), pure_bind, addT_ok (by simp only [List.length_append, List.length_cons, List.length_nil]; rw [SZ_val]; omega), pure_bind, cutT_ok tz, okb, addT_ok (by simp only [List.length_append, List.length_cons, List.length_nil]; rw [SZ_val]; omega)]
  refine ⟨_, rfl, c, cut t none (some (a / 33 % (a / 3 % 11 + 1))) ++ [d] ++ cut t (some (a / 33 % (a / 3 % 11 + 1))) (some (a / 3 % 11)), by simp, hc, ?_, fun u hu => ?_⟩
  · simp only [List.length_append, List.length_cons, List.length_nil]; omega
  · simp only [List.mem_append, List.mem_singleton] at hu
    rcases hu with (h | h) | h
    · exact t2 u (cut_mem h)
    · rw [h]; exact hd
    · exact t2 u (cut_mem h)
abbrev Fct : Type := Tx × Tup Tx
abbrev K3 : Type := T3 Tx Int Bool
def isKd (x : Tx) : Bool := isNm x && decide (x.headD 0 ∈ small)
def GF (f : Fct) : Prop := isKd f.1 = true ∧ (∀ a ∈ (show List Tx from f.2), isNm a = true) ∧ List.length (α := Tx) f.2 ≤ 8
def GK (k : K3) : Prop := isKd k.a = true ∧ 0 ≤ k.b ∧ k.b < 5
def isOpn (x : Tx) : Bool := isNm x && decide (x.headD 0 ∈ great)
theorem is_open_eq {x : Tx} (hz : x.length ≤ SZ) : m_is_open x = .ok (isOpn x) := by
  unfold m_is_open isOpn
  simp only [pure_bind, is_name_eq hz, okb]
  cases h : isNm x with
  | false => rfl
  | true =>
    match x, h with
    | [], h => exact absurd h (by decide)
    | c :: r, h =>
      obtain ⟨d, e, e2⟩ := atT_ok (x := c :: r) (i := 0) (by decide) (by rw [List.length_cons]; omega) hz
      have : d = c := by simpa using e2.symm
      subst this
      rw [if_pos rfl, e, pure_bind]
      rfl
theorem forP_fold {S α : Type} {g : S → α → M S} {f : S → α → S} (I : Nat → S → Prop) : ∀ (xs : List α) (k : Nat) (s : S), (∀ (j : Nat) (s : S) (x : α), x ∈ xs → j < k + xs.length → I j s → g s x = .ok (f s x) ∧ I (j + 1) (f s x)) → I k s → forP g s xs = .ok (xs.foldl f s) ∧ I (k + xs.length) (xs.foldl f s)
  | [], k, s, _, h => ⟨rfl, h⟩
  | x :: xs, k, s, hf, h => by
    obtain ⟨h1, h2⟩ := hf k s x (List.mem_cons_self ..) (by rw [List.length_cons]; omega) h
    obtain ⟨h3, h4⟩ := forP_fold I xs (k + 1) (f s x) (fun j s y hy hj => hf j s y (List.mem_cons_of_mem _ hy) (by rw [List.length_cons]; omega)) h2
    refine ⟨?_, by rw [show k + (x :: xs).length = k + 1 + xs.length by rw [List.length_cons]; omega]; exact h4⟩
    show (g s x >>= fun s => forP g s xs) = _
    rw [h1, okb, h3]
    rfl
def kof (ks : List K3) (n : Tx) : Option K3 := ks.find? fun k => decide (k.a = n)
def ffault (ks : List K3) (f : Fct) : Option Str := match kof ks f.1 with
  | none => some "NoKind"
  | some k => if ((List.length (α := Tx) f.2 : Nat) : Int) = k.b then none else some "BadArgs"
def lastsK (ks : List K3) (f : Fct) : Bool := match kof ks f.1 with
  | none => false
  | some k => k.c
def orRaise {α : Type} (o : Option Str) (m : M α) : M α := match o with
  | some c => raise c
  | none => m
theorem forP_find {α : Type} {g : Unit → α → M Unit} {p : α → Option Str} : ∀ {xs : List α}, (∀ x ∈ xs, g () x = orRaise (p x) (pure ())) → forP g () xs = orRaise (xs.findSome? p) (pure ())
  | [], _ => rfl
  | x :: xs, h => by
    show (g () x >>= fun s => forP g s xs) = _
    rw [h x (List.mem_cons_self ..), List.findSome?_cons]
    cases e : p x with
    | some c => rfl
    | none => exact forP_find fun z hz => h z (List.mem_cons_of_mem _ hz)
theorem find_any {α : Type} {p : α → Bool} {c : Str} : ∀ xs : List α, (xs.findSome? fun x => if p x = true then some c else none) = if xs.any p = true then some c else none
  | [] => rfl
  | x :: xs => by
    rw [List.findSome?_cons, List.any_cons]
    cases h : p x with
    | true => rfl
    | false =>
      simp only [Bool.false_eq_true, if_false, Bool.false_or]
      exact find_any xs
theorem forP_any {α : Type} {g : Unit → α → M Unit} {p : α → Bool} {c : Str} {xs : List α} (h : ∀ x ∈ xs, g () x = if p x = true then raise c else pure ()) : forP g () xs = orRaise (if xs.any p = true then some c else none) (pure ()) := by
  rw [← find_any]
  refine forP_find fun x hx => ?_
  rw [h x hx]
  cases p x <;> rfl
theorem dget_cons {α : Type} (q : Tx × α) (r : List (Tx × α)) (k : Tx) : dgetM (q :: r) k = if q.1 = k then some q.2 else dgetM r k := rfl
theorem dget_app {α : Type} : ∀ (a b : List (Tx × α)) (k : Tx), dgetM (a ++ b) k = (dgetM a k).or (dgetM b k)
  | [], b, k => by show dgetM b k = (none : Option α).or _; rfl
  | q :: r, b, k => by
    show dgetM (q :: (r ++ b)) k = (dgetM (q :: r) k).or _
    rw [dget_cons, dget_cons]
    by_cases h : q.1 = k
    · rw [if_pos h, if_pos h]; rfl
    · rw [if_neg h, if_neg h, dget_app r b k]
theorem or_n {α : Type} (o : Option α) : o.or none = o := by cases o <;> rfl
theorem dget_put {α : Type} (d : List (Tx × α)) (k : Tx) (a : α) (n : Tx) : dgetM (dputM d k a) n = if k = n then some a else dgetM d n := by
  have app : ∀ d : List (Tx × α), dgetM d k = none → dgetM (d ++ [(k, a)]) n = if k = n then some a else dgetM d n := fun d h => by
    rw [dget_app]
    by_cases e : k = n
    · subst e
      rw [h, if_pos rfl]
      show (none : Option α).or (if k = k then some a else _) = _
      rw [if_pos rfl]
      rfl
    · rw [if_neg e]
      show (dgetM d n).or (if k = n then some a else none) = _
      rw [if_neg e]
      exact or_n _
  have mp : ∀ d : List (Tx × α), dgetM (d.map fun q => if q.1 = k then (q.1, a) else q) n = if k = n then (dgetM d n).map (fun _ => a) else dgetM d n := by
    intro d
    induction d with
    | nil => by_cases e : k = n <;> simp [dgetM, e]
    | cons q r ih =>
      rw [List.map_cons, dget_cons, dget_cons, ih]
      by_cases e1 : q.1 = k
      · rw [if_pos e1]
        by_cases e2 : k = n
        · have e3 : q.1 = n := e1.trans e2
          simp only [e2, e3, if_true, Option.map_some]
        · have e3 : ¬ q.1 = n := fun z => e2 (e1.symm.trans z)
          simp only [e2, e3, if_false]
      · rw [if_neg e1]
        by_cases e2 : k = n
        · have e3 : ¬ q.1 = n := fun z => e1 (z.trans e2.symm)
          simp only [e2, e3, if_true, if_false]
        · simp only [e2, if_false]
  unfold dputM
  cases h : dgetM d k with
  | none =>
    rw [if_neg (show ¬ (none : Option α).isSome = true from Bool.false_ne_true)]
    exact app d h
  | some b =>
    rw [if_pos (show (some b).isSome = true from rfl), mp]
    by_cases e : k = n
    · subst e
      rw [if_pos rfl, if_pos rfl, h]
      rfl
    · rw [if_neg e, if_neg e]
def lookupF {α : Type} (v : K3 → α) (ks : List K3) (d : List (Tx × α)) : List (Tx × α) := ks.foldl (fun d k => dputM d k.a (v k)) d
theorem dput_len {α : Type} (d : List (Tx × α)) (k : Tx) (a : α) : (dputM d k a).length ≤ d.length + 1 := by
  unfold dputM
  split
  · rw [List.length_map]; omega
  · rw [List.length_append, List.length_singleton]; exact Nat.le_refl _
theorem lookup_get {α : Type} {v : K3 → α} : ∀ {ks : List K3} {d : List (Tx × α)} {n : Tx}, (ks.map (·.a)).Nodup → dgetM (lookupF v ks d) n = match kof ks n with
    | some k => some (v k)
    | none => dgetM d n
  | [], d, n, _ => rfl
  | k :: r, d, n, nd => by
    obtain ⟨n1, n2⟩ := List.nodup_cons.mp (show (k.a :: r.map (·.a)).Nodup from nd)
    show dgetM (lookupF v r (dputM d k.a (v k))) n = _
    rw [lookup_get n2, dget_put]
    unfold kof
    rw [List.find?_cons]
    by_cases e : k.a = n
    · rw [decide_eq_true e, if_pos e]
      have : kof r n = none := by
        unfold kof
        refine List.find?_eq_none.mpr fun q hq z => n1 ?_
        have z := of_decide_eq_true z
        rw [e, ← z]
        exact List.mem_map_of_mem hq
      have this' : r.find? (fun k => decide (k.a = n)) = none := this
      rw [this']
    · rw [decide_eq_false e, if_neg e]
theorem kinds_dict {α : Type} {v : K3 → α} {g : Dic α → K3 → M (Dic α)} (hg : ∀ (d : Dic α) (k : K3), List.length (α := Tx × α) d < SZ → g d k = .ok (dputM d k.a (v k))) {ks : List K3} (hl : ks.length ≤ 1000) : forP g ([] : List (Tx × α)) ks = .ok (lookupF v ks []) := by
  refine (forP_fold (f := fun (d : Dic α) (k : K3) => (dputM d k.a (v k) : Dic α)) (fun j (d : Dic α) => List.length (α := Tx × α) d ≤ j) ks 0 ([] : List (Tx × α)) (fun j d k _ hj hI => ⟨hg d k (by rw [SZ_val]; omega), ?_⟩) (Nat.le_refl _)).1
  have := dput_len d k.a (v k)
  show List.length (α := Tx × α) (dputM d k.a (v k)) ≤ j + 1
  omega
def hd (l : List Tx) : Tx := l.headD []
theorem kind_lasts_eq {ks : List K3} (hl : ks.length ≤ 1000) : m_kind_lasts ks = .ok (lookupF (·.c) ks []) := by
  unfold m_kind_lasts
  simp only [pure_bind, bind_pure]
  refine kinds_dict (fun d k hd => ?_) hl
  show ((chk (List.length (α := Tx × Bool) d < SZ) >>= fun _ => (pure (dputM d k.a k.c) : M (List (Tx × Bool)))) >>= fun a => (pure a : M (Dic Bool))) = _
  rw [chk_b hd]
  rfl
theorem look_at_facts_eq {ks : List K3} {fs : List Fct} (hl : ks.length ≤ 1000) (nd : (ks.map (·.a)).Nodup) : m_look_at_facts ks fs = orRaise (fs.findSome? (ffault ks)) (pure ()) := by
  unfold m_look_at_facts
  simp only [pure_bind, bind_pure]
  refine Eq.trans (congrArg (fun m => m >>= _) (kinds_dict (v := (·.b)) (fun d k hd => ?_) hl)) ?_
  · show ((chk (List.length (α := Tx × Int) d < SZ) >>= fun _ => (pure (dputM d k.a k.b) : M (List (Tx × Int)))) >>= fun a => (pure a : M (Dic Int))) = _
    rw [chk_b hd]
    rfl
  show (forP (fun (_ : Unit) (e17 : Fct) => _) () fs >>= fun _ => (pure () : M Unit)) = _
  refine Eq.trans (congrArg (fun m => m >>= _) (forP_find (p := ffault ks) fun f hf => ?_)) ?_
  · have e2 : dgetM (lookupF (·.b) ks ([] : List (Tx × Int))) f.1 = (kof ks f.1).map (·.b) := by
      rw [lookup_get nd]
      cases kof ks f.1 <;> rfl
    show (if (!(dgetM (lookupF (·.b) ks ([] : List (Tx × Int))) f.1).isSome) = true then _ else _) >>= _ = _
    rw [e2]
    cases e3 : kof ks f.1 with
    | none =>
      have fe : ffault ks f = some ("NoKind" : Str) := by unfold ffault; rw [e3]
      rw [fe]
      rfl
    | some k =>
      have fe : ffault ks f = if ((List.length (α := Tx) f.2 : Nat) : Int) = k.b then none else some ("BadArgs" : Str) := by unfold ffault; rw [e3]
      rw [fe]
      show ((if (!decide (((List.length (α := Tx) f.2 : Nat) : Int) = k.b)) = true then (raise "BadArgs" : M Unit) else pure ()) >>= fun _ => pure ()) = _
      by_cases c : ((List.length (α := Tx) f.2 : Nat) : Int) = k.b
      · rw [if_pos c, decide_eq_true c]
        rfl
      · rw [if_neg c, decide_eq_false c]
        rfl
  · cases fs.findSome? (ffault ks) <;> rfl
theorem known_of {ks : List K3} {fs : List Fct} (h : fs.findSome? (ffault ks) = none) : ∀ f ∈ fs, ∃ k, kof ks f.1 = some k := fun f hf => by
  have := List.findSome?_eq_none_iff.mp h f hf
  unfold ffault at this
  cases e : kof ks f.1 with
  | none => rw [e] at this; cases this
  | some k => exact ⟨k, rfl⟩
theorem lasts_get {ks : List K3} (nd : (ks.map (·.a)).Nodup) {f : Fct} (h : ∃ k, kof ks f.1 = some k) : (ofO (dgetM (lookupF (·.c) ks ([] : List (Tx × Bool))) f.1) : M Bool) = .ok (lastsK ks f) := by
  obtain ⟨k, e⟩ := h
  rw [lookup_get nd]
  unfold lastsK
  rw [e]
  rfl
theorem look_at_taken_eq {ks : List K3} (nd : (ks.map (·.a)).Nodup) {fs : List Fct} (h : ∀ f ∈ fs, ∃ k, kof ks f.1 = some k) : m_look_at_taken (lookupF (·.c) ks ([] : List (Tx × Bool))) fs = orRaise (if fs.any (lastsK ks) = true then some "BadTake" else none) (pure ()) := by
  unfold m_look_at_taken
  simp only [pure_bind, bind_pure]
  refine Eq.trans (congrArg (fun m => m >>= _) (forP_any (p := lastsK ks) (c := "BadTake") fun f hf => ?_)) ?_
  · show ((ofO (dgetM (lookupF (·.c) ks ([] : List (Tx × Bool))) f.1) : M Bool) >>= fun c => if c = true then raise "BadTake" else pure ()) >>= _ = _
    rw [lasts_get nd (h f hf), okb]
    cases lastsK ks f <;> rfl
  · cases fs.any (lastsK ks) <;> rfl
theorem kof_mem {ks : List K3} (nd : (ks.map (·.a)).Nodup) {k : K3} (h : k ∈ ks) : kof ks k.a = some k := by
  induction ks with
  | nil => cases h
  | cons q r ih =>
    obtain ⟨n1, n2⟩ := List.nodup_cons.mp (show (q.a :: r.map (·.a)).Nodup from nd)
    unfold kof
    rw [List.find?_cons]
    rcases List.mem_cons.mp h with e | h
    · rw [e, decide_eq_true rfl]
    · have ne : ¬ q.a = k.a := fun z => n1 (by rw [z]; exact List.mem_map_of_mem h)
      rw [decide_eq_false ne]
      exact ih n2 h
def e0 (t : Tx) : Tx × Tx := ([], t)
theorem lin1_len : ∀ {ys : List Tx}, (∀ y ∈ ys, y.length = 1) → (joinL [] ys).length = ys.length
  | [], _ => rfl
  | [y], h => h y (List.mem_cons_self ..)
  | y :: z :: r, h => by
    have ih := lin1_len (ys := z :: r) fun q hq => h q (List.mem_cons_of_mem _ hq)
    show (y ++ ([] ++ joinL [] (z :: r))).length = _
    rw [List.nil_append, List.length_append, ih, h y (List.mem_cons_self ..), List.length_cons (a := y)]
    omega
theorem mapE_rel {α β : Type} {f : α → M β} {R : α → β → Prop} : ∀ {xs : List α}, (∀ x ∈ xs, Okp (f x) (R x)) → Okp (mapE f xs) fun ys => Paired R xs ys
  | [], _ => ⟨[], rfl, .nil⟩
  | x :: xs, h => by
    obtain ⟨y, e, q⟩ := h x (List.mem_cons_self ..)
    obtain ⟨ys, e2, q2⟩ := mapE_rel (xs := xs) fun z hz => h z (List.mem_cons_of_mem _ hz)
    exact ⟨y :: ys, by unfold mapE; rw [e, e2]; rfl, .cons q q2⟩
theorem lc_rel {α β : Type} {f : α → M β} {R : α → β → Prop} {xs : List α} (hl : xs.length ≤ SZ) (h : ∀ x ∈ xs, Okp (f x) (R x)) : Okp (lc f xs) fun ys => Paired R xs ys := by
  obtain ⟨ys, e, q⟩ := mapE_rel h
  exact ⟨ys, by unfold lc; rw [chk_b hl, e]; rfl, q⟩
theorem prd_r {α β : Type} {R : α → β → Prop} : ∀ {xs : List α} {ys : List β}, Paired R xs ys → ∀ y ∈ ys, ∃ x ∈ xs, R x y
  | _, _, .nil, y, h => by cases h
  | x :: xs, y :: ys, .cons r t, z, h => by
    rcases List.mem_cons.mp h with h | h
    · exact ⟨x, List.mem_cons_self .., h ▸ r⟩
    · obtain ⟨a, ha, hr⟩ := prd_r t z h
      exact ⟨a, List.mem_cons_of_mem _ ha, hr⟩
theorem prd_nd {α β : Type} {R : α → β → Prop} : ∀ {xs : List α} {ys : List β}, Paired R xs ys → xs.Nodup → (∀ a ∈ xs, ∀ b ∈ xs, ∀ y, R a y → R b y → a = b) → ys.Nodup
  | _, _, .nil, _, _ => List.nodup_nil
  | x :: xs, y :: ys, .cons r t, nd, h => by
    obtain ⟨n1, n2⟩ := List.nodup_cons.mp nd
    refine List.nodup_cons.mpr ⟨fun z => ?_, prd_nd t n2 fun a ha b hb => h a (List.mem_cons_of_mem _ ha) b (List.mem_cons_of_mem _ hb)⟩
    obtain ⟨a, ha, hr⟩ := prd_r t y z
    exact n1 (h x (List.mem_cons_self ..) a (List.mem_cons_of_mem _ ha) y r hr ▸ ha)
theorem rangeL_nd (lo : Int) (n : Nat) : (rangeL lo n).Nodup := by
  unfold rangeL
  refine List.Pairwise.map _ (fun a b h => ?_) (List.nodup_range (n := n))
  intro z
  exact h (by omega)
theorem sIx_le {n d : Nat} {v : Int} (hv : 0 ≤ v) : HT.sIx n d (some v) = min v.toNat n := by
  show (if v < 0 then _ else _) = _
  rw [if_neg (by omega)]
theorem cut_pre_len {α : Type} (t : List α) {v : Int} (hv : 0 ≤ v) : (cut t none (some v)).length = min v.toNat t.length := by
  unfold cut
  rw [List.length_take, List.length_drop, sIx_le hv]
  show min (_ - 0) (_ - 0) = _
  omega
theorem emod_inj {s e e' L : Int} (h0 : 0 ≤ e) (h1 : e < L) (h2 : 0 ≤ e') (h3 : e' < L) (h : (s + e) % L = (s + e') % L) : e = e' := by
  have h4 : ((s + e) - (s + e')) % L = 0 := Int.emod_eq_emod_iff_emod_sub_eq_zero.mp h
  have h5 : (s + e) - (s + e') = e - e' := by omega
  rw [h5] at h4
  rcases Int.lt_or_le e e' with z | z
  · have : (e' - e) % L = 0 := by
      have := Int.dvd_of_emod_eq_zero h4
      have h6 : L ∣ e' - e := by
        have := Int.dvd_neg.mpr this
        rwa [Int.neg_sub] at this
      exact Int.emod_eq_zero_of_dvd h6
    rw [Int.emod_eq_of_lt (by omega) (by omega)] at this
    omega
  · rw [Int.emod_eq_of_lt (by omega) (by omega)] at h4
    omega
theorem alnum_nd : alnum.Nodup := by decide +kernel
theorem names_nd (x n : Int) (f : Tx) (h0 : 0 ≤ n) (h1 : n ≤ 12) (hn : n ≤ f.length) (hf : 0 < f.length) (hf2 : f.length ≤ 1000) (hfn : f.Nodup) : Okp (m__law_names x n f) fun xs => xs.length = n.toNat ∧ (∀ y ∈ xs, Nm f y) ∧ xs.Nodup := by
  have hfz : f.length ≤ SZ := by rw [SZ_val]; omega
  have first : ∀ i : Int, 0 ≤ i → i < f.length → Okp (atT f i) fun y => ∃ c, y = [c] ∧ c ∈ f ∧ f[i.toNat]? = some c := fun i i0 i1 => by
    obtain ⟨c, e, e2⟩ := atT_ok (x := f) (i := i) i0 i1 hfz
    exact ⟨[c], e, c, rfl, List.mem_of_getElem? e2, e2⟩
  unfold m__law_names
  rw [show tx "abcdefghijklmnopqrstuvwxyz0123456789ABCDEFGHIJKLMNOPQRSTUVWXYZ" = alnum from rfl]
  simp only [pure_bind]
  refine Okp.bind (mix_ok x 0 (by decide) (by decide)) fun a ha => ?_
  simp only [divI_ok (show (0 : Int) < 5 by decide) (show (5 : Int) < 1073741824 by decide), divI_ok (show (0 : Int) < 3 by decide) (show (3 : Int) < 1073741824 by decide), divI_ok (show (0 : Int) < 33 by decide) (show (33 : Int) < 1073741824 by decide), divI_ok (show (0 : Int) < 7 by decide) (show (7 : Int) < 1073741824 by decide),
    lenT_ok hfz, pure_bind, modI_ok (show (0 : Int) < (f.length : Int) by omega), modI_ok (show (0 : Int) < 3 by decide), modI_ok (show (0 : Int) < 12 by decide), modI_ok (show (0 : Int) < 11 by decide), modI_ok (show (0 : Int) < 62 by decide), range1_ok (show -(2 ^ 62) ≤ (11 : Int) by decide) (show (11 : Int) < 2 ^ 62 by decide), okb, range1_ok (show -(2 ^ 62) ≤ n by omega) (show n < 2 ^ 62 by omega)]
  have s0 : 0 ≤ a / 5 % (f.length : Int) := Int.emod_nonneg _ (by omega)
  have s1 : a / 5 % (f.length : Int) < f.length := Int.emod_lt_of_pos _ (by omega)
  refine Okp.bind (P := fun t : Tx => t.length = 11 ∧ ∀ c ∈ t, isSign c = true) ?_ fun t ⟨t1, t2⟩ => ?_
  · refine Okp.bind (lc_ok (Q := fun y : Tx => ∃ c, y = [c] ∧ isSign c = true) (by rw [rangeL_len, SZ_val]; decide) fun e he => ?_) fun ys ⟨hl, hy⟩ => ?_
    · have hb := mem_rangeL he
      rw [divI_ok (show (0 : Int) < e + 1 by omega) (show e + 1 < 1073741824 by omega), pure_bind, mulI_l (show (-(2 ^ 64) : Int) < e by omega) (show e < 2 ^ 64 by omega), pure_bind]
      exact at_alnum (by omega) (by omega)
    · rw [rangeL_len] at hl
      have l1 : ∀ y ∈ ys, y.length = 1 := fun y h => by obtain ⟨c, rfl, _⟩ := hy y h; rfl
      have e0 : (tx "").length = 0 := by decide +kernel
      have s2 := sum_le (k := 1) (xs := ys) fun y h => Nat.le_of_eq (l1 y h)
      have hl' : ys.length = 11 := hl
      refine ⟨_, joinM_ok (by rw [e0]; omega), by rw [show tx "" = [] from rfl, lin1_len l1]; exact hl', fun c hc => ?_⟩
      rcases joinL_mem _ _ hc with h | ⟨y, h1, h2⟩
      · exact absurd h (by rw [show tx "" = [] from rfl]; exact List.not_mem_nil)
      · obtain ⟨d, rfl, hd⟩ := hy y h1
        rw [List.mem_singleton.mp h2]; exact hd
  have tz : t.length ≤ SZ := by rw [SZ_val]; omega
  have mk : ∀ (hi : Option Int) (j : Int), 0 ≤ j → j < f.length → Okp (atT f j >>= fun x => cutT t none hi >>= fun y => addT x y) (fun y => Nm f y ∧ y.length = 1 + (cut t none hi).length ∧ ∃ c r, y = c :: r ∧ f[j.toNat]? = some c) := fun hi j j0 j1 => by
    refine Okp.bind (first j j0 j1) fun y ⟨c, e, hc, hj⟩ => ?_
    subst e
    have hl := cut_len t none hi
    rw [cutT_ok tz, okb, addT_ok (by show 1 + _ ≤ SZ; rw [SZ_val]; omega)]
    exact ⟨_, rfl, ⟨c, cut t none hi, rfl, hc, by omega, fun d hd => t2 d (cut_mem hd)⟩, by rw [List.length_append]; rfl, c, _, rfl, hj⟩
  by_cases h3 : a % 3 = 0
  · simp only [h3, decide_true, if_true]
    refine Okp.imp (lc_rel (R := fun e y => Nm f y ∧ y.length = 1 + (cut t none (some e)).length) (by rw [rangeL_len, SZ_val]; omega) fun e he => ?_) fun ys p => ⟨?_, fun y hy => ?_, ?_⟩
    · exact Okp.imp (mk _ _ s0 s1) fun y h => ⟨h.1, h.2.1⟩
    · rw [← Paired.length p, rangeL_len]
    · obtain ⟨_, _, h, _⟩ := prd_r p y hy
      exact h
    · refine prd_nd p (rangeL_nd _ _) fun e he e' he' y h h' => ?_
      have b1 := mem_rangeL he
      have b2 := mem_rangeL he'
      have l1 := h.2.symm.trans h'.2
      rw [cut_pre_len t b1.1, cut_pre_len t b2.1] at l1
      omega
  simp only [h3, decide_false, Bool.false_eq_true, if_false]
  by_cases h4 : a % 3 = 1
  · simp only [h4, decide_true, if_true]
    refine Okp.imp (lc_rel (R := fun e y => Nm f y ∧ ∃ c r, y = c :: r ∧ f[((a / 5 % (f.length : Int) + e) % (f.length : Int)).toNat]? = some c) (by rw [rangeL_len, SZ_val]; omega) fun e he => ?_) fun ys p => ⟨?_, fun y hy => ?_, ?_⟩
    · exact Okp.imp (mk _ _ (Int.emod_nonneg _ (by omega)) (Int.emod_lt_of_pos _ (by omega))) fun y h => ⟨h.1, h.2.2⟩
    · rw [← Paired.length p, rangeL_len]
    · obtain ⟨_, _, h, _⟩ := prd_r p y hy
      exact h
    · refine prd_nd p (rangeL_nd _ _) fun e he e' he' y ⟨_, c, r, hy, hc⟩ ⟨_, c', r', hy', hc'⟩ => ?_
      have b1 := mem_rangeL he
      have b2 := mem_rangeL he'
      rw [hy] at hy'
      cases hy'
      have p1 := Int.emod_nonneg (a / 5 % (f.length : Int) + e) (show (f.length : Int) ≠ 0 by omega)
      have p2 := Int.emod_lt_of_pos (a / 5 % (f.length : Int) + e) (show 0 < (f.length : Int) by omega)
      have p3 := Int.emod_nonneg (a / 5 % (f.length : Int) + e') (show (f.length : Int) ≠ 0 by omega)
      have q := (List.getElem?_inj (i := ((a / 5 % (f.length : Int) + e) % (f.length : Int)).toNat) (by omega) hfn).mp (hc.trans hc'.symm)
      exact emod_inj (s := a / 5 % (f.length : Int)) (L := (f.length : Int)) b1.1 (by omega) b2.1 (by omega) (by omega)
  simp only [h4, decide_false, Bool.false_eq_true, if_false, modI_ok (show (0 : Int) < a / 3 % 11 + 1 by omega), pure_bind]
  refine Okp.bind (lc_rel (R := fun e y => ∃ c, y = [c] ∧ isSign c = true ∧ alnum[((a / 7 + e) % 62).toNat]? = some c) (by rw [rangeL_len, SZ_val]; omega) fun e he => ?_) fun ys p => ?_
  · obtain ⟨c, e1, e2⟩ := atT_ok (x := alnum) (i := (a / 7 + e) % 62) (by omega) (by rw [alnum_len]; omega) (by rw [alnum_len, SZ_val]; omega)
    exact ⟨[c], e1, c, rfl, sign_of_alnum (List.mem_of_getElem? e2), e2⟩
  have yl : ys.length = n.toNat := by rw [← Paired.length p, rangeL_len]
  have ynd : ys.Nodup := by
    refine prd_nd p (rangeL_nd _ _) fun e he e' he' y ⟨c, hy, _, hc⟩ ⟨c', hy', _, hc'⟩ => ?_
    have b1 := mem_rangeL he
    have b2 := mem_rangeL he'
    rw [hy] at hy'
    cases hy'
    have q := (List.getElem?_inj (i := ((a / 7 + e) % 62).toNat) (by rw [alnum_len]; omega) alnum_nd).mp (hc.trans hc'.symm)
    omega
  have g0 : 0 ≤ a / 33 % (a / 3 % 11 + 1) := Int.emod_nonneg _ (by omega)
  have g1 : a / 33 % (a / 3 % 11 + 1) < a / 3 % 11 + 1 := Int.emod_lt_of_pos _ (by omega)
  have hpl : (cut t none (some (a / 33 % (a / 3 % 11 + 1)))).length = (a / 33 % (a / 3 % 11 + 1)).toNat := by rw [cut_pre_len t g0]; omega
  refine Okp.imp (lc_rel (R := fun e y => Nm f y ∧ ∃ d, e = [d] ∧ y[1 + (a / 33 % (a / 3 % 11 + 1)).toNat]? = some d) (by rw [SZ_val]; omega) fun e he => ?_) fun zs q => ⟨?_, fun y hy => ?_, ?_⟩
  · obtain ⟨_, _, d, rfl, hd, _⟩ := prd_r p e he
    simp only [bind_assoc]
    refine Okp.bind (first _ s0 s1) fun y ⟨c, e, hc, _⟩ => ?_
    subst e
    have two : (cut t none (some (a / 33 % (a / 3 % 11 + 1)))).length + (cut t (some (a / 33 % (a / 3 % 11 + 1))) (some (a / 3 % 11))).length ≤ 10 := by
      rw [hpl]
      unfold cut
      rw [List.length_take, List.length_drop, sIx_le (by omega), sIx_le g0]
      omega
    rw [cutT_ok tz, okb, addT_ok (by show 1 + _ ≤ SZ; rw [SZ_val]; omega), pure_bind, addT_ok (by simp only [List.length_append, List.length_cons, List.length_nil]; rw [SZ_val]; omega), pure_bind, cutT_ok tz, okb, addT_ok (by simp only [List.length_append, List.length_cons, List.length_nil]; rw [SZ_val]; omega)]
    refine ⟨_, rfl, ⟨c, cut t none (some (a / 33 % (a / 3 % 11 + 1))) ++ [d] ++ cut t (some (a / 33 % (a / 3 % 11 + 1))) (some (a / 3 % 11)), by simp, hc, ?_, fun u hu => ?_⟩, d, rfl, ?_⟩
    · simp only [List.length_append, List.length_cons, List.length_nil]; omega
    · simp only [List.mem_append, List.mem_singleton] at hu
      rcases hu with (h | h) | h
      · exact t2 u (cut_mem h)
      · rw [h]; exact hd
      · exact t2 u (cut_mem h)
    · have el : ([c] ++ cut t none (some (a / 33 % (a / 3 % 11 + 1)))).length = 1 + (a / 33 % (a / 3 % 11 + 1)).toNat := by rw [List.length_append, hpl]; rfl
      rw [List.append_assoc, List.getElem?_append_right (by rw [el]; exact Nat.le_refl _), el, Nat.sub_self]
      rfl
  · rw [← Paired.length q, yl]
  · obtain ⟨_, _, h, _⟩ := prd_r q y hy
    exact h
  · exact prd_nd q ynd fun e he e' he' y ⟨_, d, h1, h2⟩ ⟨_, d', h1', h2'⟩ => by
      rw [h2] at h2'
      cases h2'
      rw [h1, h1']
theorem small_len : small.length = 26 := by decide +kernel
theorem small_nd : small.Nodup := by decide +kernel
theorem titles_ok (x n : Int) (h0 : 0 ≤ n) (h1 : n ≤ 12) : Okp (m__law_titles x n) fun xs => xs.length = n.toNat ∧ (∀ y ∈ xs, Nm small y) ∧ xs.Nodup := by
  unfold m__law_titles
  simp only [pure_bind]
  exact names_nd x n small h0 h1 (by rw [small_len]; omega) (by rw [small_len]; decide) (by rw [small_len]; decide) small_nd
theorem great_len : great.length = 26 := by decide +kernel
theorem great_nd : great.Nodup := by decide +kernel
theorem opens_ok (x n : Int) (h0 : 0 ≤ n) (h1 : n ≤ 12) : Okp (m__law_opens x n) fun xs => xs.length = n.toNat ∧ (∀ y ∈ xs, Nm great y) ∧ xs.Nodup := by
  unfold m__law_opens
  simp only [pure_bind]
  exact names_nd x n great h0 h1 (by rw [great_len]; omega) (by rw [great_len]; decide) (by rw [great_len]; decide) great_nd
def wordsF : Tx := tx "abcdefghijklmnopqrstuvwxyz0123456789"
theorem words_len : wordsF.length = 36 := by decide +kernel
theorem words_nd : wordsF.Nodup := by decide +kernel
theorem words_ok (x n : Int) (h0 : 0 ≤ n) (h1 : n ≤ 12) : Okp (m__law_words x n) fun xs => xs.length = n.toNat ∧ (∀ y ∈ xs, Nm wordsF y) ∧ xs.Nodup := by
  unfold m__law_words
  simp only [pure_bind]
  exact names_nd x n wordsF h0 h1 (by rw [words_len]; omega) (by rw [words_len]; decide) (by rw [words_len]; decide) words_nd
theorem great_sign : ∀ c ∈ great, isSign c = true := by decide +kernel
theorem nm_great {y : Tx} (h : Nm great y) : isNm y = true ∧ isOpn y = true := by
  have n := h.name great_sign
  refine ⟨n, ?_⟩
  unfold isOpn
  rw [n]
  obtain ⟨c, r, rfl, hc, _⟩ := h
  exact decide_eq_true hc
theorem words_sign : ∀ c ∈ tx "abcdefghijklmnopqrstuvwxyz0123456789", isSign c = true := by decide +kernel
theorem words_notGreat : ∀ c ∈ wordsF, c ∉ great := by decide +kernel
theorem nm_word {y : Tx} (h : Nm wordsF y) : isNm y = true ∧ isOpn y = false := by
  have n := h.name words_sign
  refine ⟨n, ?_⟩
  unfold isOpn
  rw [n]
  obtain ⟨c, r, rfl, hc, _⟩ := h
  exact decide_eq_false (words_notGreat c hc)
theorem small_sign : ∀ c ∈ small, isSign c = true := by decide +kernel
theorem Nm.kind {y : Tx} (h : Nm small y) : isKd y = true := by
  unfold isKd
  rw [h.name small_sign]
  obtain ⟨c, r, rfl, hc, _⟩ := h
  exact decide_eq_true hc
theorem small_notGreat : ∀ c ∈ small, c ∉ great := by decide +kernel
theorem nm_title {y : Tx} (h : Nm small y) : isKd y = true ∧ isOpn y = false := by
  have n := h.name small_sign
  refine ⟨h.kind, ?_⟩
  unfold isOpn
  rw [n]
  obtain ⟨c, r, rfl, hc, _⟩ := h
  exact decide_eq_false (small_notGreat c hc)
def flagRows : List (List Bool) := [[false, true, false, true], [true, false, false, true], [false, false, true, true], [true, false, true, false]]
theorem catM_ok {α : Type} {xs ys : List α} (h : xs.length + ys.length ≤ SZ) : catM xs ys = .ok (xs ++ ys) := by unfold catM; rw [chk_b h]; rfl
theorem atL_mem {α : Type} {xs : List α} {i : Int} (h0 : 0 ≤ i) (h : i < xs.length) : ∃ a, atL xs i = .ok a ∧ a ∈ xs := atL_ok h0 h
theorem four_of {α : Type} {xs : List α} (h : xs.length = 4) : ∃ a b c d, xs = [a, b, c, d] := by
  match xs, h with
  | [a, b, c, d], _ => exact ⟨a, b, c, d, rfl⟩
theorem atL_some {α : Type} {xs : List α} {i : Int} (h0 : 0 ≤ i) (h : i < xs.length) : ∃ a, atL xs i = .ok a ∧ xs[i.toNat]? = some a := by
  obtain ⟨a, e, e2⟩ := atI_some h0 h
  exact ⟨a, by unfold atL; rw [e]; rfl, e2⟩
theorem kinds_ok (x : Int) (sizes : List Int) (h0 : 0 < sizes.length) (h1 : sizes.length ≤ 100) (hs : ∀ s ∈ sizes, 0 ≤ s ∧ s < 5) : Okp (m__law_kinds x sizes) fun ks => ks.length = 4 ∧ (∀ k ∈ ks, GK k ∧ isOpn k.a = false ∧ k.b ∈ sizes) ∧ (ks.map (·.a)).Nodup ∧ ks.map (·.c) ∈ flagRows := by
  obtain ⟨ts, et, tl, tn, tnd⟩ := titles_ok x 4 (by decide) (by decide)
  have tl : ts.length = 4 := tl
  obtain ⟨n, en, hn⟩ := mix_ok x 1 (by decide) (by decide)
  have cat : (catM [[false, true, false, true], [true, false, false, true]] [[false, false, true, true], [true, false, true, false]] : M (List (List Bool))) = .ok flagRows := catM_ok (by rw [SZ_val]; decide)
  unfold m__law_kinds
  simp only [pure_bind, et, en, okb, cat, modI_ok (show (0 : Int) < 4 by decide), range1_ok (show -(2 ^ 62) ≤ (4 : Int) by decide) (show (4 : Int) < 2 ^ 62 by decide)]
  obtain ⟨row, er, hr⟩ := atL_mem (xs := flagRows) (i := n % 4) (by omega) (by show n % 4 < 4; omega)
  have rl : ∀ r ∈ flagRows, r.length = 4 := by decide
  obtain ⟨w0, w1, w2, w3, rfl⟩ := four_of (rl row hr)
  have rl : ([w0, w1, w2, w3] : List Bool).length = 4 := rfl
  simp only [er, okb, pure_bind]
  refine Okp.imp (lc_rel (R := fun e (k : K3) => ts[e.toNat]? = some k.a ∧ ([w0, w1, w2, w3] : List Bool)[e.toNat]? = some k.c ∧ k.b ∈ sizes) (by rw [rangeL_len, SZ_val]; decide) fun e he => ?_) fun ks p => ?_
  · have hb := mem_rangeL he
    have hb2 : e < 4 := by have := hb.2; simpa using this
    obtain ⟨t, t1, t2⟩ := atL_some (xs := ts) hb.1 (by omega)
    obtain ⟨f, f1, f2⟩ := atL_some (xs := [w0, w1, w2, w3]) hb.1 (by omega)
    simp only [t1, okb, mulI_l (show -(2 ^ 64) < (3 : Int) by decide) (show (3 : Int) < 2 ^ 64 by decide), pure_bind, divI_ok (show (0 : Int) < 3 * e + 5 by omega) (show 3 * e + 5 < 1073741824 by omega), modI_ok (show (0 : Int) < (sizes.length : Int) by omega)]
    obtain ⟨s, s1, s2⟩ := atL_mem (xs := sizes) (i := n / (3 * e + 5) % (sizes.length : Int)) (Int.emod_nonneg _ (by omega)) (Int.emod_lt_of_pos _ (by omega))
    simp only [s1, okb, f1]
    exact ⟨_, rfl, t2, f2, s2⟩
  · have kl : ks.length = 4 := by rw [← Paired.length p, rangeL_len]; rfl
    refine ⟨kl, fun k hk => ?_, ?_, ?_⟩
    · obtain ⟨e, _, h1, _, h3⟩ := prd_r p k hk
      have := nm_title (tn _ (List.mem_of_getElem? h1))
      exact ⟨⟨this.1, hs _ h3⟩, this.2, h3⟩
    · have pa : Paired (fun e (a : Tx) => ts[e.toNat]? = some a) (rangeL 0 (Int.toNat 4)) (ks.map (·.a)) := by
        have gen : ∀ {es : List Int} {ks : List K3}, Paired (fun e (k : K3) => ts[e.toNat]? = some k.a ∧ ([w0, w1, w2, w3] : List Bool)[e.toNat]? = some k.c ∧ k.b ∈ sizes) es ks → Paired (fun e (a : Tx) => ts[e.toNat]? = some a) es (ks.map (·.a)) := by
          intro es ks p
          induction p with
          | nil => exact .nil
          | cons r _ ih => exact .cons r.1 ih
        exact gen p
      refine prd_nd pa (rangeL_nd _ _) fun e he e' he' y h h' => ?_
      have b1 := mem_rangeL he
      have b2 := mem_rangeL he'
      have b1' : e < 4 := by have := b1.2; simpa using this
      have q := (List.getElem?_inj (i := e.toNat) (by omega) tnd).mp (h.trans h'.symm)
      omega
    · have gen : ∀ {es : List Int} {ks : List K3}, Paired (fun e (k : K3) => ts[e.toNat]? = some k.a ∧ ([w0, w1, w2, w3] : List Bool)[e.toNat]? = some k.c ∧ k.b ∈ sizes) es ks → Paired (fun e (c : Bool) => ([w0, w1, w2, w3] : List Bool)[e.toNat]? = some c) es (ks.map (·.c)) := by
        intro es ks p
        induction p with
        | nil => exact .nil
        | cons r _ ih => exact .cons r.2.1 ih
      have pc := gen p
      have er : rangeL 0 (Int.toNat 4) = [0, 1, 2, 3] := by decide
      rw [er] at pc
      generalize ks.map (·.c) = cs at pc
      cases pc with
      | cons r0 pc => cases pc with
        | cons r1 pc => cases pc with
          | cons r2 pc => cases pc with
            | cons r3 pc =>
              cases pc
              have e0 : some w0 = some _ := r0
              have e1 : some w1 = some _ := r1
              have e2 : some w2 = some _ := r2
              have e3 : some w3 = some _ := r3
              cases e0; cases e1; cases e2; cases e3
              exact hr
def FK (ks : List K3) (ns : List Tx) (f : Fct) : Prop := ∃ k ∈ ks, f.1 = k.a ∧ ((List.length (α := Tx) f.2 : Nat) : Int) = k.b ∧ ∀ a ∈ (show List Tx from f.2), a ∈ ns
theorem forP_ind {S α : Type} {f : S → α → M S} (I : Nat → S → Prop) : ∀ (xs : List α) (k : Nat) (s : S), (∀ (j : Nat) (s : S) (x : α), x ∈ xs → j < k + xs.length → I j s → Okp (f s x) (I (j + 1))) → I k s → Okp (forP f s xs) (I (k + xs.length))
  | [], k, s, _, h => ⟨s, rfl, h⟩
  | x :: xs, k, s, hf, h => by
    refine Okp.bind (hf k s x (List.mem_cons_self ..) (by rw [List.length_cons]; omega) h) fun s' h' => ?_
    have := forP_ind I xs (k + 1) s' (fun j s y hy hj => hf j s y (List.mem_cons_of_mem _ hy) (by rw [List.length_cons]; omega)) h'
    rw [show k + 1 + xs.length = k + (x :: xs).length by rw [List.length_cons]; omega] at this
    exact this
theorem fact_ok {ks : List K3} {ns : List Tx} (x : Int) (hk : 0 < ks.length) (hk2 : ks.length ≤ 1000) (hg : ∀ k ∈ ks, GK k) (hn : 0 < ns.length) (hn2 : ns.length ≤ 1000) : Okp (m__law_fact ks ns x) (FK ks ns) := by
  unfold m__law_fact
  simp only [pure_bind]
  refine Okp.bind (mix_ok x 2 (by decide) (by decide)) fun a ha => ?_
  obtain ⟨k, ek, mk⟩ := atL_mem (xs := ks) (i := a % (ks.length : Int)) (Int.emod_nonneg _ (by omega)) (Int.emod_lt_of_pos _ (by omega))
  have gk := hg k mk
  have g1 := gk.2.1
  have g2 := gk.2.2
  simp only [modI_ok (show (0 : Int) < (ks.length : Int) by omega), modI_ok (show (0 : Int) < (ns.length : Int) by omega), pure_bind, ek, okb, divI_ok (show (0 : Int) < 5 by decide) (show (5 : Int) < 1073741824 by decide), divI_ok (show (0 : Int) < (ns.length : Int) by omega) (show (ns.length : Int) < 1073741824 by omega), range1_ok (show -(2 ^ 62) ≤ k.b by omega) (show k.b < 2 ^ 62 by omega)]
  refine Okp.bind (P := fun s : Int × List Tx => s.2.length = k.b.toNat ∧ ∀ y ∈ s.2, y ∈ ns) ?_ fun s ⟨s1, s2⟩ => ?_
  · refine Okp.imp (forP_ind (fun n (s : Int × List Tx) => s.2.length = n ∧ ∀ y ∈ s.2, y ∈ ns) (rangeL 0 k.b.toNat) 0 (a / 5, []) (fun n s e he hn' ⟨i1, i2⟩ => ?_) ⟨rfl, fun y hy => by cases hy⟩) fun s h => ⟨by rw [h.1, rangeL_len]; omega, h.2⟩
    rw [rangeL_len] at hn'
    have hb := mem_rangeL he
    obtain ⟨y, ey, my⟩ := atL_mem (xs := ns) (i := s.1 % (ns.length : Int)) (Int.emod_nonneg _ (by omega)) (Int.emod_lt_of_pos _ (by omega))
    simp only [ey, okb, chk_b (show s.2.length < SZ by rw [SZ_val]; omega), pure_bind, mulI_l (show -(2 ^ 64) < (977 : Int) by decide) (show (977 : Int) < 2 ^ 64 by decide)]
    refine ⟨_, rfl, by rw [List.length_append, List.length_singleton, i1], fun z hz => ?_⟩
    rcases List.mem_append.mp hz with hz | hz
    · exact i2 z hz
    · rw [List.mem_singleton.mp hz]; exact my
  · refine ⟨(k.a, s.2), rfl, k, mk, rfl, ?_, s2⟩
    show ((s.2.length : Nat) : Int) = k.b
    rw [s1]; omega
theorem fk_gf {ks : List K3} {ns : List Tx} {f : Fct} (hg : ∀ k ∈ ks, GK k) (hn : ∀ n ∈ ns, isNm n = true) (h : FK ks ns f) : GF f := by
  obtain ⟨k, hk, h1, h2, h3⟩ := h
  have g := hg k hk
  refine ⟨by rw [h1]; exact g.1, fun a ha => hn a (h3 a ha), ?_⟩
  have := g.2.2
  omega
theorem isNm_len {x : Tx} (h : isNm x = true) : x.length ≤ 12 := by
  unfold isNm at h
  simp only [Bool.and_eq_true, decide_eq_true_eq] at h
  exact h.1.2
def nmT (x : Tx) : Prop := x ≠ [] ∧ ∀ c ∈ x, isSign c = true
theorem nmT_of {x : Tx} (h : isNm x = true) : nmT x := by
  unfold isNm at h
  simp only [Bool.and_eq_true, decide_eq_true_eq, List.all_eq_true] at h
  refine ⟨fun z => ?_, h.2⟩
  rw [z] at h
  exact absurd h.1.1 (by decide)
theorem upper_all : ∀ c ∈ alnum, Txt.isupper (S [c]) = decide (c ∈ great) := by decide +kernel
theorem sign_alnum {c : Nat} (h : isSign c = true) : c ∈ alnum := by
  rw [← alnum_mem] at h
  exact of_decide_eq_true h
theorem upper_nm {x : Tx} (h : isNm x = true) : (atT x 0 >>= fun c => (pure (Txt.isupper (S c)) : M Bool)) = .ok (isOpn x) := by
  have l := isNm_len h
  have hs := (nmT_of h).2
  match x, h with
  | [], h => exact absurd h (by decide)
  | c :: r, h =>
    obtain ⟨d, e, e2⟩ := atT_ok (x := c :: r) (i := 0) (by decide) (by rw [List.length_cons]; omega) (by rw [SZ_val]; omega)
    have : d = c := by simpa using e2.symm
    subst this
    rw [e, pure_bind, upper_all d (sign_alnum (hs d (List.mem_cons_self ..)))]
    unfold isOpn
    rw [h]
    rfl
/-! pools -/
abbrev PairT : Type := Tx × Tx
abbrev PoolT : Type := T4 (Tup Fct) (Tup Fct) (TupN PairT) Bool
abbrev SD : Type := List (Tx × Tx)
def isWd (x : Tx) : Bool := isNm x && !decide (x.headD 0 ∈ great)
theorem is_word_eq {x : Tx} (hz : x.length ≤ SZ) : m_is_word x = .ok (isWd x) := by
  unfold m_is_word isWd
  simp only [pure_bind, is_name_eq hz, okb]
  cases h : isNm x with
  | false => rfl
  | true =>
    match x, h with
    | [], h => exact absurd h (by decide)
    | c :: r, h =>
      obtain ⟨d, e, e2⟩ := atT_ok (x := c :: r) (i := 0) (by decide) (by rw [List.length_cons]; omega) hz
      have : d = c := by simpa using e2.symm
      subst this
      rw [if_pos rfl, e, pure_bind]
      rfl
theorem isNm_sz {x : Tx} (h : isNm x = true) : x.length ≤ SZ := Nat.le_trans (isNm_len h) (by rw [SZ_val]; decide)
/-! what a name stands for -/
def sub (d : SD) (n : Tx) : Tx := (dgetM d n).getD n
def ren (d : SD) (f : Fct) : Fct := (f.1, (List.map (α := Tx) (sub d) f.2 : List Tx))
theorem renamed_fact_eq {d : SD} {f : Fct} (h : List.length (α := Tx) f.2 ≤ SZ) : m_renamed_fact f d = .ok (ren d f) := by
  unfold m_renamed_fact
  simp only [pure_bind]
  have e : lc (α := Tx) (fun e5 => (pure ((dgetM (α := Tx) d e5).getD e5) : M Tx)) f.2 = .ok (List.map (α := Tx) (sub d) f.2) := lc_map (α := Tx) (g := sub d) h (fun x _ => rfl)
  show ((lc (α := Tx) (fun e5 => (pure ((dgetM (α := Tx) d e5).getD e5) : M Tx)) f.2) >>= fun x10 => (pure x10 : M (Tup Tx))) >>= (fun x12 => (pure (f.1, x12) : M Fct)) = _
  rw [e]
  rfl
def lrn (d : SD) (n : Tx) : SD := if (isOpn n && !(dgetM d n).isSome) = true then dputM d n n else d
def lrnL (d : SD) (ns : List Tx) : SD := ns.foldl lrn d
theorem lrn_len (d : SD) (n : Tx) : (lrn d n).length ≤ d.length + 1 := by
  unfold lrn
  split
  · exact dput_len d n n
  · exact Nat.le_succ _
theorem lrnL_len (d : SD) (ns : List Tx) : (lrnL d ns).length ≤ d.length + ns.length := by
  unfold lrnL
  induction ns generalizing d with
  | nil => exact Nat.le_refl _
  | cons n ns ih =>
    have := ih (lrn d n)
    have := lrn_len d n
    rw [List.foldl_cons, List.length_cons]
    omega
theorem learn_names_eq {d : SD} {ns : List Tx} (hn : ∀ n ∈ ns, isNm n = true) (hl : d.length + ns.length ≤ 16777215) : m_learn_names d ns = .ok ((), lrnL d ns) := by
  unfold m_learn_names
  simp only [pure_bind, bind_pure]
  refine Eq.trans (congrArg (fun m => m >>= _) (forP_fold (f := lrn) (fun j (s : SD) => s.length ≤ d.length + j) ns 0 d (fun j s n hn' hj hI => ⟨?_, ?_⟩) (Nat.le_refl _)).1) rfl
  · have hI : s.length ≤ d.length + j := hI
    show ((m_is_open n >>= fun c10 => if c10 = true then (pure (!(dgetM (α := Tx) s n).isSome) : M Bool) else pure false) >>= fun c11 => if c11 = true then ((chk (List.length (α := Tx × Tx) s < SZ) >>= fun _ => (pure (dputM s n n) : M (List (Tx × Tx)))) >>= fun a => (pure a : M (Dic Tx))) else (pure s : M (Dic Tx))) = _
    rw [is_open_eq (isNm_sz (hn n hn')), okb]
    unfold lrn
    cases isOpn n with
    | false => rfl
    | true =>
      rw [if_pos rfl, pure_bind, Bool.true_and]
      cases (dgetM (α := Tx) s n).isSome with
      | true => rfl
      | false =>
        rw [chk_b (show s.length < SZ by rw [SZ_val]; omega)]
        rfl
  · show (lrn s n).length ≤ d.length + (j + 1)
    have := lrn_len s n
    have hI : s.length ≤ d.length + j := hI
    omega
/-! shaped data -/
theorem sign_small {c : Nat} (h : isSign c = true) : c < 1114112 := by
  have h : c ∈ alnum := by rw [← alnum_mem] at h; exact of_decide_eq_true h
  exact (show ∀ c ∈ alnum, c < 1114112 by decide +kernel) c h
theorem shp_nm {x : Tx} (h : isNm x = true) : PyData.canLay0 (PyD.dat x) = true := by
  show PyData.canLay0 (.str (G.S x)) = true
  simp only [PyData.canLay0]
  unfold PyData.strOk
  refine Array.all_eq_true'.mpr fun c hc => ?_
  have hc : c ∈ x := by simpa [G.S] using hc
  exact decide_eq_true (sign_small ((nmT_of h).2 c hc))
theorem canAll {α : Type} [Py α] [DecidableEq α] [PyD α] : ∀ xs : List α, (∀ x ∈ xs, PyData.canLay0 (PyD.dat x) = true) → PyData.canLayAll0 (xs.map PyD.dat) = true
  | [], _ => by simp only [List.map_nil, PyData.canLayAll0]
  | x :: xs, h => by
    simp only [List.map_cons, PyData.canLayAll0, Bool.and_eq_true]
    exact ⟨h x (List.mem_cons_self ..), canAll xs fun y hy => h y (List.mem_cons_of_mem _ hy)⟩
theorem depAll {α : Type} [Py α] [DecidableEq α] [PyD α] {k : Nat} : ∀ xs : List α, (∀ x ∈ xs, PyData.depth (PyD.dat x) ≤ k) → PyData.depthAll (xs.map PyD.dat) ≤ k
  | [], _ => by simp only [List.map_nil, PyData.depthAll]; exact Nat.zero_le _
  | x :: xs, h => by
    simp only [List.map_cons, PyData.depthAll]
    exact Nat.max_le.mpr ⟨h x (List.mem_cons_self ..), depAll xs fun y hy => h y (List.mem_cons_of_mem _ hy)⟩
theorem dep_tx (x : Tx) : PyData.depth (PyD.dat x) = 0 := by show PyData.depth (.str _) = 0; simp only [PyData.depth]
theorem lay_fact {f : Fct} (h : GF f) : PyData.canLay0 (PyD.dat f) = true ∧ PyData.depth (PyD.dat f) ≤ 2 := by
  obtain ⟨h1, h2, h3⟩ := h
  have e : PyD.dat f = .tuple [PyD.dat f.1, .tuple (List.map (α := Tx) PyD.dat f.2)] := rfl
  rw [e]
  have k1 : isNm f.1 = true := by
    unfold isKd at h1
    rw [Bool.and_eq_true] at h1
    exact h1.1
  have d2 : PyData.depthAll (List.map (α := Tx) PyD.dat f.2) ≤ 0 := depAll (k := 0) (α := Tx) f.2 fun x _ => Nat.le_of_eq (dep_tx x)
  constructor
  · simp only [PyData.canLay0, PyData.canLayAll0, Bool.and_eq_true, Bool.and_true]
    exact ⟨shp_nm k1, canAll _ fun x hx => shp_nm (h2 x hx)⟩
  · simp only [PyData.depth, PyData.depthAll]
    rw [dep_tx]
    omega
theorem shp_of {α : Type} [Py α] [DecidableEq α] [PyD α] {a : α} {k : Nat} (h : PyData.canLay0 (PyD.dat a) = true ∧ PyData.depth (PyD.dat a) ≤ k) (hk : k ≤ 64) : Shp a := by
  show (PyData.canLay0 (PyD.dat a) && decide (PyData.depth (PyD.dat a) ≤ 64)) = true
  rw [h.1, decide_eq_true (by omega : PyData.depth (PyD.dat a) ≤ 64)]
  rfl
theorem shp_fact {f : Fct} (h : GF f) : Shp f := shp_of (lay_fact h) (by decide)
theorem shp_facts {fs : List Fct} (h : ∀ f ∈ fs, GF f) : Shp fs := by
  refine shp_of (k := 3) ⟨?_, ?_⟩ (by decide)
  · show PyData.canLay0 (.list (fs.map PyD.dat)) = true
    simp only [PyData.canLay0]
    exact canAll fs fun f hf => (lay_fact (h f hf)).1
  · show PyData.depth (.list (fs.map PyD.dat)) ≤ 3
    simp only [PyData.depth]
    have := depAll (k := 2) fs fun f hf => (lay_fact (h f hf)).2
    omega
theorem shp_pair {q : PairT} (h : isNm q.1 = true) (h2 : isNm q.2 = true) : Shp q := by
  refine shp_of (k := 1) ⟨?_, ?_⟩ (by decide)
  · show PyData.canLay0 (.tuple [PyD.dat q.1, PyD.dat q.2]) = true
    simp only [PyData.canLay0, PyData.canLayAll0, Bool.and_eq_true, Bool.and_true]
    exact ⟨shp_nm h, shp_nm h2⟩
  · show PyData.depth (.tuple [PyD.dat q.1, PyD.dat q.2]) ≤ 1
    simp only [PyData.depth, PyData.depthAll]
    rw [dep_tx, dep_tx]
    decide
theorem sortM_eq {α : Type} [Py α] [DecidableEq α] [PyD α] {xs : List α} (hl : xs.length ≤ SZ) (h : ∀ x ∈ xs, Shp x) : sortM xs = .ok (srtD xs) := by
  unfold sortM
  rw [chk_b ⟨hl, h⟩]
  rfl
/-! a dict's names are good -/
def GD (d : SD) : Prop := ∀ q ∈ d, isNm q.1 = true ∧ isNm q.2 = true
theorem dget_mem {α : Type} {d : List (Tx × α)} {n : Tx} {a : α} (h : dgetM d n = some a) : (n, a) ∈ d := by
  induction d with
  | nil => cases h
  | cons q d ih =>
    unfold dgetM at h
    by_cases e : q.1 = n
    · rw [if_pos e] at h
      cases h
      rw [← e]
      exact List.mem_cons_self ..
    · rw [if_neg e] at h
      exact List.mem_cons_of_mem _ (ih h)
theorem sub_nm {d : SD} (h : GD d) {n : Tx} (hn : isNm n = true) : isNm (sub d n) = true := by
  unfold sub
  cases e : dgetM d n with
  | none => exact hn
  | some a => exact (h _ (dget_mem e)).2
theorem ren_gf {d : SD} (h : GD d) {f : Fct} (hf : GF f) : GF (ren d f) := by
  obtain ⟨h1, h2, h3⟩ := hf
  refine ⟨h1, fun a ha => ?_, ?_⟩
  · obtain ⟨b, hb, e⟩ := List.mem_map.mp (show a ∈ List.map (α := Tx) (sub d) f.2 from ha)
    rw [← e]
    exact sub_nm h (h2 b hb)
  · exact Nat.le_trans (Nat.le_of_eq (List.length_map (as := (show List Tx from f.2)) (sub d))) h3
theorem dput_mem {α : Type} {d : List (Tx × α)} {k : Tx} {a : α} {q : Tx × α} (h : q ∈ dputM d k a) : q ∈ d ∨ q = (k, a) := by
  unfold dputM at h
  split at h
  · obtain ⟨p, hp, e⟩ := List.mem_map.mp h
    by_cases c : p.1 = k
    · rw [if_pos c] at e
      exact .inr (by rw [← e, c])
    · rw [if_neg c] at e
      exact .inl (e ▸ hp)
  · rcases List.mem_append.mp h with z | z
    · exact .inl z
    · exact .inr (List.mem_singleton.mp z)
theorem lrn_gd {d : SD} (h : GD d) {n : Tx} (hn : isNm n = true) : GD (lrn d n) := by
  unfold lrn
  split
  · intro q hq
    rcases dput_mem hq with z | z
    · exact h q z
    · rw [z]; exact ⟨hn, hn⟩
  · exact h
theorem lrnL_gd {ns : List Tx} : ∀ {d : SD}, GD d → (∀ n ∈ ns, isNm n = true) → GD (lrnL d ns) := by
  induction ns with
  | nil => exact fun h _ => h
  | cons n ns ih => exact fun h hn => ih (lrn_gd h (hn n (List.mem_cons_self ..))) fun m hm => hn m (List.mem_cons_of_mem _ hm)
/-! each once -/
def nubL {α : Type} [DecidableEq α] (xs : List α) : List α := xs.foldl (fun acc x => if x ∈ acc then acc else acc ++ [x]) []
theorem putF_keys {κ α : Type} [DecidableEq κ] (d : List (κ × α)) (k : κ) (v : α) : (G.putF d k v).map (·.1) = if k ∈ d.map (·.1) then d.map (·.1) else d.map (·.1) ++ [k] := by
  unfold G.putF
  by_cases h : k ∈ d.map (·.1)
  · have h2 : d.any (fun q => decide (q.1 = k)) = true := by
      obtain ⟨q, hq, e⟩ := List.mem_map.mp h
      exact List.any_eq_true.mpr ⟨q, hq, decide_eq_true e⟩
    rw [if_pos h, if_pos h2, List.map_map]
    refine List.map_congr_left fun q _ => ?_
    show (if q.1 = k then (q.1, v) else q).1 = q.1
    split <;> rfl
  · have h2 : ¬ d.any (fun q => decide (q.1 = k)) = true := fun z => by
      obtain ⟨q, hq, e⟩ := List.any_eq_true.mp z
      exact h (List.mem_map.mpr ⟨q, hq, of_decide_eq_true e⟩)
    rw [if_neg h, if_neg h2, List.map_append]
    rfl
theorem once_keys {κ α : Type} [DecidableEq κ] (v : α) (xs : List κ) : ∀ d : List (κ × α), (xs.foldl (fun d k => G.putF d k v) d).map (·.1) = xs.foldl (fun acc x => if x ∈ acc then acc else acc ++ [x]) (d.map (·.1)) := by
  induction xs with
  | nil => exact fun _ => rfl
  | cons x xs ih =>
    intro d
    rw [List.foldl_cons, ih, putF_keys, List.foldl_cons]
theorem nub_mem {α : Type} [DecidableEq α] {x : α} (xs : List α) : ∀ acc : List α, x ∈ xs.foldl (fun acc x => if x ∈ acc then acc else acc ++ [x]) acc ↔ x ∈ acc ∨ x ∈ xs := by
  induction xs with
  | nil => exact fun acc => by simp
  | cons y xs ih =>
    intro acc
    rw [List.foldl_cons, ih]
    by_cases h : y ∈ acc
    · rw [if_pos h, List.mem_cons]
      constructor
      · rintro (z | z)
        · exact .inl z
        · exact .inr (.inr z)
      · rintro (z | z | z)
        · exact .inl z
        · rw [z]; exact .inl h
        · exact .inr z
    · rw [if_neg h, List.mem_append, List.mem_singleton, List.mem_cons, or_assoc]
theorem nub_len {α : Type} [DecidableEq α] (xs : List α) : ∀ acc : List α, (xs.foldl (fun acc x => if x ∈ acc then acc else acc ++ [x]) acc).length ≤ acc.length + xs.length := by
  induction xs with
  | nil => exact fun acc => Nat.le_refl _
  | cons y xs ih =>
    intro acc
    rw [List.foldl_cons, List.length_cons]
    have := ih (if y ∈ acc then acc else acc ++ [y])
    have h2 : (if y ∈ acc then acc else acc ++ [y]).length ≤ acc.length + 1 := by
      split
      · exact Nat.le_succ _
      · rw [List.length_append]; exact Nat.le_refl _
    omega
def settle (bag kept : List Fct) (d : SD) : PoolT := ⟨srtD (bag.map (ren d)), srtD (nubL (kept.map (ren d))), srtD d, false⟩
theorem gf_sz {f : Fct} (h : GF f) : List.length (α := Tx) f.2 ≤ SZ := Nat.le_trans h.2.2 (by rw [SZ_val]; decide)
theorem settled_pool_eq {bag kept : List Fct} {d : SD} (hb : ∀ f ∈ bag, GF f) (hk : ∀ f ∈ kept, GF f) (hd : GD d) (lb : bag.length ≤ 1000000) (lk : kept.length ≤ 1000000) (ld : d.length ≤ 1000000) : m_settled_pool bag kept d = .ok (settle bag kept d) := by
  have hS : SZ = 16777216 := SZ_val
  unfold m_settled_pool
  simp only [pure_bind, bind_pure]
  have e0 : lc (fun e2 => (pure d : M (Dic Tx)) >>= fun x4 => m_renamed_fact e2 x4) bag = .ok (bag.map (ren d)) := lc_map (g := ren d) (by omega) (fun f hf => renamed_fact_eq (gf_sz (hb f hf)))
  refine Eq.trans (congrArg (fun m => (m >>= fun x6 => sortM x6) >>= _) e0) ?_
  rw [okb, sortM_eq (by rw [List.length_map]; omega) (fun f hf => by
    obtain ⟨g, hg, e⟩ := List.mem_map.mp hf
    rw [← e]
    exact shp_fact (ren_gf hd (hb g hg))), okb]
  have lp := forP_fold (g := fun (s8 : List (Fct × Bool)) (e9 : Fct) => (m_renamed_fact e9 d >>= fun k18 => chk (s8.length < SZ) >>= fun _ => (pure (G.putF s8 k18 true) : M (List (Fct × Bool))))) (f := fun s f => G.putF s (ren d f) true) (fun j (s : List (Fct × Bool)) => s.length ≤ j) kept 0 [] (fun j s f hf hj hI => by
    have hI : s.length ≤ j := hI
    refine ⟨?_, ?_⟩
    · rw [renamed_fact_eq (gf_sz (hk f hf)), okb, chk_b (by omega)]
      rfl
    · show (G.putF s (ren d f) true).length ≤ j + 1
      unfold G.putF
      split
      · rw [List.length_map]; omega
      · rw [List.length_append, List.length_singleton]; omega) (Nat.le_refl _)
  have e1 : (List.foldl (fun s f => G.putF s (ren d f) true) ([] : List (Fct × Bool)) kept).map (·.1) = nubL (kept.map (ren d)) := by
    have := once_keys true (kept.map (ren d)) ([] : List (Fct × Bool))
    rw [List.foldl_map] at this
    exact this
  refine Eq.trans (congrArg (fun m => m >>= _) lp.1) ?_
  rw [okb]
  have gk : ∀ f ∈ nubL (kept.map (ren d)), GF f := fun f hf => by
    rcases (nub_mem _ _).mp hf with z | z
    · cases z
    · obtain ⟨g, hg, e⟩ := List.mem_map.mp z
      rw [← e]
      exact ren_gf hd (hk g hg)
  have ln : (nubL (kept.map (ren d))).length ≤ SZ := by
    have := nub_len (kept.map (ren d)) []
    rw [List.length_map] at this
    simp only [List.length_nil] at this
    unfold nubL
    omega
  have e2 : List.map (fun (q : Fct × Bool) => q.1) (List.foldl (fun s f => G.putF s (ren d f) true) ([] : List (Fct × Bool)) kept) = nubL (kept.map (ren d)) := e1
  show ((pure (srtD (List.map (ren d) bag)) : M (Tup Fct)) >>= fun x24 => (sortM (List.map (fun (q : Fct × Bool) => q.1) (List.foldl (fun s f => G.putF s (ren d f) true) ([] : List (Fct × Bool)) kept)) >>= fun x20 => (pure x20 : M (Tup Fct))) >>= fun x25 => (sortM (α := Tx × Tx) d >>= fun x21 => (pure x21 : M (TupN PairT))) >>= fun x26 => (pure (T4.mk x24 x25 x26 false) : M PoolT)) = _
  rw [e2, sortM_eq ln (fun f hf => shp_fact (gk f hf)), okb, sortM_eq (by omega) (fun q hq => shp_pair (hd q hq).1 (hd q hq).2), okb]
  rfl
/-! taking facts -/
theorem memD_t {α : Type} [DecidableEq α] {x : α} {xs : List α} (h : x ∈ xs) : memD x xs = true := decide_eq_true h
theorem memD_f {α : Type} [DecidableEq α] {x : α} {xs : List α} (h : x ∉ xs) : memD x xs = false := decide_eq_false h
def takeAll (bag : List Fct) : List Fct → Option (List Fct)
  | [] => some bag
  | f :: fs => if f ∈ bag then takeAll (rmv f bag) fs else none
theorem rmAt_some {f : Fct} {bag : List Fct} (h : f ∈ bag) : (rmAt f bag).isSome = true := by
  unfold rmAt
  rw [List.findIdx?_isSome]
  exact List.any_eq_true.mpr ⟨f, h, decide_eq_true rfl⟩
theorem rmv_mem {f g : Fct} {bag : List Fct} (h : g ∈ rmv f bag) : g ∈ bag := by
  unfold rmv at h
  cases e : rmAt f bag with
  | none => rw [e] at h; exact h
  | some j => rw [e] at h; exact List.mem_of_mem_eraseIdx h
theorem rmv_len (f : Fct) (bag : List Fct) : (rmv f bag).length ≤ bag.length := by
  unfold rmv
  cases rmAt f bag with
  | none => exact Nat.le_refl _
  | some j => exact List.length_eraseIdx_le _ _
theorem takeAll_sub {fs : List Fct} : ∀ {bag r : List Fct}, takeAll bag fs = some r → (∀ g ∈ r, g ∈ bag) ∧ r.length ≤ bag.length := by
  induction fs with
  | nil => intro bag r h; cases h; exact ⟨fun g hg => hg, Nat.le_refl _⟩
  | cons f fs ih =>
    intro bag r h
    unfold takeAll at h
    split at h
    · obtain ⟨h1, h2⟩ := ih h
      exact ⟨fun g hg => rmv_mem (h1 g hg), Nat.le_trans h2 (rmv_len _ _)⟩
    · cases h
theorem without_facts_eq {tk : List Fct} {bag : List Fct} (hb : ∀ f ∈ bag, GF f) (ht : ∀ f ∈ tk, GF f) : m_without_facts bag tk = match takeAll bag tk with
    | some r => .ok r
    | none => raise "NoFact" := by
  unfold m_without_facts
  simp only [pure_bind]
  show (forP _ bag tk >>= fun s3 => (pure s3 : M (List Fct))) = _
  have key : ∀ (tk bag : List Fct), (∀ f ∈ bag, GF f) → (∀ f ∈ tk, GF f) → (forP (fun (s3 : List Fct) (e4 : Fct) => (((chk (Shp e4 ∧ Shp s3) >>= fun _ => (pure (!memD e4 s3) : M Bool)) >>= fun c12 => if c12 = true then (raise "NoFact" : M Unit) else (pure () : M Unit)) >>= fun _ => ((chk (Shp e4 ∧ Shp s3 ∧ (rmAt e4 s3).isSome = true) >>= fun _ => (pure e4 : M Fct)) >>= fun a14 => (pure (rmv a14 s3) : M (List Fct))))) bag tk) = match takeAll bag tk with
      | some r => .ok r
      | none => raise "NoFact" := by
    intro tk
    induction tk with
    | nil => intro bag _ _; rfl
    | cons f fs ih =>
      intro bag hb ht
      have gf := ht f (List.mem_cons_self ..)
      unfold forP takeAll
      rw [chk_b ⟨shp_fact gf, shp_facts hb⟩, pure_bind]
      by_cases h : f ∈ bag
      · rw [memD_t h, if_pos h, Bool.not_true, if_neg Bool.false_ne_true, pure_bind, chk_b ⟨shp_fact gf, shp_facts hb, rmAt_some h⟩, pure_bind, pure_bind]
        exact ih _ (fun g hg => hb g (rmv_mem hg)) fun g hg => ht g (List.mem_cons_of_mem _ hg)
      · rw [memD_f h, if_neg h, Bool.not_false, if_pos rfl]
        rfl
  refine Eq.trans (congrArg (fun m => m >>= _) (key tk bag hb ht)) ?_
  cases takeAll bag tk <;> rfl
/-! names told the same -/
def fstW (l r : Tx) : Tx := if isWd l = true then l else if isWd r = true then r else if r < l then r else l
theorem first_of_eq {l r : Tx} (hl : isNm l = true) (hr : isNm r = true) : m_first_of l r = .ok (fstW l r) := by
  unfold m_first_of fstW
  simp only [pure_bind, is_word_eq (isNm_sz hl), is_word_eq (isNm_sz hr), okb]
  by_cases h : isWd l = true
  · rw [if_pos h, if_pos h]; rfl
  · rw [if_neg h, if_neg h]
    by_cases h2 : isWd r = true
    · rw [if_pos h2, if_pos h2]; rfl
    · rw [if_neg h2, if_neg h2]; rfl
def tellC (d : SD) (l r c : Tx) : SD := d.map fun q => if q.2 = l ∨ q.2 = r then (q.1, c) else q
def tellD (d : SD) (p : PairT) : Bool × SD :=
  if sub d p.1 = sub d p.2 then (true, d) else if (isWd (sub d p.1) && isWd (sub d p.2)) = true then (false, d) else (true, tellC d (sub d p.1) (sub d p.2) (fstW (sub d p.1) (sub d p.2)))
theorem dget_mid {α : Type} {q : Tx × α} {rest : List (Tx × α)} : ∀ {done : List (Tx × α)}, q.1 ∉ done.map (·.1) → dgetM (done ++ q :: rest) q.1 = some q.2
  | [], _ => by show (if q.1 = q.1 then some q.2 else _) = _; rw [if_pos rfl]
  | p :: done, h => by
    have h1 : ¬ p.1 = q.1 := fun e => h (List.mem_cons.mpr (.inl e.symm))
    show (if p.1 = q.1 then _ else dgetM (done ++ q :: rest) q.1) = _
    rw [if_neg h1]
    exact dget_mid fun z => h (List.mem_cons_of_mem _ z)
theorem map_off {α : Type} {k : Tx} {c : α} : ∀ {l : List (Tx × α)}, k ∉ l.map (·.1) → (l.map fun q => if q.1 = k then (q.1, c) else q) = l
  | [], _ => rfl
  | p :: l, h => by
    have h1 : ¬ p.1 = k := fun e => h (List.mem_cons.mpr (.inl e.symm))
    rw [List.map_cons, if_neg h1, map_off fun z => h (List.mem_cons_of_mem _ z)]
theorem dput_mid {α : Type} {q : Tx × α} {c : α} {done rest : List (Tx × α)} (h1 : q.1 ∉ done.map (·.1)) (h2 : q.1 ∉ rest.map (·.1)) : dputM (done ++ q :: rest) q.1 c = done ++ (q.1, c) :: rest := by
  unfold dputM
  rw [dget_mid h1, if_pos (show (some q.2).isSome = true from rfl), List.map_append, List.map_cons, map_off h1, map_off h2, if_pos rfl]
theorem tellC_keys (d : SD) (l r c : Tx) : (tellC d l r c).map (·.1) = d.map (·.1) := by
  unfold tellC
  rw [List.map_map]
  refine List.map_congr_left fun q _ => ?_
  show (if q.2 = l ∨ q.2 = r then (q.1, c) else q).1 = q.1
  split <;> rfl
theorem tell_loop {l r c : Tx} : ∀ (rest done : SD), ((done ++ rest).map (·.1)).Nodup → (done ++ rest).length < SZ →
    forP (fun (s30 : Dic Tx) (e31 : Tx) => (((ofO (dgetM (α := Tx) s30 e31) >>= fun x38 => (pure (decide (x38 = l)) : M Bool)) >>= fun c44 => if c44 = true then (pure true : M Bool) else (ofO (dgetM (α := Tx) s30 e31) >>= fun x42 => (pure (decide (x42 = r)) : M Bool))) >>= fun c45 => if c45 = true then ((chk (List.length (α := Tx × Tx) s30 < SZ) >>= fun _ => (pure (dputM s30 e31 c) : M (List (Tx × Tx)))) >>= fun a47 => (pure a47 : M (Dic Tx))) else (pure s30 : M (Dic Tx))) >>= fun s46 => (pure s46 : M (Dic Tx))) (done ++ rest : SD) (rest.map (·.1)) = .ok (done ++ tellC rest l r c)
  | [], done, _, _ => rfl
  | q :: rest, done, nd, hl => by
    rw [List.map_append, List.map_cons, List.nodup_append] at nd
    obtain ⟨n1, n2, n3⟩ := nd
    obtain ⟨n4, n5⟩ := List.nodup_cons.mp n2
    have k1 : q.1 ∉ done.map (·.1) := fun z => n3 q.1 z q.1 (List.mem_cons_self ..) rfl
    rw [List.map_cons]
    show ((((ofO (dgetM (α := Tx) (done ++ q :: rest) q.1) >>= fun x38 => (pure (decide (x38 = l)) : M Bool)) >>= fun c44 => if c44 = true then (pure true : M Bool) else (ofO (dgetM (α := Tx) (done ++ q :: rest) q.1) >>= fun x42 => (pure (decide (x42 = r)) : M Bool))) >>= fun c45 => if c45 = true then ((chk ((done ++ q :: rest).length < SZ) >>= fun _ => (pure (dputM (done ++ q :: rest) q.1 c) : M (List (Tx × Tx)))) >>= fun a47 => (pure a47 : M (Dic Tx))) else (pure (done ++ q :: rest) : M (Dic Tx))) >>= fun s46 => (pure s46 : M (Dic Tx))) >>= _ = _
    rw [dget_mid k1, dput_mid k1 n4, chk_b hl]
    have e1 : (((ofO (some q.2) >>= fun x38 => (pure (decide (x38 = l)) : M Bool)) >>= fun c44 => if c44 = true then (pure true : M Bool) else (ofO (some q.2) >>= fun x42 => (pure (decide (x42 = r)) : M Bool)))) = .ok (decide (q.2 = l ∨ q.2 = r)) := by
      show ((pure (decide (q.2 = l)) : M Bool) >>= fun c44 => if c44 = true then (pure true : M Bool) else (pure (decide (q.2 = r)) : M Bool)) = _
      rw [pure_bind]
      by_cases h : q.2 = l
      · rw [decide_eq_true h, if_pos rfl, decide_eq_true (show q.2 = l ∨ q.2 = r from .inl h)]; rfl
      · rw [decide_eq_false h, if_neg Bool.false_ne_true]
        by_cases h2 : q.2 = r
        · rw [decide_eq_true h2, decide_eq_true (show q.2 = l ∨ q.2 = r from .inr h2)]; rfl
        · rw [decide_eq_false h2, decide_eq_false (show ¬ (q.2 = l ∨ q.2 = r) from fun z => z.elim h h2)]; rfl
    rw [e1, okb]
    have ih : ∀ q' : Tx × Tx, q'.1 = q.1 → _ := fun q' e => tell_loop (l := l) (r := r) (c := c) rest (done ++ [q']) (by
      rw [List.append_assoc, List.map_append, List.nodup_append]
      exact ⟨n1, by show (q'.1 :: rest.map (·.1)).Nodup; rw [e]; exact n2, fun a ha b hb => n3 a ha b (by rw [← e]; exact hb)⟩) (by rw [List.append_assoc]; rw [List.length_append] at hl ⊢; exact hl)
    by_cases h : q.2 = l ∨ q.2 = r
    · rw [decide_eq_true h, if_pos rfl]
      have := ih (q.1, c) rfl
      rw [List.append_assoc, List.append_assoc] at this
      refine this.trans ?_
      unfold tellC
      rw [List.map_cons, if_pos h]
      rfl
    · rw [decide_eq_false h, if_neg Bool.false_ne_true]
      have := ih q rfl
      rw [List.append_assoc, List.append_assoc] at this
      refine this.trans ?_
      unfold tellC
      rw [List.map_cons, if_neg h]
      rfl
theorem tell_same_eq {d : SD} {p : PairT} (nd : (d.map (·.1)).Nodup) (gd : GD d) (h1 : isNm p.1 = true) (h2 : isNm p.2 = true) (hl : d.length < SZ) : m_tell_same d p = .ok (tellD d p) := by
  unfold m_tell_same
  simp only [pure_bind]
  have g1 := sub_nm gd h1
  have g2 := sub_nm gd h2
  show (if decide (sub d p.1 = sub d p.2) = true then (pure (true, d) : M (Bool × Dic Tx)) else ((m_is_word (sub d p.1) >>= fun c23 => if c23 = true then m_is_word (sub d p.2) else pure false) >>= fun c24 => if c24 = true then (pure (false, d) : M (Bool × Dic Tx)) else (m_first_of (sub d p.1) (sub d p.2) >>= fun a26 => _))) = _
  unfold tellD
  by_cases e : sub d p.1 = sub d p.2
  · rw [if_pos e, if_pos (decide_eq_true e)]; rfl
  rw [if_neg e, if_neg (by rw [decide_eq_false e]; exact Bool.false_ne_true), is_word_eq (isNm_sz g1), is_word_eq (isNm_sz g2), okb, first_of_eq g1 g2]
  have e2 : (if isWd (sub d p.1) = true then (.ok (isWd (sub d p.2)) : M Bool) else pure false) = .ok (isWd (sub d p.1) && isWd (sub d p.2)) := by
    cases isWd (sub d p.1) <;> rfl
  rw [e2, okb]
  by_cases w : (isWd (sub d p.1) && isWd (sub d p.2)) = true
  · rw [if_pos w, if_pos w]; rfl
  rw [if_neg w, if_neg w, okb]
  refine Eq.trans (congrArg (fun m => m >>= _) (tell_loop (l := sub d p.1) (r := sub d p.2) (c := fstW (sub d p.1) (sub d p.2)) d [] nd hl)) ?_
  rfl
/-! a pool's change -/
theorem forT_cons {α S R : Type} {f : S → α → M (Tl S R)} {s : S} {x : α} {xs : List α} : forT f s (x :: xs) = (f s x >>= fun t => match t with
    | .ct s' => forT f s' xs
    | .bk s' => pure (.inl s')
    | .rt r => pure (.inr r)) := rfl
theorem dput_keys {α : Type} (d : List (Tx × α)) (k : Tx) (a : α) : (dputM d k a).map (·.1) = if k ∈ d.map (·.1) then d.map (·.1) else d.map (·.1) ++ [k] := by
  unfold dputM
  have hs : (dgetM d k).isSome = true ↔ k ∈ d.map (·.1) := by
    induction d with
    | nil => simp [dgetM]
    | cons q d ih =>
      unfold dgetM
      by_cases e : q.1 = k
      · rw [if_pos e, List.map_cons, List.mem_cons]
        exact ⟨fun _ => .inl e.symm, fun _ => rfl⟩
      · rw [if_neg e, List.map_cons, List.mem_cons, ih]
        exact ⟨.inr, fun z => z.elim (fun y => absurd y.symm e) id⟩
  by_cases h : k ∈ d.map (·.1)
  · rw [if_pos h, if_pos (hs.mpr h), List.map_map]
    refine List.map_congr_left fun q _ => ?_
    show (if q.1 = k then (q.1, a) else q).1 = q.1
    split <;> rfl
  · rw [if_neg h, if_neg (fun z => h (hs.mp z)), List.map_append]
    rfl
theorem dput_nd {α : Type} {d : List (Tx × α)} {k : Tx} {a : α} (h : (d.map (·.1)).Nodup) : ((dputM d k a).map (·.1)).Nodup := by
  rw [dput_keys]
  split
  · exact h
  · rename_i n
    exact List.nodup_append.mpr ⟨h, List.nodup_cons.mpr ⟨(by simp), List.nodup_nil⟩, fun x hx y hy e => n (by rw [← List.mem_singleton.mp hy, ← e]; exact hx)⟩
theorem lrn_nd {d : SD} {n : Tx} (h : (d.map (·.1)).Nodup) : ((lrn d n).map (·.1)).Nodup := by
  unfold lrn
  split
  · exact dput_nd h
  · exact h
theorem lrnL_nd {ns : List Tx} : ∀ {d : SD}, (d.map (·.1)).Nodup → ((lrnL d ns).map (·.1)).Nodup := by
  induction ns with
  | nil => exact fun h => h
  | cons n ns ih => exact fun h => ih (lrn_nd h)
theorem mkD_all {ps : List (Tx × Tx)} (h : GD ps) : GD (mkD ps) ∧ ((mkD ps).map (·.1)).Nodup ∧ (mkD ps).length ≤ ps.length := by
  have key : ∀ (ps d : List (Tx × Tx)), GD ps → GD d → (d.map (·.1)).Nodup → GD (ps.foldl (fun d q => dputM d q.1 q.2) d) ∧ ((ps.foldl (fun d q => dputM d q.1 q.2) d).map (·.1)).Nodup ∧ (ps.foldl (fun d q => dputM d q.1 q.2) d).length ≤ d.length + ps.length := by
    intro ps
    induction ps with
    | nil => exact fun d _ h1 h2 => ⟨h1, h2, Nat.le_refl _⟩
    | cons q ps ih =>
      intro d hp h1 h2
      rw [List.foldl_cons]
      obtain ⟨a, b, c⟩ := ih (dputM d q.1 q.2) (fun x hx => hp x (List.mem_cons_of_mem _ hx)) (fun x hx => by
        rcases dput_mem hx with z | z
        · exact h1 x z
        · rw [z]; exact hp q (List.mem_cons_self ..)) (dput_nd h2)
      have := dput_len d q.1 q.2
      exact ⟨a, b, Nat.le_trans c (by rw [List.length_cons]; omega)⟩
  have := key ps [] h (fun _ z => by cases z) List.nodup_nil
  simpa [mkD] using this
theorem fstW_nm {l r : Tx} (h1 : isNm l = true) (h2 : isNm r = true) : isNm (fstW l r) = true := by
  unfold fstW
  split
  · exact h1
  · split
    · exact h2
    · split
      · exact h2
      · exact h1
theorem tellC_gd {d : SD} {l r c : Tx} (h : GD d) (hc : isNm c = true) : GD (tellC d l r c) := fun q hq => by
  obtain ⟨p, hp, e⟩ := List.mem_map.mp hq
  have e : (if p.2 = l ∨ p.2 = r then (p.1, c) else p) = q := e
  rw [← e]
  split
  · exact ⟨(h p hp).1, hc⟩
  · exact h p hp
theorem tellD_all {d : SD} {p : PairT} (nd : (d.map (·.1)).Nodup) (gd : GD d) (h1 : isNm p.1 = true) (h2 : isNm p.2 = true) : GD (tellD d p).2 ∧ ((tellD d p).2.map (·.1)).Nodup ∧ (tellD d p).2.length = d.length := by
  unfold tellD
  split
  · exact ⟨gd, nd, rfl⟩
  · split
    · exact ⟨gd, nd, rfl⟩
    · exact ⟨tellC_gd gd (fstW_nm (sub_nm gd h1) (sub_nm gd h2)), by show ((tellC _ _ _ _).map (·.1)).Nodup; rw [tellC_keys]; exact nd, List.length_map _⟩
def tellAll (d : SD) : List PairT → Option SD
  | [] => some d
  | p :: ps => match tellD (lrnL d [p.1, p.2]) p with
    | (true, d') => tellAll d' ps
    | (false, _) => none
def BROK : PoolT := T4.mk [] [] [] true
def EMPT : PoolT := T4.mk [] [] [] false
theorem tell_step {d : SD} {p : PairT} (hp : isNm p.1 = true ∧ isNm p.2 = true) (nd : (d.map (·.1)).Nodup) (gd : GD d) (hl : d.length + 2 ≤ 16777000) :
    ((m_learn_names d ([p.1, p.2] : List Tx) >>= fun r67 => (pure r67.2 : M (Dic Tx))) >>= fun a64 => ifM (m_tell_same a64 p >>= fun r69 => (pure (!r69.1, r69.2) : M (Bool × Dic Tx))) (fun (s70 : Dic Tx) => (pure (.rt BROK) : M (Tl (Dic Tx) PoolT))) (fun (s70 : Dic Tx) => (pure (.ct s70) : M (Tl (Dic Tx) PoolT)))) =
      (.ok (if (tellD (lrnL d [p.1, p.2]) p).1 = true then .ct (tellD (lrnL d [p.1, p.2]) p).2 else .rt BROK) : M (Tl (Dic Tx) PoolT)) := by
  have l2 := lrnL_len d [p.1, p.2]
  simp only [List.length_cons, List.length_nil] at l2
  have g2 : ∀ n ∈ [p.1, p.2], isNm n = true := fun n hn => by
    rcases List.mem_cons.mp hn with e | hn
    · rw [e]; exact hp.1
    · rw [List.mem_singleton.mp hn]; exact hp.2
  have gl := lrnL_gd gd g2
  have nl := lrnL_nd (ns := [p.1, p.2]) nd
  rw [learn_names_eq (ns := [p.1, p.2]) g2 (by simp only [List.length_cons, List.length_nil]; omega), okb, pure_bind]
  unfold ifM
  rw [tell_same_eq nl gl hp.1 hp.2 (by rw [SZ_val]; omega)]
  cases tellD (lrnL d [p.1, p.2]) p with
  | mk t d' => cases t <;> rfl
theorem tellAll_cons {d : SD} {p : PairT} {td : List PairT} : tellAll d (p :: td) = if (tellD (lrnL d [p.1, p.2]) p).1 = true then tellAll (tellD (lrnL d [p.1, p.2]) p).2 td else none := by
  show (match tellD (lrnL d [p.1, p.2]) p with
    | (true, d') => tellAll d' td
    | (false, _) => none) = _
  cases tellD (lrnL d [p.1, p.2]) p with
  | mk t d' => cases t <;> rfl
theorem tell_next {d : SD} {p : PairT} (hp : isNm p.1 = true ∧ isNm p.2 = true) (nd : (d.map (·.1)).Nodup) (gd : GD d) : GD (tellD (lrnL d [p.1, p.2]) p).2 ∧ ((tellD (lrnL d [p.1, p.2]) p).2.map (·.1)).Nodup ∧ (tellD (lrnL d [p.1, p.2]) p).2.length ≤ d.length + 2 := by
  have l2 := lrnL_len d [p.1, p.2]
  simp only [List.length_cons, List.length_nil] at l2
  have g2 : ∀ n ∈ [p.1, p.2], isNm n = true := fun n hn => by
    rcases List.mem_cons.mp hn with e | hn
    · rw [e]; exact hp.1
    · rw [List.mem_singleton.mp hn]; exact hp.2
  obtain ⟨t1, t2, t3⟩ := tellD_all (lrnL_nd (ns := [p.1, p.2]) nd) (lrnL_gd gd g2) hp.1 hp.2
  exact ⟨t1, t2, by omega⟩
theorem tell_all : ∀ (td : List PairT) (d : SD), (∀ q ∈ td, isNm q.1 = true ∧ isNm q.2 = true) → (d.map (·.1)).Nodup → GD d → d.length + 2 * td.length ≤ 16777000 →
    forT (fun (s58 : Dic Tx) (e59 : PairT) => (m_learn_names s58 ([e59.1, e59.2] : List Tx) >>= fun r67 => (pure r67.2 : M (Dic Tx))) >>= fun a64 =>
      (ifM (m_tell_same a64 e59 >>= fun r69 => (pure (!r69.1, r69.2) : M (Bool × Dic Tx))) (fun (s70 : Dic Tx) => (pure (.rt BROK) : M (Tl (Dic Tx) PoolT))) (fun (s70 : Dic Tx) => (pure (.ct s70) : M (Tl (Dic Tx) PoolT))))) d td =
      .ok (match tellAll d td with | some d' => .inl d' | none => .inr BROK)
  | [], d, _, _, _, _ => rfl
  | p :: td, d, h, nd, gd, hl => by
    have hp := h p (List.mem_cons_self ..)
    rw [List.length_cons] at hl
    obtain ⟨t1, t2, t3⟩ := tell_next hp nd gd
    refine Eq.trans forT_cons (Eq.trans (congrArg (fun m => m >>= _) (tell_step hp nd gd (by omega))) ?_)
    rw [tellAll_cons, okb]
    by_cases c : (tellD (lrnL d [p.1, p.2]) p).1 = true
    · rw [if_pos c, if_pos c]
      exact tell_all td _ (fun q hq => h q (List.mem_cons_of_mem _ hq)) t2 t1 (by omega)
    · rw [if_neg c, if_neg c]
      rfl
theorem tellAll_all : ∀ {td : List PairT} {d d' : SD}, (∀ q ∈ td, isNm q.1 = true ∧ isNm q.2 = true) → (d.map (·.1)).Nodup → GD d → tellAll d td = some d' → GD d' ∧ (d'.map (·.1)).Nodup ∧ d'.length ≤ d.length + 2 * td.length
  | [], d, d', _, nd, gd, h => by cases h; exact ⟨gd, nd, Nat.le_add_right _ _⟩
  | p :: td, d, d', h, nd, gd, e => by
    obtain ⟨t1, t2, t3⟩ := tell_next (h p (List.mem_cons_self ..)) nd gd
    rw [tellAll_cons] at e
    split at e
    · obtain ⟨a, b, c⟩ := tellAll_all (fun q hq => h q (List.mem_cons_of_mem _ hq)) t2 t1 e
      exact ⟨a, b, by rw [List.length_cons]; omega⟩
    · cases e
/-- a pool of good facts and names -/
structure GP (p : PoolT) : Prop where
  a : ∀ f ∈ (show List Fct from p.a), GF f
  b : ∀ f ∈ (show List Fct from p.b), GF f
  c : GD p.c
  la : List.length (α := Fct) p.a ≤ 5000
  lb : List.length (α := Fct) p.b ≤ 5000
  lc : List.length (α := PairT) p.c ≤ 5000
def learnF (d : SD) (fs : List Fct) : SD := fs.foldl (fun d f => lrnL d f.2) d
def movedP (ks : List K3) (p : PoolT) (tk pt : List Fct) (td : List PairT) : M PoolT :=
  orRaise (tk.findSome? (ffault ks)) (orRaise (pt.findSome? (ffault ks)) (orRaise (if tk.any (lastsK ks) = true then some "BadTake" else none) (if p.d = true then pure BROK else
    match takeAll p.a (tk.map (ren (mkD p.c))) with
    | none => raise "NoFact"
    | some bag => match tellAll (learnF (mkD p.c) pt) td with
      | none => pure BROK
      | some d => pure (settle (bag ++ pt.filter fun f => !lastsK ks f) (show List Fct from (List.append (α := Fct) p.b (pt.filter (lastsK ks)))) d))))
theorem learnF_all : ∀ {fs : List Fct} {d : SD}, (∀ f ∈ fs, GF f) → (d.map (·.1)).Nodup → GD d → GD (learnF d fs) ∧ ((learnF d fs).map (·.1)).Nodup ∧ (learnF d fs).length ≤ d.length + 8 * fs.length := by
  intro fs
  induction fs with
  | nil => exact fun _ nd gd => ⟨gd, nd, Nat.le_refl _⟩
  | cons f fs ih =>
    intro d h nd gd
    have gf := h f (List.mem_cons_self ..)
    obtain ⟨a, b, c⟩ := ih (d := lrnL d f.2) (fun g hg => h g (List.mem_cons_of_mem _ hg)) (lrnL_nd nd) (lrnL_gd gd gf.2.1)
    have l := lrnL_len d f.2
    have l8 := gf.2.2
    refine ⟨a, b, ?_⟩
    show (learnF (lrnL d f.2) fs).length ≤ _
    rw [List.length_cons]
    omega
def stepM (ks : List K3) (s : SD × List Fct × List Fct) (e : Fct) : SD × List Fct × List Fct := (lrnL s.1 e.2, if lastsK ks e = true then s.2.1 else s.2.1 ++ [e], if lastsK ks e = true then s.2.2 ++ [e] else s.2.2)
theorem stepM_fold (ks : List K3) : ∀ (fs : List Fct) (d : SD) (x y : List Fct), fs.foldl (stepM ks) (d, x, y) = (learnF d fs, x ++ fs.filter (fun f => !lastsK ks f), y ++ fs.filter (lastsK ks))
  | [], d, x, y => by
    rw [List.foldl_nil, List.filter_nil, List.filter_nil, List.append_nil, List.append_nil]
    rfl
  | f :: fs, d, x, y => by
    rw [List.foldl_cons]
    unfold stepM
    cases h : lastsK ks f with
    | true =>
      rw [if_pos rfl, if_pos rfl]
      refine (stepM_fold ks fs (lrnL d f.2) x (y ++ [f])).trans ?_
      rw [List.filter_cons_of_neg (by rw [h]; decide), List.filter_cons_of_pos h, List.append_assoc]
      rfl
    | false =>
      rw [if_neg Bool.false_ne_true, if_neg Bool.false_ne_true]
      refine (stepM_fold ks fs (lrnL d f.2) (x ++ [f]) y).trans ?_
      rw [List.filter_cons_of_pos (by rw [h]; decide), List.filter_cons_of_neg (by rw [h]; decide), List.append_assoc]
      rfl
theorem orRaise_bind {α β : Type} (o : Option Str) (m : M α) (f : α → M β) : (orRaise o m >>= f) = orRaise o (m >>= f) := by cases o <;> rfl
theorem moved_eq {ks : List K3} {p : PoolT} {tk pt : List Fct} {td : List PairT} (hl : ks.length ≤ 1000) (nd : (ks.map (·.a)).Nodup) (gp : GP p) (gt : ∀ f ∈ tk, GF f) (gq : ∀ f ∈ pt, GF f) (gd : ∀ q ∈ td, isNm q.1 = true ∧ isNm q.2 = true)
    (lt : tk.length ≤ 1000) (lp : pt.length ≤ 1000) (ld : td.length ≤ 1000) : m_moved ks p tk pt td = movedP ks p tk pt td := by
  have hS : SZ = 16777216 := SZ_val
  unfold m_moved movedP
  simp only [pure_bind]
  rw [look_at_facts_eq hl nd, look_at_facts_eq hl nd]
  cases e1 : tk.findSome? (ffault ks) with
  | some c => rfl
  | none =>
  cases e2 : pt.findSome? (ffault ks) with
  | some c => rfl
  | none =>
  have z0 : ∀ {α : Type} (f : Unit → M α), (((orRaise none (pure ()) : M Unit) >>= fun _ => (pure () : M Unit)) >>= f) = f () := fun _ => rfl
  rw [z0, z0]
  refine Eq.trans (congrArg (fun m => m >>= _) (kind_lasts_eq hl)) (Eq.trans okb ?_)
  rw [look_at_taken_eq nd (known_of e1)]
  have on : ∀ {α : Type} (m : M α), orRaise none m = m := fun _ => rfl
  rw [orRaise_bind, orRaise_bind, on, on]
  congr 1
  show (if p.d = true then (pure BROK : M PoolT) else _) = _
  by_cases hd : p.d = true
  · rw [if_pos hd, if_pos hd]
  rw [if_neg hd, if_neg hd]
  obtain ⟨m1, m2, m3⟩ := mkD_all gp.c
  have lmk : (mkD (α := Tx) p.c).length ≤ 5000 := Nat.le_trans m3 gp.lc
  have er : lc (fun e25 => m_renamed_fact e25 (mkD (α := Tx) p.c)) tk = .ok (tk.map (ren (mkD p.c))) := lc_map (g := ren (mkD p.c)) (by omega) fun f hf => renamed_fact_eq (gf_sz (gt f hf))
  refine Eq.trans (congrArg (fun m => (m >>= fun x30 => m_without_facts p.a x30) >>= _) er) ?_
  rw [okb, without_facts_eq gp.a (fun f hf => by
    obtain ⟨g, hg, e⟩ := List.mem_map.mp hf
    rw [← e]
    exact ren_gf m1 (gt g hg))]
  cases et : takeAll p.a (tk.map (ren (mkD p.c))) with
  | none => rfl
  | some bag =>
  obtain ⟨b1, b2⟩ := takeAll_sub et
  have pb : ∀ {β : Type} (f : List Fct → M β), ((pure p.b : M (List Fct)) >>= f) = f p.b := fun _ => rfl
  refine Eq.trans (okb (a := bag)) ?_
  rw [pb]
  have lb2 : bag.length ≤ 5000 := Nat.le_trans b2 gp.la
  have kn := known_of e2
  have lbb := gp.lb
  have loop := forP_fold (g := fun (s35 : Dic Tx × List Fct × List Fct) (e36 : Fct) => ((m_learn_names s35.1 e36.2 >>= fun r45 => (pure r45.2 : M (Dic Tx))) >>= fun a41 => ((ofO (dgetM (lookupF (·.c) ks ([] : List (Tx × Bool))) e36.1) : M Bool) >>= fun c50 => if c50 = true then ((chk (s35.2.2.length < SZ) >>= fun _ => (pure e36 : M Fct)) >>= fun a52 => (pure (s35.2.1, (s35.2.2 ++ [a52])) : M (List Fct × List Fct))) else ((chk (s35.2.1.length < SZ) >>= fun _ => (pure e36 : M Fct)) >>= fun a55 => (pure ((s35.2.1 ++ [a55]), s35.2.2) : M (List Fct × List Fct)))) >>= fun s51 => (pure (a41, s51.1, s51.2) : M (Dic Tx × List Fct × List Fct))))
    (f := stepM ks)
    (fun j s => List.length (α := Tx × Tx) s.1 ≤ 5000 + 8 * j ∧ s.2.1.length ≤ 5000 + j ∧ s.2.2.length ≤ 5000 + j) pt 0 (mkD (α := Tx) p.c, bag, p.b) (fun j s f hf hj hI => by
      obtain ⟨i1, i2, i3⟩ := hI
      have gf := gq f hf
      have l8 := gf.2.2
      have ll := lrnL_len s.1 f.2
      have z1 : List.length (α := Tx × Tx) s.1 + List.length (α := Tx) f.2 ≤ 16777215 := by omega
      refine ⟨?_, Nat.le_trans ll (by omega), ?_, ?_⟩
      · rw [learn_names_eq gf.2.1 z1, okb, pure_bind, lasts_get nd (kn f hf), okb]
        unfold stepM
        cases lastsK ks f with
        | true => rw [if_pos rfl, chk_b (by omega)]; rfl
        | false => rw [if_neg Bool.false_ne_true, chk_b (by omega)]; rfl
      · show (if lastsK ks f = true then s.2.1 else s.2.1 ++ [f]).length ≤ _
        split
        · omega
        · rw [List.length_append, List.length_singleton]; omega
      · show (if lastsK ks f = true then s.2.2 ++ [f] else s.2.2).length ≤ _
        split
        · rw [List.length_append, List.length_singleton]; omega
        · omega) ⟨by show (mkD (α := Tx) p.c).length ≤ _; omega, by show bag.length ≤ _; omega, by show List.length (α := Fct) p.b ≤ _; omega⟩
  refine Eq.trans (congrArg (fun m => m >>= _) (loop.1.trans (congrArg Except.ok (stepM_fold ks pt (mkD p.c) bag p.b)))) (Eq.trans okb ?_)
  obtain ⟨n1, n2, n3⟩ := learnF_all (d := mkD p.c) gq m2 m1
  refine Eq.trans (congrArg (fun m => m >>= _) (tell_all td (learnF (mkD p.c) pt) gd n2 n1 (by omega))) ?_
  rw [okb]
  cases ea : tellAll (learnF (mkD p.c) pt) td with
  | none => rfl
  | some d =>
    obtain ⟨q1, q2, q3⟩ := tellAll_all gd n2 n1 ea
    have lf : (pt.filter fun f => !lastsK ks f).length ≤ pt.length := List.length_filter_le _ _
    have lf2 : (pt.filter (lastsK ks)).length ≤ pt.length := List.length_filter_le _ _
    exact settled_pool_eq (fun f hf => (List.mem_append.mp hf).elim (fun z => gp.a f (b1 f z)) fun z => gq f (List.mem_filter.mp z).1) (fun f hf => (List.mem_append.mp hf).elim (fun z => gp.b f z) fun z => gq f (List.mem_filter.mp z).1) q1
      (by rw [List.length_append]; omega) (Nat.le_trans (Nat.le_of_eq List.length_append) (by show List.length (α := Fct) p.b + _ ≤ _; omega)) (by omega)
theorem forT_findSome {α R : Type} {f : Unit → α → M (Tl Unit R)} {p : α → Option R} : ∀ {xs : List α}, (∀ x ∈ xs, f () x = .ok (match p x with
    | some r => .rt r
    | none => .ct ())) → forT f () xs = .ok (match xs.findSome? p with
    | some r => .inr r
    | none => .inl ())
  | [], _ => rfl
  | x :: xs, h => by
    unfold forT
    rw [h x (List.mem_cons_self ..), List.findSome?_cons]
    cases p x with
    | some r => rfl
    | none => exact forT_findSome fun z hz => h z (List.mem_cons_of_mem _ hz)
def codeS (c : Str) : Int := if c = "NoKind" then 1 else if c = "BadArgs" then 2 else if c = "BadTake" then 3 else if c = "BadCall" then 4 else 5
def codeOf : Option Str → Int
  | none => 0
  | some c => codeS c
theorem code_vals : codeS "NoKind" = 1 ∧ codeS "BadArgs" = 2 ∧ codeS "BadTake" = 3 ∧ codeS "BadCall" = 4 ∧ codeS "NoName" = 5 := by decide +kernel
theorem codeS_pos (c : Str) : 0 < codeS c := by
  unfold codeS
  split; · decide
  split; · decide
  split; · decide
  split; · decide
  decide
theorem find_some_map {α β : Type} {p : α → Bool} {g : α → β} : ∀ xs : List α, (xs.findSome? fun x => if p x = true then some (g x) else none) = (xs.find? p).map g
  | [] => rfl
  | x :: xs => by
    rw [List.findSome?_cons, List.find?_cons]
    cases h : p x with
    | true => rfl
    | false =>
      simp only [Bool.false_eq_true, if_false]
      exact find_some_map xs
theorem lasts_eq (ks : List K3) (f : Fct) : m__law_lasts ks f = .ok (lastsK ks f) := by
  unfold m__law_lasts
  simp only [pure_bind]
  rw [forT_findSome (p := fun k : K3 => if decide (k.a = f.1) = true then some k.c else none) fun k _ => ?_, find_some_map]
  · unfold lastsK kof
    cases ks.find? fun k => decide (k.a = f.1) <;> rfl
  · cases decide (k.a = f.1) <;> rfl
def addN (s : List Tx) (n : Tx) : List Tx := if isOpn n = true ∧ n ∉ s then s ++ [n] else s
/-! the law's own pool -/
theorem known_eq {s ns : List Tx} (hn : ∀ n ∈ ns, isNm n = true) (hl : s.length + ns.length ≤ 16777215) : m__law_known s ns = .ok (ns.foldl addN s) := by
  unfold m__law_known
  simp only [pure_bind, bind_pure]
  show forP _ s ns = _
  refine (forP_fold (f := addN) (fun j (t : List Tx) => t.length ≤ s.length + j) ns 0 s (fun j t n hn' hj hI => ⟨?_, ?_⟩) (Nat.le_refl _)).1
  · have hI : t.length ≤ s.length + j := hI
    show ((((atT n 0 >>= fun c => (pure (Txt.isupper (S c)) : M Bool)) >>= fun c14 => if c14 = true then (pure (!decide (n ∈ t)) : M Bool) else pure false) >>= fun c15 => if c15 = true then ((chk (t.length < SZ) >>= fun _ => (pure n : M Tx)) >>= fun a17 => (pure (t ++ [a17]) : M (List Tx))) else (pure t : M (List Tx))) : M (List Tx)) = _
    rw [upper_nm (hn n hn'), okb]
    unfold addN
    cases isOpn n with
    | false => simp; rfl
    | true =>
      by_cases h : n ∈ t
      · simp [h]; rfl
      · rw [if_pos rfl, pure_bind, decide_eq_false h, Bool.not_false, if_pos rfl, chk_b (by rw [SZ_val]; omega)]
        simp [h]
        rfl
  · show (addN t n).length ≤ s.length + (j + 1)
    have hI : t.length ≤ s.length + j := hI
    unfold addN
    split
    · rw [List.length_append, List.length_singleton]; omega
    · omega
def dup (n : Tx) : Tx × Tx := (n, n)
theorem dget_dup (s : List Tx) (n : Tx) : dgetM (s.map dup) n = if n ∈ s then some n else none := by
  induction s with
  | nil => rfl
  | cons m s ih =>
    show (if m = n then some m else dgetM (s.map dup) n) = _
    by_cases h : m = n
    · rw [if_pos h, if_pos (List.mem_cons.mpr (.inl h.symm)), h]
    · rw [if_neg h, ih]
      by_cases h2 : n ∈ s
      · rw [if_pos h2, if_pos (List.mem_cons_of_mem _ h2)]
      · rw [if_neg h2, if_neg fun z => (List.mem_cons.mp z).elim (fun e => h e.symm) h2]
theorem lrn_dup (s : List Tx) (n : Tx) : lrn (s.map dup) n = (addN s n).map dup := by
  unfold lrn addN
  rw [dget_dup]
  by_cases h : n ∈ s
  · rw [if_pos h, if_neg (by simp), if_neg (fun z => z.2 h)]
  · rw [if_neg h]
    cases isOpn n with
    | false => simp
    | true =>
      rw [if_pos (show (true && !(none : Option Tx).isSome) = true from rfl), if_pos ⟨rfl, h⟩, List.map_append]
      unfold dputM
      rw [dget_dup, if_neg h, if_neg (by simp)]
      rfl
theorem lrnL_dup : ∀ (ns s : List Tx), lrnL (s.map dup) ns = (ns.foldl addN s).map dup
  | [], s => rfl
  | n :: ns, s => by
    show lrnL (lrn (s.map dup) n) ns = _
    rw [lrn_dup, lrnL_dup ns]
    rfl
def knownF (s : List Tx) (fs : List Fct) : List Tx := fs.foldl (fun s f => List.foldl (β := Tx) addN s f.2) s
theorem learnF_dup : ∀ (fs : List Fct) (s : List Tx), learnF (s.map dup) fs = (knownF s fs).map dup
  | [], s => rfl
  | f :: fs, s => by
    exact (congrArg (fun d => learnF d fs) (lrnL_dup f.2 s)).trans (learnF_dup fs _)
theorem sub_dup (s : List Tx) (n : Tx) : sub (s.map dup) n = n := by
  unfold sub
  rw [dget_dup]
  split <;> rfl
theorem ren_dup (s : List Tx) (f : Fct) : ren (s.map dup) f = f := by
  have e : sub (s.map dup) = id := funext fun n => sub_dup s n
  unfold ren
  rw [e]
  exact Prod.ext rfl (List.map_id _)
theorem addN_nm {s ns : List Tx} (hs : ∀ n ∈ s, isNm n = true) (hn : ∀ n ∈ ns, isNm n = true) : (∀ n ∈ ns.foldl addN s, isNm n = true) ∧ (ns.foldl addN s).length ≤ s.length + ns.length := by
  induction ns generalizing s with
  | nil => exact ⟨hs, Nat.le_refl _⟩
  | cons n ns ih =>
    have h1 : (∀ m ∈ addN s n, isNm m = true) ∧ (addN s n).length ≤ s.length + 1 := by
      unfold addN
      split
      · refine ⟨fun m hm => (List.mem_append.mp hm).elim (hs m) fun z => ?_, by rw [List.length_append]; exact Nat.le_refl _⟩
        rw [List.mem_singleton.mp z]
        exact hn n (List.mem_cons_self ..)
      · exact ⟨hs, Nat.le_succ _⟩
    obtain ⟨a, b⟩ := ih h1.1 fun m hm => hn m (List.mem_cons_of_mem _ hm)
    exact ⟨a, by rw [List.foldl_cons, List.length_cons]; omega⟩
theorem knownF_all : ∀ {fs : List Fct} {s : List Tx}, (∀ f ∈ fs, GF f) → (∀ n ∈ s, isNm n = true) → (∀ n ∈ knownF s fs, isNm n = true) ∧ (knownF s fs).length ≤ s.length + 8 * fs.length
  | [], s, _, hs => ⟨hs, Nat.le_refl _⟩
  | f :: fs, s, hf, hs => by
    have gf := hf f (List.mem_cons_self ..)
    obtain ⟨a, b⟩ := addN_nm (ns := f.2) hs gf.2.1
    obtain ⟨c, d⟩ := knownF_all (fs := fs) (fun g hg => hf g (List.mem_cons_of_mem _ hg)) a
    have l8 := gf.2.2
    exact ⟨c, by show (knownF (List.foldl (β := Tx) addN s f.2) fs).length ≤ _; rw [List.length_cons]; omega⟩
theorem forP_at {S α : Type} {f : S → α → M S} (I : Nat → S → Prop) : ∀ (xs : List α) (k : Nat) (s : S), (∀ (j : Nat) (s : S) (x : α), xs[j]? = some x → I (k + j) s → Okp (f s x) (I (k + j + 1))) → I k s → Okp (forP f s xs) (I (k + xs.length))
  | [], k, s, _, h => ⟨s, rfl, h⟩
  | x :: xs, k, s, hf, h => by
    obtain ⟨s1, e1, h1⟩ := hf 0 s x rfl h
    obtain ⟨s2, e2, h2⟩ := forP_at I xs (k + 1) s1 (fun j s y hy hI => by
      have := hf (j + 1) s y hy (by rw [show k + (j + 1) = k + 1 + j by omega]; exact hI)
      rw [show k + (j + 1) + 1 = k + 1 + j + 1 by omega] at this
      exact this) h1
    refine ⟨s2, ?_, by rw [show k + (x :: xs).length = k + 1 + xs.length by rw [List.length_cons]; omega]; exact h2⟩
    show (f s x >>= fun s => forP f s xs) = _
    rw [e1, okb, e2]
theorem range_at {n j : Nat} {x : Int} (h : (rangeL 0 n)[j]? = some x) : x = j ∧ j < n := by
  unfold rangeL at h
  rw [List.getElem?_map] at h
  cases e : (List.range n)[j]? with
  | none => rw [e] at h; cases h
  | some i =>
    rw [e] at h
    obtain ⟨h1, h2⟩ := List.getElem?_eq_some_iff.mp e
    rw [List.length_range] at h1
    rw [List.getElem_range] at h2
    subst h2
    have h : some ((0 : Int) + ((j : Nat) : Int)) = some x := h
    exact ⟨by rw [← Option.some.inj h]; omega, h1⟩
theorem cut_far {α : Type} {xs : List α} {a b j : Nat} (h : j < (cut xs (some (a : Int)) (some (b : Int))).length) : a + j < xs.length := by
  unfold cut at h
  have z : ∀ (d : Nat) (v : Int), 0 ≤ v → HT.sIx xs.length d (some v) = min v.toNat xs.length := fun d v hv => by
    show (if v < 0 then _ else _) = _
    rw [if_neg (by omega)]
  rw [z _ (a : Int) (by omega), z _ (b : Int) (by omega), List.length_take, List.length_drop, Int.toNat_natCast, Int.toNat_natCast] at h
  omega
/-! sorted lists of the same things -/
theorem toks_inj {x y : PyData} (h : PySem.W.alike x y = true) (e : PySem.W.keyToks x = PySem.W.keyToks y) : PyData.eqv x y = true := by
  cases q : PyData.eqv x y with
  | true => rfl
  | false =>
    have := (PySem.W.toks_eqv x y h).2 q [.inl 0] [.inl 1]
    rw [e, PySem.W.lex_pre, PyProof.Rows.lex_irrefl] at this
    exact absurd this (by decide)
theorem le_anti {α : Type} [Py α] [DecidableEq α] [PyD α] [PyL α] {a b : α} (h1 : PySem.W.dataLe false PyD.dat a b = true) (h2 : PySem.W.dataLe false PyD.dat b a = true) : a = b := by
  rw [PySem.W.dataLe_eq] at h1 h2
  have h1 : (!PySem.W.dataLt (PyD.dat b) (PyD.dat a)) = true := h1
  have h2 : (!PySem.W.dataLt (PyD.dat a) (PyD.dat b)) = true := h2
  rw [Bool.not_eq_true'] at h1 h2
  have := toks_inj (PyL.al a b) (PyProof.Rows.lex_total _ _ h2 h1)
  rw [PyD.eqv] at this
  exact of_decide_eq_true this
theorem srtD_perm {α : Type} [Py α] [DecidableEq α] [PyD α] [PyL α] {l m : List α} (p : l.Perm m) : srtD l = srtD m := by
  have tot := PySem.W.sortLe_total (PyProof.Rows.listOrd PyProof.Rows.itemOrd) false (fun a : α => PySem.W.keyToks (PyD.dat a))
  refine PySem.W.sort_unique tot (PySem.W.sort_pairwise tot l) fun c => ?_
  have key : ∀ k : List α, k.filter (PySem.W.sameRank (PySem.W.sortLe (PyProof.Rows.listOrd PyProof.Rows.itemOrd) false fun a : α => PySem.W.keyToks (PyD.dat a)) c) = k.filter (· == c) := fun k => List.filter_congr fun x _ => by
    by_cases h : x = c
    · subst h
      rw [beq_self_eq_true, PySem.W.sameRank_self tot]
    · rw [beq_eq_false_iff_ne.mpr h]
      cases q : PySem.W.sameRank (PySem.W.sortLe (PyProof.Rows.listOrd PyProof.Rows.itemOrd) false fun a : α => PySem.W.keyToks (PyD.dat a)) c x with
      | false => rfl
      | true =>
        unfold PySem.W.sameRank at q
        rw [Bool.and_eq_true] at q
        exact absurd (le_anti (α := α) q.2 q.1) h
  rw [key, key, List.filter_beq, List.filter_beq, (show (srtD l).Perm l from List.mergeSort_perm l _).count_eq, p.count_eq]
theorem srtD_self {α : Type} [Py α] [DecidableEq α] [PyD α] (l : List α) : (srtD l).Perm l := List.mergeSort_perm l _
theorem srtD_mem {α : Type} [Py α] [DecidableEq α] [PyD α] {l : List α} {x : α} : x ∈ srtD l ↔ x ∈ l := (srtD_self l).mem_iff
theorem srtD_len {α : Type} [Py α] [DecidableEq α] [PyD α] (l : List α) : (srtD l).length = l.length := (srtD_self l).length_eq
theorem srtD_idem {α : Type} [Py α] [DecidableEq α] [PyD α] [PyL α] (l : List α) : srtD (srtD l) = srtD l := srtD_perm (srtD_self l)
/-! each once -/
theorem nub_nd {α : Type} [DecidableEq α] (xs : List α) : ∀ acc : List α, acc.Nodup → (xs.foldl (fun acc x => if x ∈ acc then acc else acc ++ [x]) acc).Nodup := by
  induction xs with
  | nil => exact fun _ h => h
  | cons x xs ih =>
    intro acc h
    rw [List.foldl_cons]
    refine ih _ ?_
    split
    · exact h
    · rename_i n
      exact List.nodup_append.mpr ⟨h, List.nodup_cons.mpr ⟨(by simp), List.nodup_nil⟩, fun a ha b hb e => n (by rw [← List.mem_singleton.mp hb, ← e]; exact ha)⟩
theorem nubL_mem {α : Type} [DecidableEq α] {x : α} {xs : List α} : x ∈ nubL xs ↔ x ∈ xs := by
  unfold nubL
  rw [nub_mem]
  simp
theorem nubL_nd {α : Type} [DecidableEq α] (xs : List α) : (nubL xs).Nodup := nub_nd xs [] List.nodup_nil
theorem perm_of_mem {α : Type} [DecidableEq α] {l m : List α} (h1 : l.Nodup) (h2 : m.Nodup) (h : ∀ x, x ∈ l ↔ x ∈ m) : l.Perm m := List.perm_iff_count.mpr fun x => by
  rw [List.Nodup.count h1, List.Nodup.count h2]
  by_cases c : x ∈ l
  · rw [if_pos c, if_pos ((h x).mp c)]
  · rw [if_neg c, if_neg (fun z => c ((h x).mpr z))]
theorem nubL_perm {α : Type} [DecidableEq α] {l m : List α} (h : ∀ x, x ∈ l ↔ x ∈ m) : (nubL l).Perm (nubL m) := perm_of_mem (nubL_nd l) (nubL_nd m) fun x => by rw [nubL_mem, nubL_mem, h]
/-! taking -/
theorem rmv_erase (f : Fct) (bag : List Fct) : rmv f bag = bag.erase f := by
  unfold rmv rmAt
  induction bag with
  | nil => rfl
  | cons g bag ih =>
    rw [List.findIdx?_cons, List.erase_cons]
    by_cases h : g = f
    · rw [if_pos (decide_eq_true h), if_pos (beq_iff_eq.mpr h)]
      rfl
    · rw [if_neg (by rw [decide_eq_false h]; exact Bool.false_ne_true), if_neg (fun z => h (beq_iff_eq.mp z)), ← ih]
      cases bag.findIdx? fun y => decide (y = f) <;> rfl
theorem takeAll_perm : ∀ (tk : List Fct) {a b : List Fct}, a.Perm b → (takeAll a tk).isSome = (takeAll b tk).isSome ∧ ∀ r r', takeAll a tk = some r → takeAll b tk = some r' → r.Perm r'
  | [], a, b, p => ⟨rfl, fun r r' h h' => by cases h; cases h'; exact p⟩
  | f :: tk, a, b, p => by
    unfold takeAll
    by_cases h : f ∈ a
    · rw [if_pos h, if_pos (p.mem_iff.mp h), rmv_erase, rmv_erase]
      exact takeAll_perm tk (p.erase f)
    · rw [if_neg h, if_neg (fun z => h (p.mem_iff.mpr z))]
      exact ⟨rfl, fun r r' q => by cases q⟩
/-! classes of names -/
def wdN (x : Tx) : Bool := !isOpn x
theorem isWd_wdN {x : Tx} (h : isNm x = true) : isWd x = wdN x := by
  unfold isWd wdN isOpn
  rw [h, Bool.true_and, Bool.true_and]
def rep1 (one : List Tx) : Tx := match one.filter wdN with
  | w :: _ => w
  | [] => match one with
    | x :: r => r.foldl lesT x
    | [] => []
abbrev CL : Type := List (List Tx)
def stand (cs : CL) (n : Tx) : Tx := match cs.find? (fun one => decide (n ∈ one)) with
  | some one => rep1 one
  | none => n
def cls (cs : CL) (n : Tx) : List Tx := (cs.find? (fun one => decide (n ∈ one))).getD [n]
def touch (p : PairT) (one : List Tx) : Bool := decide (p.1 ∈ one) || decide (p.2 ∈ one)
def addB (p : PairT) (b one : List Tx) : List Tx := if touch p one = true then b ++ one.filter (fun n => !decide (n ∈ b)) else b
def bothL (cs : CL) (p : PairT) : List Tx := cs.foldl (addB p) [p.1, p.2]
def merged (cs : CL) (p : PairT) : CL := cs.filter (fun one => !touch p one) ++ [bothL cs p]
def NT (one : List Tx) : Prop := ∀ w ∈ one, ∀ w' ∈ one, wdN w = true → wdN w' = true → w = w'
structure GC (cs : CL) : Prop where
  nm : ∀ one ∈ cs, ∀ n ∈ one, isNm n = true
  ne : ∀ one ∈ cs, one ≠ []
  dj : cs.Pairwise fun a b => ∀ n ∈ a, n ∉ b
def NTa (cs : CL) : Prop := ∀ one ∈ cs, NT one
def torn1 (one : List Tx) : Bool := decide (1 < (nubS (one.filter wdN)).length)
theorem two_of_len {α : Type} {l : List α} (nd : l.Nodup) (h : 1 < l.length) : ∃ a b, a ∈ l ∧ b ∈ l ∧ a ≠ b := by
  match l, nd, h with
  | a :: b :: r, nd, _ => exact ⟨a, b, List.mem_cons_self .., List.mem_cons_of_mem _ (List.mem_cons_self ..), fun e => (List.nodup_cons.mp nd).1 (e ▸ List.mem_cons_self ..)⟩
theorem len_of_two {α : Type} {l : List α} {a b : α} (ha : a ∈ l) (hb : b ∈ l) (n : a ≠ b) : 1 < l.length := by
  match l, ha, hb with
  | [x], ha, hb => exact absurd ((List.mem_singleton.mp ha).trans (List.mem_singleton.mp hb).symm) n
  | x :: y :: r, _, _ => rw [List.length_cons, List.length_cons]; omega
theorem nubS_nd {α : Type} [DecidableEq α] (xs : List α) : (nubS xs).Nodup := nub_nd xs [] List.nodup_nil
theorem torn1_iff {one : List Tx} : torn1 one = true ↔ ¬ NT one := by
  unfold torn1
  rw [decide_eq_true_eq]
  constructor
  · intro h t
    obtain ⟨a, b, ha, hb, ne⟩ := two_of_len (nubS_nd _) h
    rw [nubS_mem, List.mem_filter] at ha hb
    exact ne (t a ha.1 b hb.1 ha.2 hb.2)
  · intro t
    refine Decidable.byContradiction fun h => t fun w hw w' hw' e e' => Decidable.byContradiction fun ne => h ?_
    exact len_of_two ((nubS_mem _).mpr (List.mem_filter.mpr ⟨hw, e⟩)) ((nubS_mem _).mpr (List.mem_filter.mpr ⟨hw', e'⟩)) ne
def tornC (cs : CL) : Bool := cs.any torn1
theorem tornC_iff {cs : CL} : tornC cs = true ↔ ¬ NTa cs := by
  unfold tornC NTa
  rw [List.any_eq_true]
  constructor
  · rintro ⟨one, h1, h2⟩ t
    exact torn1_iff.mp h2 (t one h1)
  · intro h
    refine Decidable.byContradiction fun c => h fun one h1 => Classical.byContradiction fun t => c ⟨one, h1, torn1_iff.mpr t⟩
theorem tornC_false {cs : CL} : tornC cs = false ↔ NTa cs := by
  cases h : tornC cs with
  | true => exact ⟨(fun z => nomatch z), fun z => absurd z (tornC_iff.mp h)⟩
  | false => exact ⟨fun _ => Classical.byContradiction fun z => (by rw [tornC_iff.mpr z] at h; cases h), fun _ => rfl⟩
/-! what a class is shown by -/
def IsRep (one : List Tx) (x : Tx) : Prop := x ∈ one ∧ (wdN x = true ∨ ((∀ m ∈ one, wdN m = false) ∧ ∀ m ∈ one, ¬ m < x))
theorem lesT_le (a y : Tx) : ¬ a < lesT a y ∧ ¬ y < lesT a y := by
  unfold lesT
  split
  · rename_i h
    exact ⟨fun z => List.lt_irrefl _ (List.lt_trans h z), List.lt_irrefl _⟩
  · rename_i h
    exact ⟨List.lt_irrefl _, h⟩
theorem not_lt_trans {a b c : Tx} (h1 : ¬ b < a) (h2 : ¬ c < b) : ¬ c < a := fun z => by
  have h1 : a ≤ b := h1
  have h2 : b ≤ c := h2
  exact (List.le_trans h1 h2) z
theorem foldl_les : ∀ (r : List Tx) (x : Tx), (r.foldl lesT x = x ∨ r.foldl lesT x ∈ r) ∧ ¬ x < r.foldl lesT x ∧ ∀ m ∈ r, ¬ m < r.foldl lesT x
  | [], x => ⟨.inl rfl, List.lt_irrefl _, fun m h => by cases h⟩
  | y :: r, x => by
    obtain ⟨h1, h2, h3⟩ := foldl_les r (lesT x y)
    obtain ⟨l1, l2⟩ := lesT_le x y
    rw [List.foldl_cons]
    refine ⟨?_, not_lt_trans h2 l1, fun m hm => ?_⟩
    · rcases h1 with h | h
      · rw [h]
        unfold lesT
        split
        · exact .inr (List.mem_cons_self ..)
        · exact .inl rfl
      · exact .inr (List.mem_cons_of_mem _ h)
    · rcases List.mem_cons.mp hm with e | hm
      · rw [e]; exact not_lt_trans h2 l2
      · exact h3 m hm
theorem rep1_is {one : List Tx} (h : one ≠ []) : IsRep one (rep1 one) := by
  unfold rep1
  cases e : one.filter wdN with
  | cons w r =>
    have : w ∈ one.filter wdN := by rw [e]; exact List.mem_cons_self ..
    rw [List.mem_filter] at this
    exact ⟨this.1, .inl this.2⟩
  | nil =>
    match one, h, e with
    | x :: r, _, e =>
      obtain ⟨h1, h2, h3⟩ := foldl_les r x
      have no : ∀ m ∈ x :: r, wdN m = false := fun m hm => by
        cases c : wdN m with
        | false => rfl
        | true =>
          have : m ∈ (x :: r).filter wdN := List.mem_filter.mpr ⟨hm, c⟩
          rw [e] at this
          cases this
      exact ⟨h1.elim (fun z => by show r.foldl lesT x ∈ _; rw [z]; exact List.mem_cons_self ..) fun z => List.mem_cons_of_mem _ z, .inr ⟨no, fun m hm => (List.mem_cons.mp hm).elim (fun z => z ▸ h2) (h3 m)⟩⟩
theorem rep_uniq {one two : List Tx} {x y : Tx} (h1 : IsRep one x) (h2 : IsRep two y) (s : ∀ m, m ∈ one ↔ m ∈ two) (nt : NT one) : x = y := by
  obtain ⟨a1, a2⟩ := h1
  obtain ⟨b1, b2⟩ := h2
  rcases a2 with a2 | ⟨a2, a3⟩
  · rcases b2 with b2 | ⟨b2, b3⟩
    · exact nt x a1 y ((s y).mpr b1) a2 b2
    · rw [b2 x ((s x).mp a1)] at a2; cases a2
  · rcases b2 with b2 | ⟨b2, b3⟩
    · rw [a2 y ((s y).mpr b1)] at b2; cases b2
    · have l1 : x ≤ y := a3 y ((s y).mpr b1)
      have l2 : y ≤ x := b3 x ((s x).mp a1)
      exact List.le_antisymm l1 l2
theorem rep_word {one : List Tx} {x w : Tx} (h : IsRep one x) (nt : NT one) (hw : w ∈ one) (e : wdN w = true) : x = w := by
  rcases h.2 with z | z
  · exact nt x h.1 w hw z e
  · rw [z.1 w hw] at e; cases e
theorem rep_one (n : Tx) : rep1 [n] = n := by
  unfold rep1
  cases h : wdN n with
  | true => rw [List.filter_cons_of_pos h]
  | false => rw [List.filter_cons_of_neg (by rw [h]; exact Bool.false_ne_true)]; rfl
theorem stand_cls (cs : CL) (n : Tx) : stand cs n = rep1 (cls cs n) := by
  unfold stand cls
  cases cs.find? fun one => decide (n ∈ one) with
  | some one => rfl
  | none => exact (rep_one n).symm
/-! classes by their members -/
theorem cls_self (cs : CL) (n : Tx) : n ∈ cls cs n := by
  unfold cls
  cases e : cs.find? fun one => decide (n ∈ one) with
  | some one => exact of_decide_eq_true (p := n ∈ one) (by simpa using List.find?_some e)
  | none => exact List.mem_singleton.mpr rfl
theorem cls_in {cs : CL} {n : Tx} : cls cs n ∈ cs ∨ (cls cs n = [n] ∧ ∀ one ∈ cs, n ∉ one) := by
  unfold cls
  cases e : cs.find? fun one => decide (n ∈ one) with
  | some one => exact .inl (List.mem_of_find?_eq_some e)
  | none => exact .inr ⟨rfl, fun one h z => by have := List.find?_eq_none.mp e one h; exact this (decide_eq_true z)⟩
theorem dj_eq {cs : CL} (d : cs.Pairwise fun a b => ∀ n ∈ a, n ∉ b) {a b : List Tx} (ha : a ∈ cs) (hb : b ∈ cs) {n : Tx} (na : n ∈ a) (nb : n ∈ b) : a = b := by
  induction d with
  | nil => cases ha
  | cons h _ ih =>
    rcases List.mem_cons.mp ha with e | ha
    · rcases List.mem_cons.mp hb with e' | hb
      · rw [e, e']
      · exact absurd nb (h b hb n (e ▸ na))
    · rcases List.mem_cons.mp hb with e' | hb
      · exact absurd na (h a ha n (e' ▸ nb))
      · exact ih ha hb
theorem cls_of {cs : CL} (g : GC cs) {one : List Tx} (h : one ∈ cs) {n : Tx} (hn : n ∈ one) : cls cs n = one := by
  rcases cls_in (cs := cs) (n := n) with z | ⟨_, z⟩
  · exact dj_eq g.dj z h (cls_self cs n) hn
  · exact absurd hn (z one h)
theorem cls_same {cs : CL} (g : GC cs) {m n : Tx} (h : m ∈ cls cs n) : cls cs m = cls cs n := by
  rcases cls_in (cs := cs) (n := n) with z | ⟨e, z⟩
  · exact cls_of g z h
  · rw [e] at h
    rw [List.mem_singleton.mp h]
theorem cls_ne (cs : CL) (n : Tx) : cls cs n ≠ [] := fun e => by
  have := cls_self cs n
  rw [e] at this
  cases this
theorem cls_nt {cs : CL} (t : NTa cs) (n : Tx) : NT (cls cs n) := by
  rcases cls_in (cs := cs) (n := n) with z | ⟨e, _⟩
  · exact t _ z
  · rw [e]
    intro w hw w' hw' _ _
    rw [List.mem_singleton.mp hw, List.mem_singleton.mp hw']
theorem stand_is (cs : CL) (n : Tx) : IsRep (cls cs n) (stand cs n) := by
  rw [stand_cls]
  exact rep1_is (cls_ne cs n)
theorem cls_stand {cs : CL} (g : GC cs) (n : Tx) : cls cs (stand cs n) = cls cs n := cls_same g (stand_is cs n).1
theorem stand_eq_iff {cs : CL} (g : GC cs) {m n : Tx} : stand cs m = stand cs n ↔ m ∈ cls cs n := by
  constructor
  · intro e
    have h1 := cls_stand g m
    rw [e, cls_stand g n] at h1
    rw [h1]
    exact cls_self cs m
  · intro h
    rw [stand_cls, stand_cls, cls_same g h]
theorem both_fold (p : PairT) : ∀ (cs : CL) (b : List Tx) {n : Tx}, n ∈ cs.foldl (addB p) b ↔ n ∈ b ∨ ∃ one ∈ cs, touch p one = true ∧ n ∈ one
  | [], b, n => by simp
  | one :: cs, b, n => by
    rw [List.foldl_cons, both_fold p cs]
    have key : n ∈ addB p b one ↔ n ∈ b ∨ (touch p one = true ∧ n ∈ one) := by
      unfold addB
      by_cases h : touch p one = true
      · rw [if_pos h, List.mem_append, List.mem_filter]
        by_cases c : n ∈ b
        · simp [c]
        · simp [c, h]
      · rw [if_neg h]
        simp [h]
    rw [key]
    constructor
    · rintro ((h | h) | ⟨o, h1, h2⟩)
      · exact .inl h
      · exact .inr ⟨one, List.mem_cons_self .., h⟩
      · exact .inr ⟨o, List.mem_cons_of_mem _ h1, h2⟩
    · rintro (h | ⟨o, h1, h2⟩)
      · exact .inl (.inl h)
      · rcases List.mem_cons.mp h1 with e | h1
        · exact .inl (.inr (e ▸ h2))
        · exact .inr ⟨o, h1, h2⟩
theorem cls_mem {cs : CL} (g : GC cs) {m n : Tx} : m ∈ cls cs n ↔ m = n ∨ ∃ one ∈ cs, n ∈ one ∧ m ∈ one := by
  constructor
  · intro h
    rcases cls_in (cs := cs) (n := n) with z | ⟨e, _⟩
    · exact .inr ⟨_, z, cls_self cs n, h⟩
    · rw [e] at h; exact .inl (List.mem_singleton.mp h)
  · rintro (h | ⟨one, h1, h2, h3⟩)
    · rw [h]; exact cls_self cs n
    · rw [cls_of g h1 h2]; exact h3
theorem both_mem {cs : CL} (g : GC cs) (p : PairT) {n : Tx} : n ∈ bothL cs p ↔ n ∈ cls cs p.1 ∨ n ∈ cls cs p.2 := by
  unfold bothL
  rw [both_fold, cls_mem g, cls_mem g]
  constructor
  · rintro (h | ⟨one, h1, h2, h3⟩)
    · rcases List.mem_cons.mp h with e | h
      · exact .inl (.inl e)
      · exact .inr (.inl (List.mem_singleton.mp h))
    · unfold touch at h2
      rcases (Bool.or_eq_true _ _).mp h2 with z | z
      · exact .inl (.inr ⟨one, h1, of_decide_eq_true z, h3⟩)
      · exact .inr (.inr ⟨one, h1, of_decide_eq_true z, h3⟩)
  · rintro ((h | ⟨one, h1, h2, h3⟩) | (h | ⟨one, h1, h2, h3⟩))
    · exact .inl (h ▸ List.mem_cons_self ..)
    · exact .inr ⟨one, h1, by unfold touch; rw [decide_eq_true h2]; rfl, h3⟩
    · exact .inl (List.mem_cons_of_mem _ (List.mem_singleton.mpr h))
    · exact .inr ⟨one, h1, by unfold touch; rw [decide_eq_true h2, Bool.or_true], h3⟩
theorem cls_nm {cs : CL} (g : GC cs) {n m : Tx} (hn : isNm n = true) (h : m ∈ cls cs n) : isNm m = true := by
  rcases (cls_mem g).mp h with e | ⟨one, h1, _, h3⟩
  · rw [e]; exact hn
  · exact g.nm one h1 m h3
theorem merged_gc {cs : CL} (g : GC cs) {p : PairT} (h1 : isNm p.1 = true) (h2 : isNm p.2 = true) : GC (merged cs p) where
  nm := fun one h n hn => by
    rcases List.mem_append.mp h with z | z
    · exact g.nm one (List.mem_filter.mp z).1 n hn
    · rw [List.mem_singleton.mp z] at hn
      exact ((both_mem g p).mp hn).elim (cls_nm g h1) (cls_nm g h2)
  ne := fun one h => by
    rcases List.mem_append.mp h with z | z
    · exact g.ne one (List.mem_filter.mp z).1
    · rw [List.mem_singleton.mp z]
      intro e
      have := (both_mem g p).mpr (.inl (cls_self cs p.1))
      rw [e] at this
      cases this
  dj := by
    refine List.pairwise_append.mpr ⟨g.dj.sublist (List.filter_sublist ..), List.pairwise_singleton _ _, fun a ha b hb n hn hb' => ?_⟩
    rw [List.mem_singleton.mp hb] at hb'
    rw [List.mem_filter] at ha
    have no : touch p a = false := by simpa using ha.2
    have ca := cls_of g ha.1 hn
    unfold touch at no
    rw [Bool.or_eq_false_iff] at no
    rcases (both_mem g p).mp hb' with z | z
    · have := cls_same g z
      rw [ca] at this
      exact of_decide_eq_false no.1 (this ▸ cls_self cs p.1)
    · have := cls_same g z
      rw [ca] at this
      exact of_decide_eq_false no.2 (this ▸ cls_self cs p.2)
theorem cls_merged {cs : CL} (g : GC cs) {p : PairT} (h1 : isNm p.1 = true) (h2 : isNm p.2 = true) (n : Tx) : cls (merged cs p) n = if n ∈ bothL cs p then bothL cs p else cls cs n := by
  have g' := merged_gc g h1 h2
  by_cases h : n ∈ bothL cs p
  · rw [if_pos h]
    exact cls_of g' (List.mem_append.mpr (.inr (List.mem_singleton.mpr rfl))) h
  · rw [if_neg h]
    rcases cls_in (cs := cs) (n := n) with z | ⟨e, z⟩
    · refine cls_of g' (List.mem_append.mpr (.inl (List.mem_filter.mpr ⟨z, ?_⟩))) (cls_self cs n)
      unfold touch
      rw [Bool.not_eq_true', Bool.or_eq_false_iff]
      have no := fun q => h ((both_mem g p).mpr q)
      exact ⟨decide_eq_false fun q => no (.inl (by rw [cls_same g q]; exact cls_self cs n)), decide_eq_false fun q => no (.inr (by rw [cls_same g q]; exact cls_self cs n))⟩
    · rw [e]
      rcases cls_in (cs := merged cs p) (n := n) with y | ⟨e', _⟩
      · rcases List.mem_append.mp y with w | w
        · exact absurd (cls_self _ n) (z _ (List.mem_filter.mp w).1)
        · have := cls_self (merged cs p) n
          rw [List.mem_singleton.mp w] at this
          exact absurd this h
      · exact e'
theorem merged_nta {cs : CL} (g : GC cs) (t : NTa cs) {p : PairT} (h : NT (bothL cs p)) : NTa (merged cs p) := fun one ho => by
  rcases List.mem_append.mp ho with z | z
  · exact t one (List.mem_filter.mp z).1
  · rw [List.mem_singleton.mp z]; exact h
/-- torn classes stay torn -/
theorem torn_merged {cs : CL} {p : PairT} (h : ¬ NTa cs) : ¬ NTa (merged cs p) := fun t => h fun one ho => by
  by_cases c : touch p one = true
  · have b := t _ (List.mem_append.mpr (.inr (List.mem_singleton.mpr rfl)))
    have sub : ∀ m ∈ one, m ∈ bothL cs p := fun m hm => (both_fold p cs _).mpr (.inr ⟨one, ho, c, hm⟩)
    exact fun w hw w' hw' => b w (sub w hw) w' (sub w' hw')
  · exact t one (List.mem_append.mpr (.inl (List.mem_filter.mpr ⟨ho, by rw [Bool.not_eq_true']; exact eq_false_of_ne_true c⟩)))
/-! what a told pair does -/
theorem tell_eq {cs : CL} (g : GC cs) (t : NTa cs) {p : PairT} (h1 : isNm p.1 = true) (h2 : isNm p.2 = true) (e : stand cs p.1 = stand cs p.2) : NTa (merged cs p) ∧ ∀ n, stand (merged cs p) n = stand cs n := by
  have same := cls_same g ((stand_eq_iff g).mp e)
  have mem : ∀ m, m ∈ bothL cs p ↔ m ∈ cls cs p.2 := fun m => by rw [both_mem g, same, or_self]
  have nt : NT (bothL cs p) := fun w hw w' hw' => cls_nt t p.2 w ((mem w).mp hw) w' ((mem w').mp hw')
  refine ⟨merged_nta g t nt, fun n => ?_⟩
  rw [stand_cls (merged cs p), cls_merged g h1 h2]
  by_cases c : n ∈ bothL cs p
  · rw [if_pos c]
    have := cls_same g ((mem n).mp c)
    exact rep_uniq (rep1_is (fun e => by rw [e] at c; cases c)) (stand_is cs n) (fun m => by rw [mem, this]) nt
  · rw [if_neg c, ← stand_cls]
theorem tell_torn {cs : CL} (g : GC cs) {p : PairT} (ne : stand cs p.1 ≠ stand cs p.2) (w1 : wdN (stand cs p.1) = true) (w2 : wdN (stand cs p.2) = true) : ¬ NTa (merged cs p) := fun t =>
  ne (t _ (List.mem_append.mpr (.inr (List.mem_singleton.mpr rfl))) _ ((both_mem g p).mpr (.inl (stand_is cs p.1).1)) _ ((both_mem g p).mpr (.inr (stand_is cs p.2).1)) w1 w2)
theorem stand_nm {cs : CL} (g : GC cs) {n : Tx} (h : isNm n = true) : isNm (stand cs n) = true := cls_nm g h (stand_is cs n).1
theorem tell_ne {cs : CL} (g : GC cs) (t : NTa cs) {p : PairT} (h1 : isNm p.1 = true) (h2 : isNm p.2 = true) (ne : stand cs p.1 ≠ stand cs p.2) (nw : (wdN (stand cs p.1) && wdN (stand cs p.2)) = false) :
    NTa (merged cs p) ∧ ∀ n, stand (merged cs p) n = if stand cs n = stand cs p.1 ∨ stand cs n = stand cs p.2 then fstW (stand cs p.1) (stand cs p.2) else stand cs n := by
  have i1 := stand_is cs p.1
  have i2 := stand_is cs p.2
  have n1 := cls_nt t p.1
  have n2 := cls_nt t p.2
  have words : ∀ w ∈ bothL cs p, wdN w = true → (wdN (stand cs p.1) = true ∧ w = stand cs p.1) ∨ (wdN (stand cs p.2) = true ∧ w = stand cs p.2) := fun w hw e => by
    rcases (both_mem g p).mp hw with z | z
    · have := rep_word i1 n1 z e
      exact .inl ⟨by rw [this]; exact e, this.symm⟩
    · have := rep_word i2 n2 z e
      exact .inr ⟨by rw [this]; exact e, this.symm⟩
  have nt : NT (bothL cs p) := fun w hw w' hw' e e' => by
    rcases words w hw e with ⟨a, b⟩ | ⟨a, b⟩ <;> rcases words w' hw' e' with ⟨a', b'⟩ | ⟨a', b'⟩
    · rw [b, b']
    · rw [a, a'] at nw; cases nw
    · rw [a, a'] at nw; cases nw
    · rw [b, b']
  have rep : IsRep (bothL cs p) (fstW (stand cs p.1) (stand cs p.2)) := by
    unfold fstW
    rw [isWd_wdN (stand_nm g h1), isWd_wdN (stand_nm g h2)]
    have m1 : stand cs p.1 ∈ bothL cs p := (both_mem g p).mpr (.inl i1.1)
    have m2 : stand cs p.2 ∈ bothL cs p := (both_mem g p).mpr (.inr i2.1)
    by_cases w1 : wdN (stand cs p.1) = true
    · rw [if_pos w1]; exact ⟨m1, .inl w1⟩
    rw [if_neg w1]
    by_cases w2 : wdN (stand cs p.2) = true
    · rw [if_pos w2]; exact ⟨m2, .inl w2⟩
    rw [if_neg w2]
    have no : ∀ m ∈ bothL cs p, wdN m = false := fun m hm => by
      cases c : wdN m with
      | false => rfl
      | true => exact (words m hm c).elim (fun z => absurd z.1 w1) fun z => absurd z.1 w2
    have l1 : ∀ m ∈ cls cs p.1, ¬ m < stand cs p.1 := (i1.2.resolve_left w1).2
    have l2 : ∀ m ∈ cls cs p.2, ¬ m < stand cs p.2 := (i2.2.resolve_left w2).2
    split
    · rename_i lt
      refine ⟨m2, .inr ⟨no, fun m hm => ?_⟩⟩
      rcases (both_mem g p).mp hm with z | z
      · exact not_lt_trans (fun q => List.lt_irrefl _ (List.lt_trans lt q)) (l1 m z)
      · exact l2 m z
    · rename_i lt
      refine ⟨m1, .inr ⟨no, fun m hm => ?_⟩⟩
      rcases (both_mem g p).mp hm with z | z
      · exact l1 m z
      · exact not_lt_trans lt (l2 m z)
  refine ⟨merged_nta g t nt, fun n => ?_⟩
  have iff : (stand cs n = stand cs p.1 ∨ stand cs n = stand cs p.2) ↔ n ∈ bothL cs p := by rw [both_mem g, stand_eq_iff g, stand_eq_iff g]
  rw [stand_cls (merged cs p), cls_merged g h1 h2]
  by_cases c : n ∈ bothL cs p
  · rw [if_pos c, if_pos (iff.mpr c)]
    exact rep_uniq (rep1_is (fun e => by rw [e] at c; cases c)) rep (fun m => Iff.rfl) nt
  · rw [if_neg c, if_neg (fun z => c (iff.mp z)), ← stand_cls]
/-! the law's own classes -/
theorem wdN_nm {x : Tx} (h : isNm x = true) : ((atT x 0 >>= fun c => (pure (Txt.isupper (S c)) : M Bool)) >>= fun c => (pure (!c) : M Bool)) = .ok (wdN x) := by
  rw [upper_nm h]
  rfl
theorem words_fil {one : List Tx} (h : ∀ n ∈ one, isNm n = true) (hl : one.length ≤ SZ) : lf (fun e11 => ((atT e11 0 >>= fun x15 => (pure (Txt.isupper (S x15)) : M Bool)) >>= fun c16 => (pure (!c16) : M Bool))) (fun e11 => (pure e11 : M Tx)) one = .ok (one.filter wdN) := by
  exact (lf_fil (p := wdN) (g := id) hl (fun x hx => wdN_nm (h x hx)) fun x _ _ => rfl).trans (by rw [List.map_id])
structure GCS (cs : CL) : Prop where
  nm : ∀ one ∈ cs, ∀ n ∈ one, isNm n = true
  sz : ∀ one ∈ cs, one.length < 4000
  sz2 : cs.length ≤ 4000
theorem stand_m {cs : CL} (g : GCS cs) (n : Tx) : m__law_stand cs n = .ok (stand cs n) := by
  unfold m__law_stand
  simp only [pure_bind]
  rw [forT_findSome (p := fun one => if decide (n ∈ one) = true then some (rep1 one) else none) fun one ho => ?_, find_some_map]
  · unfold stand
    cases cs.find? fun one => decide (n ∈ one) <;> rfl
  · cases c : decide (n ∈ one) with
    | false => rfl
    | true =>
      simp only [if_true]
      have l4 := g.sz one ho
      rw [words_fil (g.nm one ho) (by rw [SZ_val]; omega), okb]
      unfold rep1
      cases e : one.filter wdN with
      | cons w r =>
        have : decide ((0 : Int) < (((w :: r).length : Nat) : Int)) = true := decide_eq_true (by rw [List.length_cons]; omega)
        rw [if_pos this]
        obtain ⟨a, ea, e2⟩ := atL_some (xs := w :: r) (i := 0) (by decide) (by rw [List.length_cons]; omega)
        have e2 : some w = some a := e2
        cases e2
        rw [ea]
        rfl
      | nil =>
        rw [if_neg (by decide)]
        match one, c with
        | x :: r, _ => rfl
        | [], c => exact absurd (of_decide_eq_true c) (by simp)
theorem torn_m {cs : CL} (g : GCS cs) : m__law_torn cs = .ok (tornC cs) := by
  unfold m__law_torn
  simp only [pure_bind]
  rw [forT_search (p := torn1) (r := true)]
  · unfold tornC
    cases cs.any torn1 <;> rfl
  · intro one ho
    have l4 := g.sz one ho
    have l5 := List.length_filter_le wdN one
    have e : lf (fun e11 => ((atT e11 0 >>= fun x15 => (pure (Txt.isupper (S x15)) : M Bool)) >>= fun c16 => (pure (!c16) : M Bool))) (fun e11 => (pure e11 : M Tx)) one >>= lenSet = .ok ((nubS (one.filter wdN)).length : Int) := by
      rw [words_fil (g.nm one ho) (by rw [SZ_val]; omega), okb]
      unfold lenSet
      rw [chk_b (by omega)]
      rfl
    refine Eq.trans (congrArg (fun m => m >>= _) (congrArg (fun m => m >>= _) e)) ?_
    show (if decide ((1 : Int) < (((nubS (one.filter wdN)).length : Nat) : Int)) = true then (.ok (.rt true) : M (Tl Unit Bool)) else .ok (.ct ())) = _
    have key : decide ((1 : Int) < (((nubS (one.filter wdN)).length : Nat) : Int)) = torn1 one := decide_eq_decide.mpr (by omega)
    rw [key]
    cases torn1 one <;> rfl
theorem mg_fold (p : PairT) : ∀ (cs : CL) (b : List Tx) (r : CL), cs.foldl (fun (s : List Tx × CL) one => if touch p one = true then (s.1 ++ one.filter (fun n => !decide (n ∈ s.1)), s.2) else (s.1, s.2 ++ [one])) (b, r) = (cs.foldl (addB p) b, r ++ cs.filter fun one => !touch p one)
  | [], b, r => by rw [List.filter_nil, List.append_nil]; rfl
  | one :: cs, b, r => by
    rw [List.foldl_cons, List.foldl_cons]
    by_cases h : touch p one = true
    · rw [if_pos h, mg_fold p cs, List.filter_cons_of_neg (by rw [h]; decide)]
      unfold addB
      rw [if_pos h]
    · rw [if_neg h, mg_fold p cs, List.filter_cons_of_pos (by rw [eq_false_of_ne_true h]; decide), List.append_assoc]
      have e : addB p b one = b := by unfold addB; rw [if_neg h]
      rw [e]
      rfl
theorem cat1 {α : Type} {xs ys : List α} (h : xs.length + ys.length ≤ SZ) : catM xs ys = .ok (xs ++ ys) := by unfold catM; rw [chk_b h]; rfl
/-- the names told so far, to be few -/
def tot (cs : CL) : Nat := (cs.map List.length).sum
theorem addB_len (p : PairT) : ∀ (cs : CL) (b : List Tx), (cs.foldl (addB p) b).length ≤ b.length + tot cs
  | [], b => Nat.le_add_right _ _
  | one :: cs, b => by
    rw [List.foldl_cons]
    have h1 := addB_len p cs (addB p b one)
    have h2 : (addB p b one).length ≤ b.length + one.length := by
      unfold addB
      split
      · rw [List.length_append]
        have := List.length_filter_le (fun n => !decide (n ∈ b)) one
        omega
      · omega
    have h3 : tot (one :: cs) = one.length + tot cs := by unfold tot; rw [List.map_cons, List.sum_cons]
    omega
theorem one_le_tot : ∀ {cs : CL} {one : List Tx}, one ∈ cs → one.length ≤ tot cs
  | c :: cs, one, h => by
    have h3 : tot (c :: cs) = c.length + tot cs := by unfold tot; rw [List.map_cons, List.sum_cons]
    rcases List.mem_cons.mp h with e | h
    · rw [e]; omega
    · have := one_le_tot h; omega
theorem merged_m {cs : CL} {p : PairT} (h1 : cs.length ≤ 4000) (h2 : tot cs ≤ 4000) : m__law_merged cs p = .ok (merged cs p) := by
  have hS : SZ = 16777216 := SZ_val
  unfold m__law_merged
  simp only [pure_bind]
  have loop := forP_fold (g := fun (s11 : List Tx × CL) (e12 : List Tx) => ((((pure (decide (p.1 ∈ e12)) : M Bool) >>= fun c25 => if c25 = true then (pure true : M Bool) else (pure (decide (p.2 ∈ e12)) : M Bool)) >>= fun c26 => if c26 = true then (lf (fun e29 => (pure (!decide (e29 ∈ s11.1)) : M Bool)) (fun e29 => (pure e29 : M Tx)) e12 >>= fun y34 => catM s11.1 y34) >>= fun a28 => (pure (a28, s11.2) : M (List Tx × CL)) else (chk (s11.2.length < SZ) >>= fun _ => (pure e12 : M (List Tx))) >>= fun a35 => (pure (s11.1, (s11.2 ++ [a35])) : M (List Tx × CL))) >>= fun s27 => (pure (s27.1, s27.2) : M (List Tx × CL))))
    (f := fun (s : List Tx × CL) one => if touch p one = true then (s.1 ++ one.filter (fun n => !decide (n ∈ s.1)), s.2) else (s.1, s.2 ++ [one])) (fun j s => s.1.length ≤ 2 + 4000 * j ∧ s.2.length ≤ j ∧ j ≤ cs.length) cs 0 ([p.1, p.2], []) (fun j s one ho hj ⟨i1, i2, i3⟩ => by
      have l1 := one_le_tot ho
      have l2 := List.length_filter_le (fun n => !decide (n ∈ s.1)) one
      have tc : ((pure (decide (p.1 ∈ one)) : M Bool) >>= fun c25 => if c25 = true then (pure true : M Bool) else (pure (decide (p.2 ∈ one)) : M Bool)) = .ok (touch p one) := by
        unfold touch
        cases decide (p.1 ∈ one) <;> rfl
      have i1' : s.1.length ≤ 2 + 4000 * j := i1
      have jl : j < cs.length := by omega
      refine ⟨?_, ?_⟩
      · rw [tc, okb]
        by_cases h : touch p one = true
        · rw [if_pos h, if_pos h]
          have e : lf (fun e29 => (pure (!decide (e29 ∈ s.1)) : M Bool)) (fun e29 => (pure e29 : M Tx)) one = .ok (one.filter fun n => !decide (n ∈ s.1)) := by
            exact (lf_fil (p := fun n => !decide (n ∈ s.1)) (g := id) (xs := one) (by omega) (fun x _ => rfl) fun x _ _ => rfl).trans (by rw [List.map_id])
          rw [e, okb, cat1 (by omega)]
          rfl
        · rw [if_neg h, if_neg h, chk_b (by omega)]
          rfl
      · show (if touch p one = true then _ else _ : List Tx × CL).1.length ≤ _ ∧ (if touch p one = true then _ else _ : List Tx × CL).2.length ≤ _ ∧ _
        split
        · exact ⟨by rw [List.length_append]; omega, by show s.2.length ≤ _; omega, by omega⟩
        · exact ⟨by show s.1.length ≤ _; omega, by rw [List.length_append, List.length_singleton]; omega, by omega⟩) ⟨by show 2 ≤ _; omega, Nat.le_refl _, Nat.zero_le _⟩
  refine Eq.trans (congrArg (fun m => m >>= _) (loop.1.trans (congrArg Except.ok (mg_fold p cs [p.1, p.2] [])))) (Eq.trans okb ?_)
  have l1 := List.length_filter_le (fun one => !touch p one) cs
  show catM ([] ++ cs.filter fun one => !touch p one) [cs.foldl (addB p) [p.1, p.2]] = _
  rw [List.nil_append, cat1 (by rw [List.length_singleton]; omega)]
  rfl
theorem tot_app (a b : CL) : tot (a ++ b) = tot a + tot b := by unfold tot; rw [List.map_append, List.sum_append]
theorem tot_filter (q : List Tx → Bool) : ∀ cs : CL, tot (cs.filter q) ≤ tot cs
  | [] => Nat.le_refl _
  | c :: cs => by
    have h3 : tot (c :: cs) = c.length + tot cs := by unfold tot; rw [List.map_cons, List.sum_cons]
    have := tot_filter q cs
    cases h : q c with
    | true =>
      rw [List.filter_cons_of_pos h]
      have h4 : tot (c :: cs.filter q) = c.length + tot (cs.filter q) := by unfold tot; rw [List.map_cons, List.sum_cons]
      omega
    | false =>
      rw [List.filter_cons_of_neg (by rw [h]; decide)]
      omega
/-- the classes' lengths, more exactly: what is touched goes into both -/
theorem both_tot (p : PairT) : ∀ (cs : CL) (b : List Tx), (cs.foldl (addB p) b).length + tot (cs.filter fun one => !touch p one) ≤ b.length + tot cs
  | [], b => Nat.le_refl _
  | one :: cs, b => by
    rw [List.foldl_cons]
    have h1 := both_tot p cs (addB p b one)
    have h3 : tot (one :: cs) = one.length + tot cs := by unfold tot; rw [List.map_cons, List.sum_cons]
    by_cases h : touch p one = true
    · rw [List.filter_cons_of_neg (by rw [h]; decide)]
      have h2 : (addB p b one).length ≤ b.length + one.length := by
        unfold addB
        rw [if_pos h, List.length_append]
        have := List.length_filter_le (fun n => !decide (n ∈ b)) one
        omega
      omega
    · rw [List.filter_cons_of_pos (by rw [eq_false_of_ne_true h]; decide)]
      have h2 : addB p b one = b := by unfold addB; rw [if_neg h]
      rw [h2] at h1 ⊢
      have h4 : tot (one :: cs.filter fun one => !touch p one) = one.length + tot (cs.filter fun one => !touch p one) := by unfold tot; rw [List.map_cons, List.sum_cons]
      omega
theorem merged_tot (cs : CL) (p : PairT) : tot (merged cs p) ≤ tot cs + 2 ∧ (merged cs p).length ≤ cs.length + 1 := by
  have h1 := both_tot p cs [p.1, p.2]
  have h2 : tot [bothL cs p] = (bothL cs p).length := by unfold tot; simp
  constructor
  · unfold merged
    rw [tot_app, h2]
    unfold bothL
    simp only [List.length_cons, List.length_nil] at h1
    omega
  · unfold merged
    rw [List.length_append, List.length_singleton]
    have := List.length_filter_le (fun one => !touch p one) cs
    omega
theorem gcs_of {cs : CL} (g : GC cs) (h1 : cs.length ≤ 4000) (h2 : tot cs < 4000) : GCS cs := ⟨g.nm, fun one ho => Nat.lt_of_le_of_lt (one_le_tot ho) h2, h1⟩
/-! facts as they stand, the law's own pool -/
def now (cs : CL) (f : Fct) : Fct := (f.1, (List.map (α := Tx) (stand cs) f.2 : List Tx))
theorem now_m {cs : CL} (g : GCS cs) {f : Fct} (h : List.length (α := Tx) f.2 ≤ SZ) : m__law_now cs f = .ok (now cs f) := by
  unfold m__law_now
  simp only [pure_bind]
  have e : lc (α := Tx) (fun e5 => m__law_stand cs e5) f.2 = .ok (List.map (α := Tx) (stand cs) f.2) := lc_map (α := Tx) (g := stand cs) h fun x _ => stand_m g x
  show ((lc (α := Tx) (fun e5 => m__law_stand cs e5) f.2) >>= fun x9 => (pure x9 : M (Tup Tx))) >>= (fun x11 => (pure (f.1, x11) : M Fct)) = _
  rw [e]
  rfl
theorem now_gf {cs : CL} (g : GC cs) {f : Fct} (hf : GF f) : GF (now cs f) := by
  obtain ⟨h1, h2, h3⟩ := hf
  refine ⟨h1, fun a ha => ?_, ?_⟩
  · obtain ⟨b, hb, e⟩ := List.mem_map.mp (show a ∈ List.map (α := Tx) (stand cs) f.2 from ha)
    rw [← e]
    exact stand_nm g (h2 b hb)
  · exact Nat.le_trans (Nat.le_of_eq (List.length_map (as := (show List Tx from f.2)) (stand cs))) h3
def samePr (cs : CL) (n : Tx) : PairT := (n, stand cs n)
def settleG (g : Fct → Fct) (bag once : List Fct) (d : SD) : PoolT := T4.mk (srtD (bag.map g)) (srtD (nubL (once.map g))) (srtD d) false
theorem settleG_ext {g : Fct → Fct} {a a' b b' : List Fct} {d d' : SD} (h1 : srtD (a.map g) = srtD (a'.map g)) (h2 : srtD (nubL (b.map g)) = srtD (nubL (b'.map g))) (h3 : srtD (α := Tx × Tx) d = srtD d') : settleG g a b d = settleG g a' b' d' := T4.ext' h1 h2 h3 rfl
theorem settle_G (a b : List Fct) (d : SD) : settle a b d = settleG (ren d) a b d := rfl
def lawPool (bag once : List Fct) (cs : CL) (kn : List Tx) : PoolT := if tornC cs = true then BROK else settleG (now cs) bag once (kn.map (samePr cs))
def nubStep {α β : Type} [DecidableEq β] (g : α → β) (s : List β) (e : α) : List β := if g e ∈ s then s else s ++ [g e]
theorem nubStep_t {α β : Type} [DecidableEq β] {g : α → β} {s : List β} {e : α} (h : g e ∈ s) : nubStep g s e = s := if_pos h
theorem nubStep_f {α β : Type} [DecidableEq β] {g : α → β} {s : List β} {e : α} (h : g e ∉ s) : nubStep g s e = s ++ [g e] := if_neg h
theorem nubStep_mem {α β : Type} [DecidableEq β] {g : α → β} {s : List β} {e : α} {x : β} (h : x ∈ nubStep g s e) : x ∈ s ∨ x = g e := by
  unfold nubStep at h
  split at h
  · exact .inl h
  · exact (List.mem_append.mp h).elim .inl fun z => .inr (List.mem_singleton.mp z)
theorem nubStep_len {α β : Type} [DecidableEq β] (g : α → β) (s : List β) (e : α) : (nubStep g s e).length ≤ s.length + 1 := by
  unfold nubStep
  split
  · exact Nat.le_succ _
  · rw [List.length_append]; exact Nat.le_refl _
theorem nub_fold {α β : Type} [DecidableEq β] (g : α → β) : ∀ (xs : List α) (acc : List β), xs.foldl (nubStep g) acc = (xs.map g).foldl (fun acc x => if x ∈ acc then acc else acc ++ [x]) acc
  | [], acc => rfl
  | x :: xs, acc => by rw [List.foldl_cons, List.map_cons, List.foldl_cons, nub_fold g xs]; rfl
theorem pool_m {bag once : List Fct} {cs : CL} {kn : List Tx} (g : GC cs) (h1 : cs.length ≤ 4000) (h2 : tot cs < 4000) (hb : ∀ f ∈ bag, GF f) (ho : ∀ f ∈ once, GF f) (hk : ∀ n ∈ kn, isNm n = true) (lb : bag.length ≤ 100000) (lo : once.length ≤ 100000) (lk : kn.length ≤ 100000) :
    m__law_pool bag once cs kn = .ok (lawPool bag once cs kn) := by
  have hS : SZ = 16777216 := SZ_val
  have gs := gcs_of g h1 h2
  unfold m__law_pool lawPool
  simp only [pure_bind, torn_m gs, okb]
  by_cases t : tornC cs = true
  · rw [if_pos t, if_pos t]; rfl
  rw [if_neg t, if_neg t]
  have loop := forP_fold (g := fun (s11 : List Fct) (e12 : Fct) => (m__law_now cs e12 >>= fun a17 => ((chk (Shp a17 ∧ Shp s11) >>= fun _ => (pure (!memD a17 s11) : M Bool)) >>= fun c23 => if c23 = true then ((chk (s11.length < SZ) >>= fun _ => (pure a17 : M Fct)) >>= fun a25 => (pure (s11 ++ [a25]) : M (List Fct))) else (pure s11 : M (List Fct))) >>= fun s24 => (pure s24 : M (List Fct))))
    (f := nubStep (now cs)) (fun j s => (∀ f ∈ s, GF f) ∧ s.length ≤ j) once 0 [] (fun j s f hf hj ⟨i1, i2⟩ => by
      have gf := now_gf g (ho f hf)
      have nl := nubStep_len (now cs) s f
      refine ⟨?_, fun x hx => (nubStep_mem hx).elim (i1 x) fun z => z ▸ gf, by omega⟩
      rw [now_m gs (gf_sz (ho f hf)), okb, chk_b ⟨shp_fact gf, shp_facts i1⟩, pure_bind]
      by_cases h : now cs f ∈ s
      · rw [memD_t h, Bool.not_true, if_neg Bool.false_ne_true, nubStep_t h]; rfl
      · rw [memD_f h, Bool.not_false, if_pos rfl, chk_b (by omega), nubStep_f h]; rfl) ⟨(fun _ h => by cases h), Nat.le_refl _⟩
  have ge : once.foldl (nubStep (now cs)) [] = nubL (once.map (now cs)) := nub_fold (now cs) once []
  refine Eq.trans (congrArg (fun m => m >>= _) (loop.1.trans (congrArg Except.ok ge))) (Eq.trans okb ?_)
  have e1 : lc (fun e29 => m__law_stand cs e29 >>= fun x33 => (pure (e29, x33) : M (Tx × Tx))) kn = .ok (kn.map (samePr cs)) := lc_map (g := samePr cs) (by omega) fun x _ => by rw [stand_m gs, okb]; rfl
  refine Eq.trans (congrArg (fun m => m >>= _) e1) (Eq.trans okb ?_)
  have e2 : lc (fun e36 => m__law_now cs e36) bag = .ok (bag.map (now cs)) := lc_map (g := now cs) (by omega) fun f hf => now_m gs (gf_sz (hb f hf))
  have g1 : ∀ f ∈ bag.map (now cs), GF f := fun f hf => by
    obtain ⟨x, hx, e⟩ := List.mem_map.mp hf
    rw [← e]; exact now_gf g (hb x hx)
  have g2 : ∀ f ∈ nubL (once.map (now cs)), GF f := fun f hf => by
    obtain ⟨x, hx, e⟩ := List.mem_map.mp (nubL_mem.mp hf)
    rw [← e]; exact now_gf g (ho x hx)
  have g3 : ∀ q ∈ kn.map (samePr cs), Shp q := fun q hq => by
    obtain ⟨n, hn, e⟩ := List.mem_map.mp hq
    rw [← e]
    exact shp_pair (hk n hn) (stand_nm g (hk n hn))
  have l2 : (nubL (once.map (now cs))).length ≤ SZ := by
    have := nub_len (once.map (now cs)) []
    rw [List.length_map] at this
    simp only [List.length_nil] at this
    unfold nubL
    omega
  refine Eq.trans (congrArg (fun m => (m >>= fun x40 => sortM x40) >>= _) e2) ?_
  rw [okb, sortM_eq (by rw [List.length_map]; omega) (fun f hf => shp_fact (g1 f hf)), okb, sortM_eq l2 (fun f hf => shp_fact (g2 f hf)), sortM_eq (by rw [List.length_map]; omega) g3]
  rfl
theorem is_pool_m (p q : PoolT) : m__law_is_pool p q = .ok (decide (p = q)) := rfl
/-! the pool's dict and the law's classes -/
def RD (d : SD) (cs : CL) (kn : List Tx) : Prop := d.Perm (kn.map (samePr cs))
theorem dget_nd {d : SD} (nd : (d.map (·.1)).Nodup) {n a : Tx} : dgetM d n = some a ↔ (n, a) ∈ d := by
  refine ⟨dget_mem, fun h => ?_⟩
  induction d with
  | nil => cases h
  | cons q d ih =>
    rw [List.map_cons, List.nodup_cons] at nd
    rw [dget_cons]
    by_cases e : q.1 = n
    · rw [if_pos e]
      rcases List.mem_cons.mp h with z | z
      · rw [← z]
      · exact absurd (List.mem_map.mpr ⟨_, z, e.symm⟩) nd.1
    · rw [if_neg e]
      rcases List.mem_cons.mp h with z | z
      · exact absurd (congrArg Prod.fst z).symm e
      · exact ih nd.2 z
theorem RD.keys {d : SD} {cs : CL} {kn : List Tx} (h : RD d cs kn) : (d.map (·.1)).Perm kn := by
  have := h.map (·.1)
  rw [List.map_map] at this
  have e : ((fun x : Tx × Tx => x.1) ∘ samePr cs) = id := rfl
  rwa [e, List.map_id] at this
theorem RD.get {d : SD} {cs : CL} {kn : List Tx} (h : RD d cs kn) (nd : kn.Nodup) (n : Tx) : dgetM d n = if n ∈ kn then some (stand cs n) else none := by
  have nk : (d.map (·.1)).Nodup := h.keys.nodup_iff.mpr nd
  by_cases c : n ∈ kn
  · rw [if_pos c]
    exact (dget_nd nk).mpr (h.mem_iff.mpr (List.mem_map.mpr ⟨n, c, rfl⟩))
  · rw [if_neg c]
    cases e : dgetM d n with
    | none => rfl
    | some a =>
      have := h.keys.mem_iff.mp (List.mem_map.mpr ⟨_, dget_mem e, rfl⟩)
      exact absurd this c
/-- what the law knows -/
structure LK0 (cs : CL) (kn : List Tx) : Prop where
  g : GC cs
  nd : kn.Nodup
  kg : ∀ n ∈ kn, isNm n = true ∧ isOpn n = true
  cl : ∀ one ∈ cs, ∀ n ∈ one, isOpn n = true → n ∈ kn
theorem stand_out {cs : CL} {n : Tx} (h : ∀ one ∈ cs, n ∉ one) : stand cs n = n := by
  unfold stand
  rw [List.find?_eq_none.mpr fun one ho => by rw [decide_eq_false (h one ho)]; exact Bool.false_ne_true]
theorem stand_word {cs : CL} (t : NTa cs) {n : Tx} (h : isOpn n = false) : stand cs n = n := rep_word (stand_is cs n) (cls_nt t n) (cls_self cs n) (by unfold wdN; rw [h]; rfl)
theorem RDsub {d : SD} {cs : CL} {kn : List Tx} (h : RD d cs kn) (l : LK0 cs kn) (t : NTa cs) (n : Tx) : sub d n = stand cs n := by
  unfold Q.sub
  rw [h.get l.nd]
  by_cases c : n ∈ kn
  · rw [if_pos c]; rfl
  · rw [if_neg c]
    cases o : isOpn n with
    | false => exact (stand_word t o).symm
    | true => exact (stand_out fun one ho hn => c (l.cl one ho n hn o)).symm
theorem RDren {d : SD} {cs : CL} {kn : List Tx} (h : RD d cs kn) (l : LK0 cs kn) (t : NTa cs) : ren d = now cs := funext fun f => by
  unfold Q.ren now
  rw [show Q.sub d = stand cs from funext fun n => RDsub h l t n]
theorem addN_lk {cs : CL} {kn : List Tx} (l : LK0 cs kn) {n : Tx} (hn : isNm n = true) : LK0 cs (addN kn n) := by
  unfold addN
  split
  · rename_i c
    refine ⟨l.g, List.nodup_append.mpr ⟨l.nd, List.nodup_cons.mpr ⟨(by simp), List.nodup_nil⟩, fun a ha b hb e => c.2 (by rw [← List.mem_singleton.mp hb, ← e]; exact ha)⟩, fun m hm => (List.mem_append.mp hm).elim (l.kg m) fun z => by rw [List.mem_singleton.mp z]; exact ⟨hn, c.1⟩, fun one ho m hm o => List.mem_append.mpr (.inl (l.cl one ho m hm o))⟩
  · exact l
theorem lrn_rd {d : SD} {cs : CL} {kn : List Tx} (h : RD d cs kn) (l : LK0 cs kn) (n : Tx) : RD (lrn d n) cs (addN kn n) := by
  unfold lrn addN
  rw [h.get l.nd]
  by_cases c : n ∈ kn
  · rw [if_pos c, if_neg (by simp), if_neg (fun z => z.2 c)]
    exact h
  · rw [if_neg c]
    cases o : isOpn n with
    | false => rw [if_neg (by simp), if_neg (by simp)]; exact h
    | true =>
      rw [if_pos (show (true && !(none : Option Tx).isSome) = true from rfl), if_pos ⟨rfl, c⟩]
      have e : dputM d n n = d ++ [(n, n)] := by
        unfold dputM
        rw [h.get l.nd, if_neg c]
        rfl
      rw [e]
      unfold RD
      rw [List.map_append]
      have e2 : samePr cs n = (n, n) := by
        unfold samePr
        rw [stand_out fun one ho hn => c (l.cl one ho n hn o)]
      show (d ++ [(n, n)]).Perm (kn.map (samePr cs) ++ [samePr cs n])
      rw [e2]
      exact List.Perm.append_right _ h
theorem lrnL_rd {cs : CL} : ∀ {ns : List Tx} {d : SD} {kn : List Tx}, RD d cs kn → LK0 cs kn → (∀ n ∈ ns, isNm n = true) → RD (lrnL d ns) cs (ns.foldl addN kn) ∧ LK0 cs (ns.foldl addN kn)
  | [], d, kn, h, l, _ => ⟨h, l⟩
  | n :: ns, d, kn, h, l, hn => lrnL_rd (ns := ns) (lrn_rd h l n) (addN_lk l (hn n (List.mem_cons_self ..))) fun m hm => hn m (List.mem_cons_of_mem _ hm)
theorem addN_sub {kn : List Tx} {n m : Tx} (h : m ∈ kn) : m ∈ addN kn n := by
  unfold addN
  split
  · exact List.mem_append.mpr (.inl h)
  · exact h
theorem addN_self {kn : List Tx} {n : Tx} (h : isOpn n = true) : n ∈ addN kn n := by
  unfold addN
  by_cases c : n ∈ kn
  · rw [if_neg fun z => z.2 c]; exact c
  · rw [if_pos ⟨h, c⟩]; exact List.mem_append.mpr (.inr (List.mem_singleton.mpr rfl))
theorem foldN_sub : ∀ (ns : List Tx) {kn : List Tx} {m : Tx}, m ∈ kn → m ∈ ns.foldl addN kn
  | [], _, _, h => h
  | n :: ns, _, _, h => foldN_sub ns (addN_sub h)
theorem learnF_rd {cs : CL} : ∀ {fs : List Fct} {d : SD} {kn : List Tx}, RD d cs kn → LK0 cs kn → (∀ f ∈ fs, GF f) → RD (learnF d fs) cs (knownF kn fs) ∧ LK0 cs (knownF kn fs)
  | [], d, kn, h, l, _ => ⟨h, l⟩
  | f :: fs, d, kn, h, l, hf => by
    obtain ⟨a, b⟩ := lrnL_rd (ns := f.2) h l (hf f (List.mem_cons_self ..)).2.1
    exact learnF_rd (fs := fs) a b fun g hg => hf g (List.mem_cons_of_mem _ hg)
theorem merged_lk {cs : CL} {kn : List Tx} (l : LK0 cs kn) {p : PairT} (h1 : isNm p.1 = true) (h2 : isNm p.2 = true) (k1 : isOpn p.1 = true → p.1 ∈ kn) (k2 : isOpn p.2 = true → p.2 ∈ kn) : LK0 (merged cs p) kn where
  g := merged_gc l.g h1 h2
  nd := l.nd
  kg := l.kg
  cl := fun one ho n hn o => by
    rcases List.mem_append.mp ho with z | z
    · exact l.cl one (List.mem_filter.mp z).1 n hn o
    · rw [List.mem_singleton.mp z] at hn
      rcases (both_mem l.g p).mp hn with y | y
      · rcases (cls_mem l.g).mp y with e | ⟨c, c1, _, c3⟩
        · rw [e] at o ⊢; exact k1 o
        · exact l.cl c c1 n c3 o
      · rcases (cls_mem l.g).mp y with e | ⟨c, c1, _, c3⟩
        · rw [e] at o ⊢; exact k2 o
        · exact l.cl c c1 n c3 o
theorem tell_rd {d : SD} {cs : CL} {kn : List Tx} (h : RD d cs kn) (l : LK0 cs kn) (t : NTa cs) {p : PairT} (h1 : isNm p.1 = true) (h2 : isNm p.2 = true) :
    if (tellD d p).1 = true then NTa (merged cs p) ∧ RD (tellD d p).2 (merged cs p) kn else ¬ NTa (merged cs p) := by
  unfold tellD
  rw [RDsub h l t, RDsub h l t, isWd_wdN (stand_nm l.g h1), isWd_wdN (stand_nm l.g h2)]
  by_cases e : stand cs p.1 = stand cs p.2
  · rw [if_pos e, if_pos rfl]
    obtain ⟨a, b⟩ := tell_eq l.g t h1 h2 e
    refine ⟨a, ?_⟩
    have : samePr (merged cs p) = samePr cs := funext fun n => by unfold samePr; rw [b]
    unfold RD
    rw [this]
    exact h
  · rw [if_neg e]
    by_cases w : (wdN (stand cs p.1) && wdN (stand cs p.2)) = true
    · rw [if_pos w, if_neg Bool.false_ne_true]
      rw [Bool.and_eq_true] at w
      exact tell_torn l.g e w.1 w.2
    · rw [if_neg w, if_pos rfl]
      obtain ⟨a, b⟩ := tell_ne l.g t h1 h2 e (eq_false_of_ne_true w)
      refine ⟨a, ?_⟩
      have := h.map fun q : Tx × Tx => if q.2 = stand cs p.1 ∨ q.2 = stand cs p.2 then (q.1, fstW (stand cs p.1) (stand cs p.2)) else q
      rw [List.map_map] at this
      unfold RD
      have e2 : samePr (merged cs p) = ((fun q : Tx × Tx => if q.2 = stand cs p.1 ∨ q.2 = stand cs p.2 then (q.1, fstW (stand cs p.1) (stand cs p.2)) else q) ∘ samePr cs) := funext fun n => by
        show (n, stand (merged cs p) n) = if stand cs n = stand cs p.1 ∨ stand cs n = stand cs p.2 then (n, fstW (stand cs p.1) (stand cs p.2)) else (n, stand cs n)
        rw [b]
        by_cases c : stand cs n = stand cs p.1 ∨ stand cs n = stand cs p.2
        · rw [if_pos c, if_pos c]
        · rw [if_neg c, if_neg c]
      rw [e2]
      exact this
/-- pairs told one behind the other -/
def mergeAll (cs : CL) (td : List PairT) : CL := td.foldl merged cs
def knownP (kn : List Tx) (td : List PairT) : List Tx := td.foldl (fun kn p => [p.1, p.2].foldl addN kn) kn
theorem torn_all : ∀ (td : List PairT) {cs : CL}, ¬ NTa cs → ¬ NTa (mergeAll cs td)
  | [], _, h => h
  | p :: td, cs, h => torn_all td (cs := merged cs p) (torn_merged h)
theorem pair_lk {cs : CL} {kn : List Tx} (l : LK0 cs kn) {p : PairT} (h1 : isNm p.1 = true) (h2 : isNm p.2 = true) : LK0 (merged cs p) ([p.1, p.2].foldl addN kn) :=
  merged_lk (p := p) (addN_lk (addN_lk l h1) h2) h1 h2 (fun o => addN_sub (addN_self o)) fun o => addN_self o
theorem tellAll_rd : ∀ (td : List PairT) {d : SD} {cs : CL} {kn : List Tx}, RD d cs kn → LK0 cs kn → NTa cs → (∀ q ∈ td, isNm q.1 = true ∧ isNm q.2 = true) → match tellAll d td with
    | some d' => NTa (mergeAll cs td) ∧ RD d' (mergeAll cs td) (knownP kn td)
    | none => ¬ NTa (mergeAll cs td)
  | [], d, cs, kn, h, l, t, _ => ⟨t, h⟩
  | p :: td, d, cs, kn, h, l, t, hq => by
    obtain ⟨h1, h2⟩ := hq p (List.mem_cons_self ..)
    have hn : ∀ n ∈ [p.1, p.2], isNm n = true := fun n hn => (List.mem_cons.mp hn).elim (fun e => e ▸ h1) fun z => by rw [List.mem_singleton.mp z]; exact h2
    obtain ⟨r1, l1⟩ := lrnL_rd (ns := [p.1, p.2]) h l hn
    have := tell_rd r1 l1 t h1 h2
    rw [tellAll_cons]
    by_cases c : (tellD (lrnL d [p.1, p.2]) p).1 = true
    · rw [if_pos c] at this ⊢
      exact tellAll_rd td (cs := merged cs p) this.2 (pair_lk l h1 h2) this.1 fun q hq' => hq q (List.mem_cons_of_mem _ hq')
    · rw [if_neg c] at this ⊢
      exact torn_all td this
theorem mergeAll_lk : ∀ (td : List PairT) {cs : CL} {kn : List Tx}, LK0 cs kn → (∀ q ∈ td, isNm q.1 = true ∧ isNm q.2 = true) → LK0 (mergeAll cs td) (knownP kn td)
  | [], _, _, l, _ => l
  | p :: td, cs, kn, l, hq => mergeAll_lk td (cs := merged cs p) (pair_lk l (hq p (List.mem_cons_self ..)).1 (hq p (List.mem_cons_self ..)).2) fun q h => hq q (List.mem_cons_of_mem _ h)
/-! later classes hold the earlier ones -/
def SubC (cs cs' : CL) : Prop := ∀ m n, m ∈ cls cs n → m ∈ cls cs' n
theorem sub_merged {cs : CL} (g : GC cs) {p : PairT} (h1 : isNm p.1 = true) (h2 : isNm p.2 = true) : SubC cs (merged cs p) := fun m n h => by
  rw [cls_merged g h1 h2]
  by_cases c : n ∈ bothL cs p
  · rw [if_pos c]
    rcases (both_mem g p).mp c with z | z
    · exact (both_mem g p).mpr (.inl (by rw [← cls_same g z]; exact h))
    · exact (both_mem g p).mpr (.inr (by rw [← cls_same g z]; exact h))
  · rw [if_neg c]; exact h
theorem sub_all : ∀ (td : List PairT) {cs : CL}, GC cs → (∀ q ∈ td, isNm q.1 = true ∧ isNm q.2 = true) → SubC cs (mergeAll cs td)
  | [], _, _, _ => fun _ _ h => h
  | p :: td, cs, g, hq => fun m n h => sub_all td (merged_gc g (hq p (List.mem_cons_self ..)).1 (hq p (List.mem_cons_self ..)).2) (fun q h => hq q (List.mem_cons_of_mem _ h)) m n (sub_merged g (hq p (List.mem_cons_self ..)).1 (hq p (List.mem_cons_self ..)).2 m n h)
theorem stand_stand {cs cs' : CL} (g' : GC cs') (s : SubC cs cs') (n : Tx) : stand cs' (stand cs n) = stand cs' n := (stand_eq_iff g').mpr (s _ _ (stand_is cs n).1)
theorem now_now {cs cs' : CL} (g' : GC cs') (s : SubC cs cs') (f : Fct) : now cs' (now cs f) = now cs' f := by
  unfold now
  refine Prod.ext rfl ?_
  have key : ∀ l : List Tx, (l.map (stand cs)).map (stand cs') = l.map (stand cs') := fun l => by
    rw [List.map_map]
    exact List.map_congr_left fun n _ => stand_stand g' s n
  exact key f.2
theorem mkD_nd {ps : SD} (h : (ps.map (·.1)).Nodup) : mkD ps = ps := by
  have key : ∀ (ps d : SD), ((d ++ ps).map (·.1)).Nodup → ps.foldl (fun d q => dputM d q.1 q.2) d = d ++ ps := by
    intro ps
    induction ps with
    | nil => exact fun d _ => (List.append_nil d).symm
    | cons q ps ih =>
      intro d nd
      rw [List.foldl_cons]
      have no : q.1 ∉ d.map (·.1) := fun z => by
        rw [List.map_append, List.map_cons, List.nodup_append] at nd
        exact nd.2.2 q.1 z q.1 (List.mem_cons_self ..) rfl
      have e : dputM d q.1 q.2 = d ++ [q] := by
        unfold dputM
        cases z : dgetM d q.1 with
        | none => rfl
        | some a => exact absurd (List.mem_map.mpr ⟨_, dget_mem z, rfl⟩) no
      rw [e, ih _ (by rw [List.append_assoc]; exact nd), List.append_assoc]
      rfl
  exact key ps [] h
/-! a whole change -/
structure LS (bag once : List Fct) (cs : CL) (kn : List Tx) : Prop where
  l : LK0 cs kn
  b : ∀ f ∈ bag, GF f
  o : ∀ f ∈ once, GF f
  lb : bag.length ≤ 5000
  lo : once.length ≤ 5000
  lk : kn.length ≤ 5000
theorem lawPool_gp {bag once : List Fct} {cs : CL} {kn : List Tx} (s : LS bag once cs kn) : GP (lawPool bag once cs kn) := by
  unfold lawPool
  split
  · exact ⟨(fun _ h => by cases h), (fun _ h => by cases h), (fun _ h => by cases h), Nat.zero_le _, Nat.zero_le _, Nat.zero_le _⟩
  · refine ⟨fun f hf => ?_, fun f hf => ?_, fun q hq => ?_, ?_, ?_, ?_⟩
    · obtain ⟨x, hx, e⟩ := List.mem_map.mp (srtD_mem.mp (show f ∈ srtD (bag.map (now cs)) from hf))
      rw [← e]; exact now_gf s.l.g (s.b x hx)
    · obtain ⟨x, hx, e⟩ := List.mem_map.mp (nubL_mem.mp (srtD_mem.mp (show f ∈ srtD (nubL (once.map (now cs))) from hf)))
      rw [← e]; exact now_gf s.l.g (s.o x hx)
    · obtain ⟨n, hn, e⟩ := List.mem_map.mp (srtD_mem.mp (show q ∈ srtD (kn.map (samePr cs)) from hq))
      rw [← e]
      exact ⟨(s.l.kg n hn).1, stand_nm s.l.g (s.l.kg n hn).1⟩
    · show (srtD (bag.map (now cs))).length ≤ _
      rw [srtD_len, List.length_map]; exact s.lb
    · show (srtD (nubL (once.map (now cs)))).length ≤ _
      rw [srtD_len]
      have := nub_len (once.map (now cs)) []
      rw [List.length_map] at this
      simp only [List.length_nil] at this
      have := s.lo
      unfold nubL
      omega
    · show (srtD (kn.map (samePr cs))).length ≤ _
      rw [srtD_len, List.length_map]; exact s.lk
theorem moved_law {ks : List K3} {bag once bag1 : List Fct} {cs : CL} {kn : List Tx} {tk pt : List Fct} {td : List PairT} (s : LS bag once cs kn) (f1 : tk.findSome? (ffault ks) = none) (f2 : pt.findSome? (ffault ks) = none) (f3 : tk.any (lastsK ks) = false)
    (gt : ∀ f ∈ tk, GF f) (gp : ∀ f ∈ pt, GF f) (gd : ∀ q ∈ td, isNm q.1 = true ∧ isNm q.2 = true) (ht : NTa cs → ∃ r, takeAll (bag.map (now cs)) (tk.map (now cs)) = some r ∧ r.Perm (bag1.map (now cs))) :
    movedP ks (lawPool bag once cs kn) tk pt td = .ok (lawPool (bag1 ++ pt.filter fun f => !lastsK ks f) (once ++ pt.filter (lastsK ks)) (mergeAll cs td) (knownP (knownF kn pt) td)) := by
  unfold movedP
  rw [f1, f2, f3, if_neg Bool.false_ne_true]
  show (if (lawPool bag once cs kn).d = true then (pure BROK : M PoolT) else _) = _
  by_cases t : tornC cs = true
  · have e1 : lawPool bag once cs kn = BROK := by unfold lawPool; rw [if_pos t]
    have e2 : ∀ b o k, lawPool b o (mergeAll cs td) k = BROK := fun b o k => by
      unfold lawPool
      rw [if_pos (tornC_iff.mpr (torn_all td (tornC_iff.mp t)))]
    rw [e1, e2, if_pos (show BROK.d = true from rfl)]
    rfl
  have nt : NTa cs := tornC_false.mp (eq_false_of_ne_true t)
  have ep : lawPool bag once cs kn = settleG (now cs) bag once (kn.map (samePr cs)) := by unfold lawPool; rw [if_neg t]
  rw [ep, if_neg (show ¬ ((settleG (now cs) bag once (kn.map (samePr cs))).d = true) from Bool.false_ne_true)]
  have rd : RD (srtD (kn.map (samePr cs))) cs kn := srtD_self _
  have emk : mkD (α := Tx) (srtD (kn.map (samePr cs))) = srtD (kn.map (samePr cs)) := mkD_nd (rd.keys.nodup_iff.mpr s.l.nd)
  show (match takeAll (srtD (bag.map (now cs))) (tk.map (ren (mkD (α := Tx) (srtD (kn.map (samePr cs)))))) with
    | none => raise "NoFact"
    | some bag => match tellAll (learnF (mkD (α := Tx) (srtD (kn.map (samePr cs)))) pt) td with
      | none => pure BROK
      | some d => pure (settle (bag ++ pt.filter fun f => !lastsK ks f) (show List Fct from (List.append (α := Fct) (srtD (nubL (once.map (now cs)))) (pt.filter (lastsK ks)))) d)) = _
  rw [emk, RDren rd s.l nt]
  obtain ⟨r', h1, h2⟩ := ht nt
  obtain ⟨q1, q2⟩ := takeAll_perm (tk.map (now cs)) (srtD_self (bag.map (now cs)))
  cases et : takeAll (srtD (bag.map (now cs))) (tk.map (now cs)) with
  | none => rw [et, h1] at q1; cases q1
  | some r =>
    have pr := (q2 r r' et h1).trans h2
    obtain ⟨rd2, l2⟩ := learnF_rd (fs := pt) rd s.l gp
    have ta := tellAll_rd td rd2 l2 nt gd
    have l3 := mergeAll_lk td l2 gd
    show (match tellAll (learnF (srtD (kn.map (samePr cs))) pt) td with
      | none => (pure BROK : M PoolT)
      | some d => pure (settle (r ++ pt.filter fun f => !lastsK ks f) (show List Fct from (List.append (α := Fct) (srtD (nubL (once.map (now cs)))) (pt.filter (lastsK ks)))) d)) = _
    cases ea : tellAll (learnF (srtD (kn.map (samePr cs))) pt) td with
    | none =>
      rw [ea] at ta
      unfold lawPool
      rw [if_pos (tornC_iff.mpr ta)]
      rfl
    | some d =>
      rw [ea] at ta
      obtain ⟨nt2, rd3⟩ := ta
      have sb := sub_all td s.l.g gd
      have en := now_now l3.g sb
      have eL : lawPool (bag1 ++ pt.filter fun f => !lastsK ks f) (once ++ pt.filter (lastsK ks)) (mergeAll cs td) (knownP (knownF kn pt) td) = settleG (now (mergeAll cs td)) (bag1 ++ pt.filter fun f => !lastsK ks f) (once ++ pt.filter (lastsK ks)) ((knownP (knownF kn pt) td).map (samePr (mergeAll cs td))) := by
        unfold lawPool
        rw [if_neg (by rw [tornC_false.mpr nt2]; exact Bool.false_ne_true)]
      rw [eL]
      refine congrArg Except.ok ?_
      show settle (r ++ pt.filter fun f => !lastsK ks f) (List.append (α := Fct) (srtD (nubL (once.map (now cs)))) (pt.filter (lastsK ks))) d = _
      rw [settle_G, RDren rd3 l3 nt2]
      have a1 : srtD ((r ++ pt.filter fun f => !lastsK ks f).map (now (mergeAll cs td))) = srtD ((bag1 ++ pt.filter fun f => !lastsK ks f).map (now (mergeAll cs td))) := by
        refine srtD_perm ?_
        rw [List.map_append, List.map_append]
        refine List.Perm.append_right _ ?_
        have := pr.map (now (mergeAll cs td))
        rw [List.map_map] at this
        have e : (now (mergeAll cs td) ∘ now cs) = now (mergeAll cs td) := funext en
        rwa [e] at this
      have a2 : srtD (nubL ((List.append (α := Fct) (srtD (nubL (once.map (now cs)))) (pt.filter (lastsK ks))).map (now (mergeAll cs td)))) = srtD (nubL ((once ++ pt.filter (lastsK ks)).map (now (mergeAll cs td)))) := by
        refine srtD_perm (nubL_perm fun x => ?_)
        show x ∈ ((srtD (nubL (once.map (now cs)))) ++ (pt.filter (lastsK ks))).map (now (mergeAll cs td)) ↔ _
        rw [List.map_append, List.map_append, List.mem_append, List.mem_append]
        refine or_congr ?_ Iff.rfl
        constructor
        · intro h
          obtain ⟨y, hy, e⟩ := List.mem_map.mp h
          obtain ⟨z, hz, e2⟩ := List.mem_map.mp (nubL_mem.mp (srtD_mem.mp hy))
          exact List.mem_map.mpr ⟨z, hz, by rw [← e, ← e2, en]⟩
        · intro h
          obtain ⟨z, hz, e⟩ := List.mem_map.mp h
          exact List.mem_map.mpr ⟨now cs z, srtD_mem.mpr (nubL_mem.mpr (List.mem_map.mpr ⟨z, hz, rfl⟩)), by rw [en, e]⟩
      have a3 : srtD (α := Tx × Tx) d = srtD ((knownP (knownF kn pt) td).map (samePr (mergeAll cs td))) := srtD_perm rd3
      exact settleG_ext a1 a2 a3
/-! a pool written -/
def xFt (f : Fct) : Tx := if List.length (α := Tx) f.2 = 0 then f.1 else ((f.1 ++ tx "(") ++ joinL (tx ",") f.2) ++ tx ")"
theorem one_tx : (tx "(").length = 1 ∧ (tx ")").length = 1 ∧ (tx ",").length = 1 ∧ (tx "=").length = 1 ∧ (tx ", ").length = 2 ∧ (tx "; ").length = 2 := by decide +kernel
theorem args_len {f : Fct} (h : GF f) : (joinL (tx ",") f.2).length ≤ 120 ∧ (List.map (α := Tx) (fun x => x.length) f.2).sum + List.length (α := Tx) f.2 * (tx ",").length ≤ 16777216 := by
  obtain ⟨_, h2, h3⟩ := h
  have s := sum_le (k := 12) (xs := f.2) fun x hx => isNm_len (h2 x hx)
  have j := joinL_len (tx ",") f.2
  have o := one_tx.2.2.1
  rw [o] at j ⊢
  constructor
  · omega
  · omega
theorem kd_len {x : Tx} (h : isKd x = true) : x.length ≤ 12 := by
  unfold isKd at h
  rw [Bool.and_eq_true] at h
  exact isNm_len h.1
theorem fact_w {f : Fct} (h : GF f) : m_fact_text f = .ok (xFt f) ∧ m__law_fact_text f = .ok (xFt f) ∧ (xFt f).length ≤ 140 := by
  obtain ⟨o1, o2, o3, _⟩ := one_tx
  obtain ⟨a1, a2⟩ := args_len h
  have k := kd_len h.1
  have hS : SZ = 16777216 := SZ_val
  have core : (if decide (((List.length (α := Tx) f.2 : Nat) : Int) = 0) = true then (pure f.1 : M Tx) else (addT f.1 (tx "(") >>= fun x17 => joinM (tx ",") f.2 >>= fun y18 => addT x17 y18) >>= fun x19 => addT x19 (tx ")")) = .ok (xFt f) := by
    unfold xFt
    by_cases c : List.length (α := Tx) f.2 = 0
    · rw [if_pos c, if_pos (decide_eq_true (by omega))]; rfl
    · rw [if_neg c, if_neg (by rw [decide_eq_false (by omega)]; exact Bool.false_ne_true), addT_ok (by omega), pure_bind, joinM_ok a2, okb, addT_ok (by rw [List.length_append]; omega), pure_bind, addT_ok (by rw [List.length_append, List.length_append]; omega)]
      rfl
  refine ⟨?_, ?_, ?_⟩
  · unfold m_fact_text
    simp only [pure_bind]
    exact core
  · unfold m__law_fact_text
    simp only [pure_bind]
    exact core
  · unfold xFt
    split
    · omega
    · rw [List.length_append, List.length_append, List.length_append]; omega
def rowX (fs : List Fct) : Tx := joinL (tx ", ") (fs.map xFt)
def xPr (q : PairT) : Tx := (q.1 ++ tx "=") ++ q.2
def prsX (ps : List PairT) : Tx := joinL (tx ", ") ((ps.filter fun q => !decide (q.1 = q.2)).map xPr)
theorem row_j {fs : List Fct} (h : ∀ f ∈ fs, GF f) (hl : fs.length ≤ 10000) : joinM (tx ", ") (fs.map xFt) = .ok (rowX fs) ∧ (rowX fs).length ≤ 1500000 := by
  have s := sum_le (k := 140) (xs := fs.map xFt) fun x hx => by
    obtain ⟨f, hf, e⟩ := List.mem_map.mp hx
    rw [← e]; exact (fact_w (h f hf)).2.2
  have o := one_tx.2.2.2.2.1
  have j := joinL_len (tx ", ") (fs.map xFt)
  rw [List.length_map] at s j
  constructor
  · exact joinM_ok (by rw [List.length_map, o]; omega)
  · unfold rowX
    rw [o] at j
    omega
theorem row_m {fs : List Fct} (h : ∀ f ∈ fs, GF f) (hl : fs.length ≤ 10000) : (lc (fun x2 => m_fact_text x2) fs >>= fun y5 => joinM (tx ", ") y5) = .ok (rowX fs) ∧ (lc (fun x2 => m__law_fact_text x2) fs >>= fun y5 => joinM (tx ", ") y5) = .ok (rowX fs) := by
  have hS : SZ = 16777216 := SZ_val
  constructor
  · rw [lc_map (g := xFt) (by omega) fun f hf => (fact_w (h f hf)).1, okb, (row_j h hl).1]
  · rw [lc_map (g := xFt) (by omega) fun f hf => (fact_w (h f hf)).2.1, okb, (row_j h hl).1]
theorem prs_m {ps : List PairT} (h : GD ps) (hl : ps.length ≤ 10000) : (lf (fun e8 => (pure (!decide (e8.1 = e8.2)) : M Bool)) (fun e8 => addT e8.1 (tx "=") >>= fun x15 => addT x15 e8.2) ps >>= fun y => joinM (tx ", ") y) = .ok (prsX ps) ∧ (prsX ps).length ≤ 1500000 := by
  have hS : SZ = 16777216 := SZ_val
  have o1 := one_tx.2.2.2.1
  have o := one_tx.2.2.2.2.1
  have len : ∀ q ∈ ps, (xPr q).length ≤ 30 := fun q hq => by
    have h1 := isNm_len (h q hq).1
    have h2 := isNm_len (h q hq).2
    unfold xPr
    rw [List.length_append, List.length_append]
    omega
  have fl := List.length_filter_le (fun q : PairT => !decide (q.1 = q.2)) ps
  have s := sum_le (k := 30) (xs := (ps.filter fun q => !decide (q.1 = q.2)).map xPr) fun x hx => by
    obtain ⟨q, hq, e⟩ := List.mem_map.mp hx
    rw [← e]; exact len q (List.mem_filter.mp hq).1
  have j := joinL_len (tx ", ") ((ps.filter fun q => !decide (q.1 = q.2)).map xPr)
  rw [List.length_map] at s j
  constructor
  · have e : lf (fun e8 => (pure (!decide (e8.1 = e8.2)) : M Bool)) (fun e8 => addT e8.1 (tx "=") >>= fun x15 => addT x15 e8.2) ps = .ok ((ps.filter fun q => !decide (q.1 = q.2)).map xPr) :=
      lf_fil (xs := ps) (p := fun q : PairT => !decide (q.1 = q.2)) (g := xPr) (by omega) (fun x _ => rfl) fun q hq _ => by
        have h1 := isNm_len (h q hq).1
        have h2 := isNm_len (h q hq).2
        rw [addT_ok (by omega), pure_bind, addT_ok (by rw [List.length_append]; omega)]
        rfl
    rw [e, okb]
    exact joinM_ok (by rw [List.length_map, o]; omega)
  · unfold prsX
    rw [o] at j
    omega
def wrP (p : PoolT) : Tx := if p.d = true then tx "broken" else (((rowX p.a ++ tx "; ") ++ rowX p.b) ++ tx "; ") ++ prsX p.c
theorem pool_text_m {p : PoolT} (g : GP p) : m_pool_text p = .ok (wrP p) := by
  have hS : SZ = 16777216 := SZ_val
  have o := one_tx.2.2.2.2.2
  have la := g.la
  have lb := g.lb
  have lc' := g.lc
  obtain ⟨_, a2⟩ := row_j (fs := p.a) g.a (by omega)
  obtain ⟨_, b2⟩ := row_j (fs := p.b) g.b (by omega)
  obtain ⟨c1, c2⟩ := prs_m (ps := p.c) g.c (by omega)
  have ra : m_facts_text_v1 p.a = .ok (rowX p.a) := by
    unfold m_facts_text_v1
    simp only [pure_bind]
    exact (row_m (fs := p.a) g.a (by omega)).1
  have rb : m_facts_text_v1 p.b = .ok (rowX p.b) := by
    unfold m_facts_text_v1
    simp only [pure_bind]
    exact (row_m (fs := p.b) g.b (by omega)).1
  unfold m_pool_text wrP
  simp only [pure_bind]
  by_cases h : p.d = true
  · rw [if_pos h, if_pos h]; rfl
  rw [if_neg h, if_neg h]
  refine Eq.trans (congrArg (fun m => m >>= _) c1) ?_
  rw [okb, ra, rb, okb, addT_ok (by omega), pure_bind, okb, addT_ok (by rw [List.length_append]; omega), pure_bind, addT_ok (by rw [List.length_append, List.length_append]; omega), pure_bind, addT_ok (by rw [List.length_append, List.length_append, List.length_append]; omega)]
  rfl
theorem written_m {p : PoolT} (g : GP p) : m__law_written p = .ok (wrP p) := by
  have hS : SZ = 16777216 := SZ_val
  have o := one_tx.2.2.2.2.2
  have la := g.la
  have lb := g.lb
  have lc' := g.lc
  obtain ⟨_, a2⟩ := row_j (fs := p.a) g.a (by omega)
  obtain ⟨_, b2⟩ := row_j (fs := p.b) g.b (by omega)
  obtain ⟨c1, c2⟩ := prs_m (ps := p.c) g.c (by omega)
  unfold m__law_written wrP
  simp only [pure_bind]
  by_cases h : p.d = true
  · rw [if_pos h, if_pos h]; rfl
  rw [if_neg h, if_neg h]
  have pb : ∀ {β : Type} (x : List Fct) (f : List Fct → M β), (((pure x : M (Tup Fct)) : M (List Fct)) >>= f) = f x := fun _ _ => rfl
  have e1 : (((pure p.a : M (Tup Fct)) : M (List Fct)) >>= fun y9 => lc (fun x8 => m__law_fact_text x8) y9) >>= (fun y11 => joinM (tx ", ") y11) = .ok (rowX p.a) := (row_m (fs := p.a) g.a (by omega)).2
  have e2 : (((pure p.b : M (Tup Fct)) : M (List Fct)) >>= fun y9 => lc (fun x8 => m__law_fact_text x8) y9) >>= (fun y11 => joinM (tx ", ") y11) = .ok (rowX p.b) := (row_m (fs := p.b) g.b (by omega)).2
  have tot3 : ([rowX p.a, rowX p.b, prsX p.c].map List.length).sum + [rowX p.a, rowX p.b, prsX p.c].length * (tx "; ").length ≤ 16777216 := by
    simp only [List.map_cons, List.map_nil, List.sum_cons, List.sum_nil, List.length_cons, List.length_nil]
    omega
  refine Eq.trans (congrArg (fun m => (m >>= fun x12 => (pure [x12] : M (List Tx))) >>= _) e1) ?_
  rw [okb, pure_bind]
  refine Eq.trans (congrArg (fun m => (m >>= fun a22 => (chk ((([rowX p.a] : List Tx)).length < SZ) >>= fun _ => (pure a22 : M Tx))) >>= _) e2) ?_
  rw [okb, chk_b (by rw [List.length_singleton]; omega), pure_bind]
  refine Eq.trans (congrArg (fun m => (m >>= fun a46 => (chk ((([rowX p.a] : List Tx) ++ [rowX p.b]).length < SZ) >>= fun _ => (pure a46 : M Tx))) >>= _) c1) ?_
  rw [okb, chk_b (by rw [List.length_append, List.length_singleton, List.length_singleton]; omega), pure_bind]
  show joinM (tx "; ") [rowX p.a, rowX p.b, prsX p.c] = _
  rw [joinM_ok tot3]
  refine congrArg Except.ok ?_
  show rowX p.a ++ (tx "; " ++ (rowX p.b ++ (tx "; " ++ prsX p.c))) = _
  simp only [List.append_assoc]
/-! pools: what the laws share -/
theorem fk_none {ks : List K3} {ns : List Tx} {f : Fct} (nd : (ks.map (·.a)).Nodup) (h : FK ks ns f) : ffault ks f = none := by
  obtain ⟨k, hk, h1, h2, _⟩ := h
  have e : kof ks f.1 = some k := by
    unfold kof
    rw [h1]
    clear h1 h2
    induction ks with
    | nil => cases hk
    | cons j ks ih =>
      rw [List.map_cons, List.nodup_cons] at nd
      rw [List.find?_cons]
      rcases List.mem_cons.mp hk with z | z
      · rw [z, decide_eq_true rfl]
      · have ne : ¬ j.a = k.a := fun q => nd.1 (List.mem_map.mpr ⟨k, z, q.symm⟩)
        rw [decide_eq_false ne]
        exact ih nd.2 z
  unfold ffault
  rw [e]
  exact if_pos h2
theorem ffault_like {ks : List K3} {f g : Fct} (h1 : g.1 = f.1) (h2 : List.length (α := Tx) g.2 = List.length (α := Tx) f.2) : ffault ks g = ffault ks f ∧ lastsK ks g = lastsK ks f := by
  unfold ffault lastsK
  rw [h1, h2]
  exact ⟨rfl, rfl⟩
theorem known2 {s : List Tx} {ns : List Tx} (hn : ∀ n ∈ ns, isNm n = true) (hl : s.length + ns.length ≤ 16777215) : Okp (m__law_known s ns) fun r => r = ns.foldl addN s := ⟨_, known_eq hn hl, rfl⟩
theorem addN_len (s : List Tx) (n : Tx) : (addN s n).length ≤ s.length + 1 := by
  unfold addN
  split
  · rw [List.length_append]; exact Nat.le_refl _
  · exact Nat.le_succ _
theorem foldN_len : ∀ (ns s : List Tx), (ns.foldl addN s).length ≤ s.length + ns.length
  | [], s => Nat.le_refl _
  | n :: ns, s => by
    rw [List.foldl_cons, List.length_cons]
    have := foldN_len ns (addN s n)
    have := addN_len s n
    omega
theorem knownF_len : ∀ (fs : List Fct) (s : List Tx), (∀ f ∈ fs, GF f) → (knownF s fs).length ≤ s.length + 8 * fs.length
  | [], s, _ => Nat.le_refl _
  | f :: fs, s, h => by
    have h1 := knownF_len fs (List.foldl (β := Tx) addN s f.2) fun g hg => h g (List.mem_cons_of_mem _ hg)
    have h2 := foldN_len f.2 s
    have h3 := (h f (List.mem_cons_self ..)).2.2
    show (knownF (List.foldl (β := Tx) addN s f.2) fs).length ≤ _
    rw [List.length_cons]
    omega
def eraseAll (tk bag : List Fct) : List Fct := tk.foldl (fun b f => b.erase f) bag
theorem forT_ct {S α R : Type} {f : S → α → M (Tl S R)} (I : Nat → S → Prop) : ∀ (xs : List α) (k : Nat) (s : S), (∀ (j : Nat) (s : S) (x : α), x ∈ xs → j < k + xs.length → I j s → Okp (f s x) fun t => ∃ s', t = .ct s' ∧ I (j + 1) s') → I k s → Okp (forT f s xs) fun r => ∃ s', r = .inl s' ∧ I (k + xs.length) s'
  | [], k, s, _, h => ⟨.inl s, rfl, s, rfl, h⟩
  | x :: xs, k, s, hf, h => by
    obtain ⟨t, e, s', rfl, h'⟩ := hf k s x (List.mem_cons_self ..) (by rw [List.length_cons]; omega) h
    have := forT_ct I xs (k + 1) s' (fun j s y hy hj => hf j s y (List.mem_cons_of_mem _ hy) (by rw [List.length_cons]; omega)) h'
    rw [show k + 1 + xs.length = k + (x :: xs).length by rw [List.length_cons]; omega] at this
    obtain ⟨r, er, hr⟩ := this
    refine ⟨r, ?_, hr⟩
    show (f s x >>= fun t => match t with
      | .ct s' => forT f s' xs
      | .bk s' => pure (.inl s')
      | .rt r => pure (.inr r)) = _
    rw [e, okb]
    exact er
theorem foldN_lk {cs : CL} : ∀ {ns kn : List Tx}, LK0 cs kn → (∀ n ∈ ns, isNm n = true) → LK0 cs (ns.foldl addN kn)
  | [], _, l, _ => l
  | n :: ns, kn, l, h => foldN_lk (ns := ns) (addN_lk l (h n (List.mem_cons_self ..))) fun m hm => h m (List.mem_cons_of_mem _ hm)
theorem knownF_lk {cs : CL} : ∀ {fs : List Fct} {kn : List Tx}, LK0 cs kn → (∀ f ∈ fs, GF f) → LK0 cs (knownF kn fs)
  | [], _, l, _ => l
  | f :: fs, kn, l, h => knownF_lk (fs := fs) (foldN_lk (ns := f.2) l (h f (List.mem_cons_self ..)).2.1) fun g hg => h g (List.mem_cons_of_mem _ hg)
theorem knownP_len : ∀ (td : List PairT) (kn : List Tx), (knownP kn td).length ≤ kn.length + 2 * td.length
  | [], kn => Nat.le_refl _
  | p :: td, kn => by
    have h1 := knownP_len td ([p.1, p.2].foldl addN kn)
    have h2 := foldN_len [p.1, p.2] kn
    simp only [List.length_cons, List.length_nil] at h2
    show (knownP ([p.1, p.2].foldl addN kn) td).length ≤ _
    rw [List.length_cons]
    omega
theorem mergeAll_len : ∀ (td : List PairT) (cs : CL), tot (mergeAll cs td) ≤ tot cs + 2 * td.length ∧ (mergeAll cs td).length ≤ cs.length + td.length
  | [], cs => ⟨Nat.le_refl _, Nat.le_refl _⟩
  | p :: td, cs => by
    obtain ⟨h1, h2⟩ := mergeAll_len td (merged cs p)
    obtain ⟨h3, h4⟩ := merged_tot cs p
    constructor
    · show tot (mergeAll (merged cs p) td) ≤ _
      rw [List.length_cons]; omega
    · show (mergeAll (merged cs p) td).length ≤ _
      rw [List.length_cons]; omega
theorem lawPool_nil : lawPool [] [] [] [] = EMPT := by
  unfold lawPool settleG EMPT
  rw [if_neg (by decide)]
  have e1 : srtD ([] : List Fct) = [] := List.mergeSort_nil
  have e2 : srtD ([] : List (Tx × Tx)) = [] := List.mergeSort_nil
  exact T4.ext' e1 e1 e2 rfl
theorem lk_nil : LK0 [] [] := ⟨⟨(fun _ h => by cases h), (fun _ h => by cases h), List.Pairwise.nil⟩, List.nodup_nil, (fun _ h => by cases h), (fun _ h => by cases h)⟩
theorem stands_ok {bag once : List Fct} {cs : CL} {kn : List Tx} {n : Tx} (s : LS bag once cs kn) (hn : isNm n = true) : m_stands_for (lawPool bag once cs kn) n = if isOpn n = false then .ok n else if tornC cs = true ∨ n ∉ kn then raise "NoName" else .ok (stand cs n) := by
  unfold m_stands_for
  simp only [pure_bind]
  rw [is_word_eq (isNm_sz hn), okb, isWd_wdN hn]
  have g := s.l.g
  cases o : isOpn n with
  | false =>
    unfold wdN
    rw [o]
    rfl
  | true =>
    unfold wdN
    rw [o, if_neg (by decide), if_neg (by decide)]
    have key : forT (fun (s6 : Unit) (e7 : Tx × Tx) => if decide (e7.1 = n) = true then (pure (.rt e7.2) : M (Tl Unit Tx)) else pure (.ct ())) () (show List (Tx × Tx) from (lawPool bag once cs kn).c) = .ok (match (if tornC cs = true ∨ n ∉ kn then none else some (stand cs n)) with | some r => .inr r | none => .inl ()) := by
      rw [forT_findSome (p := fun q : Tx × Tx => if decide (q.1 = n) = true then some q.2 else none) fun q _ => by cases decide (q.1 = n) <;> rfl]
      have dg : ∀ d : SD, (d.findSome? fun q : Tx × Tx => if decide (q.1 = n) = true then some q.2 else none) = dgetM d n := by
        intro d
        induction d with
        | nil => rfl
        | cons q d ih =>
          rw [List.findSome?_cons, dget_cons]
          by_cases e : q.1 = n
          · rw [if_pos e, decide_eq_true e]; rfl
          · rw [if_neg e, decide_eq_false e]; exact ih
      rw [dg]
      by_cases t : tornC cs = true
      · have : lawPool bag once cs kn = BROK := by unfold lawPool; rw [if_pos t]
        rw [this, if_pos (.inl t)]
        rfl
      · have : lawPool bag once cs kn = settleG (now cs) bag once (kn.map (samePr cs)) := by unfold lawPool; rw [if_neg t]
        rw [this]
        have rd : RD (srtD (kn.map (samePr cs))) cs kn := srtD_self _
        have := rd.get s.l.nd n
        have e : dgetM (α := Tx) (settleG (now cs) bag once (kn.map (samePr cs))).c n = if n ∈ kn then some (stand cs n) else none := this
        rw [e]
        by_cases c : n ∈ kn
        · rw [if_pos c, if_neg (fun z => z.elim t (fun y => y c))]
        · rw [if_neg c, if_pos (.inr c)]
    refine Eq.trans (congrArg (fun m => m >>= thenT (fun _ => (raise "NoName" : M Tx)) id) key) ?_
    rw [okb]
    by_cases c : tornC cs = true ∨ n ∉ kn
    · rw [if_pos c, if_pos c]; rfl
    · rw [if_neg c, if_neg c]; rfl
def dueN (cs : CL) (kn : List Tx) (n : Tx) : List Tx := if isOpn n = false then [n] else if tornC cs = true ∨ n ∉ kn then [] else [stand cs n]
/-! k06 -/
theorem pairs_ok {ns : List Tx} {w : Int} {cells : List Int} (ln : ns.length = 8) (lc : cells.length ≤ 1000) : Okp (m__law_pairs ns w cells) fun ps => (∀ q ∈ ps, q.1 ∈ ns ∧ q.2 ∈ ns) ∧ ps.length ≤ cells.length := by
  have hS : SZ = 16777216 := SZ_val
  unfold m__law_pairs
  simp only [pure_bind, bind_pure]
  have c5 : (cut ns none (some 5)).length = 5 := by rw [cut_pre_len ns (by decide), ln]; decide
  have c6 : (cut ns none (some 6)).length = 6 := by rw [cut_pre_len ns (by decide), ln]; decide
  refine Okp.bind (P := fun s : List Tx => (∀ n ∈ s, n ∈ ns) ∧ 5 ≤ s.length ∧ s.length ≤ 8) ?_ fun s5 h5 => ?_
  · split
    · exact ⟨_, rfl, fun n hn => cut_mem hn, by omega, by omega⟩
    · exact ⟨_, rfl, fun n hn => hn, by omega, by omega⟩
  refine Okp.bind (P := fun s : List Tx => (∀ n ∈ s, n ∈ ns) ∧ 5 ≤ s.length ∧ s.length ≤ 1000) ?_ fun s14 ⟨h1, h2, h3⟩ => ?_
  · split
    · exact ⟨_, rfl, fun n hn => cut_mem hn, by omega, by omega⟩
    · obtain ⟨q1, q2, q3⟩ := h5
      exact ⟨_, rfl, q1, q2, by omega⟩
  refine Okp.imp (forP_ind (fun j (s : List PairT) => (∀ q ∈ s, q.1 ∈ ns ∧ q.2 ∈ ns) ∧ s.length ≤ j) cells 0 [] (fun j s x hx hj ⟨i1, i2⟩ => ?_) ⟨(fun _ h => by cases h), Nat.le_refl _⟩) fun s h => ⟨h.1, by have := h.2; omega⟩
  obtain ⟨a, ea, a0, a1⟩ := mix_ok x 5 (by decide) (by decide)
  rw [ea, okb, modI_ok (by decide), pure_bind]
  obtain ⟨l, el, ml⟩ := atL_mem (xs := ns) (i := a % 5) (by omega) (by omega)
  rw [el, okb, divI_ok (by decide) (by decide), pure_bind, modI_ok (by omega), pure_bind]
  obtain ⟨r, er, mr⟩ := atL_mem (xs := s14) (i := a / 5 % (s14.length : Int)) (Int.emod_nonneg _ (by omega)) (Int.emod_lt_of_pos _ (by omega))
  rw [er, okb]
  refine Okp.bind (P := fun y => y ∈ ns) ?_ fun y hy => ?_
  · have two : Okp ((divI a 120 >>= fun x59 => modI x59 8) >>= fun y32 => atL ns y32) fun y => y ∈ ns := by
      rw [divI_ok (by decide) (by decide), pure_bind, modI_ok (by decide), pure_bind]
      obtain ⟨z, ez, mz⟩ := atL_mem (xs := ns) (i := a / 120 % 8) (by omega) (by omega)
      exact ⟨z, ez, mz⟩
    refine Okp.bind (P := fun _ => True) ?_ fun c _ => ?_
    · split
      · rw [divI_ok (by decide) (by decide), pure_bind, modI_ok (by decide), pure_bind]
        exact ⟨_, rfl, trivial⟩
      · exact ⟨_, rfl, trivial⟩
    · split
      · exact two
      · exact ⟨l, rfl, ml⟩
  · rw [divI_ok (by decide) (by decide), pure_bind, modI_ok (by decide), pure_bind, pure_bind]
    split
    · refine Okp.bind (P := fun q => q = (y, r)) (Okp.chk (by omega) ⟨_, rfl, rfl⟩) fun q hq => ⟨_, rfl, fun z hz => (List.mem_append.mp hz).elim (i1 z) fun w => by rw [List.mem_singleton.mp w, hq]; exact ⟨hy, h1 r mr⟩, by rw [List.length_append, List.length_singleton]; omega⟩
    · refine Okp.bind (P := fun q => q = (r, y)) (Okp.chk (by omega) ⟨_, rfl, rfl⟩) fun q hq => ⟨_, rfl, fun z hz => (List.mem_append.mp hz).elim (i1 z) fun w => by rw [List.mem_singleton.mp w, hq]; exact ⟨h1 r mr, hy⟩, by rw [List.length_append, List.length_singleton]; omega⟩
theorem due_m {ks : List K3} {fs : List Fct} {td : List PairT} {cs : CL} (g : GC cs) (h1 : cs.length ≤ 4000) (h2 : tot cs < 4000) (hf : ∀ f ∈ fs, GF f) (lf0 : fs.length ≤ 1000) (hd : ∀ q ∈ td, isNm q.1 = true ∧ isNm q.2 = true) (ld : td.length ≤ 1000) (hk : ∀ n ∈ knownP (knownF [] fs) td, isNm n = true) :
    m__law_due ks fs td cs = .ok (lawPool (fs.filter fun f => !lastsK ks f) (fs.filter (lastsK ks)) cs (knownP (knownF [] fs) td), knownP (knownF [] fs) td) := by
  have hS : SZ = 16777216 := SZ_val
  have k1 := knownF_len fs [] hf
  simp only [List.length_nil] at k1
  have k2 := knownP_len td (knownF [] fs)
  have f1 := List.length_filter_le (fun f => !lastsK ks f) fs
  have f2 := List.length_filter_le (lastsK ks) fs
  unfold m__law_due
  simp only [pure_bind, bind_pure]
  have loop := forP_fold (g := fun (s2 : List Tx) (e3 : Fct) => m__law_known s2 e3.2) (f := fun s e => List.foldl (β := Tx) addN s e.2) (fun j s => s.length ≤ 8 * j) fs 0 [] (fun j s f hf' hj hI => by
      have gf := hf f hf'
      have l8 := gf.2.2
      have hI : s.length ≤ 8 * j := hI
      have fl := foldN_len f.2 s
      refine ⟨known_eq (ns := f.2) gf.2.1 (by omega), ?_⟩
      show (List.foldl (β := Tx) addN s f.2).length ≤ _
      omega) (Nat.le_refl _)
  refine Eq.trans (congrArg (fun m => m >>= _) loop.1) (Eq.trans okb ?_)
  have loop2 := forP_fold (g := fun (s13 : List Tx) (e14 : PairT) => ((pure [e14.1, e14.2] : M (Tup Tx)) >>= fun x22 => m__law_known s13 x22)) (f := fun s p => [p.1, p.2].foldl addN s) (fun j s => s.length ≤ 8 * fs.length + 2 * j) td 0 (knownF [] fs) (fun j s p hp hj hI => by
      have hI : s.length ≤ 8 * fs.length + 2 * j := hI
      obtain ⟨n1, n2⟩ := hd p hp
      have hn : ∀ n ∈ [p.1, p.2], isNm n = true := fun n hn => (List.mem_cons.mp hn).elim (fun e => e ▸ n1) fun z => by rw [List.mem_singleton.mp z]; exact n2
      have fl := foldN_len [p.1, p.2] s
      simp only [List.length_cons, List.length_nil] at fl
      refine ⟨known_eq (ns := [p.1, p.2]) hn (by simp only [List.length_cons, List.length_nil]; omega), ?_⟩
      show ([p.1, p.2].foldl addN s).length ≤ _
      omega) (by show (knownF [] fs).length ≤ _; omega)
  refine Eq.trans (congrArg (fun m => m >>= _) loop2.1) (Eq.trans okb ?_)
  have e1 : lf (fun e24 => m__law_lasts ks e24 >>= fun c28 => (pure (!c28) : M Bool)) (fun e24 => (pure e24 : M Fct)) fs = .ok (fs.filter fun f => !lastsK ks f) :=
    (lf_fil (xs := fs) (p := fun f => !lastsK ks f) (g := id) (by omega) (fun f _ => by rw [lasts_eq, okb]; rfl) fun f _ _ => rfl).trans (by rw [List.map_id])
  have e2 : lf (fun e30 => m__law_lasts ks e30) (fun e24 => (pure e24 : M Fct)) fs = .ok (fs.filter (lastsK ks)) :=
    (lf_fil (xs := fs) (p := lastsK ks) (g := id) (by omega) (fun f _ => lasts_eq ks f) fun f _ _ => rfl).trans (by rw [List.map_id])
  refine Eq.trans (congrArg (fun m => m >>= _) e1) (Eq.trans okb ?_)
  refine Eq.trans (congrArg (fun m => m >>= _) e2) (Eq.trans okb ?_)
  show (m__law_pool (fs.filter fun f => !lastsK ks f) (fs.filter (lastsK ks)) cs (knownP (knownF [] fs) td) >>= fun x38 => (pure (x38, knownP (knownF [] fs) td) : M (PoolT × List Tx))) = _
  have kl : (knownP (knownF [] fs) td).length ≤ 100000 := by omega
  rw [pool_m (bag := fs.filter fun f => !lastsK ks f) (once := fs.filter (lastsK ks)) (kn := knownP (knownF [] fs) td) g h1 h2 (fun f h => hf f (List.mem_filter.mp h).1) (fun f h => hf f (List.mem_filter.mp h).1) hk (by omega) (by omega) kl]
  rfl
theorem asked_ok {bag once : List Fct} {cs : CL} {kn : List Tx} {n : Tx} (s : LS bag once cs kn) (hn : isNm n = true) : m__law_asked (lawPool bag once cs kn) n = .ok (dueN cs kn n) := by
  unfold m__law_asked dueN
  simp only [pure_bind]
  rw [stands_ok s hn]
  by_cases o : isOpn n = false
  · rw [if_pos o, if_pos o]; rfl
  · rw [if_neg o, if_neg o]
    by_cases c : tornC cs = true ∨ n ∉ kn
    · rw [if_pos c, if_pos c]; rfl
    · rw [if_neg c, if_neg c]; rfl
theorem names_ok2 {bag once : List Fct} {cs : CL} {kn ns : List Tx} (s : LS bag once cs kn) (gs : GCS cs) (hn : ∀ n ∈ ns, isNm n = true) : m__law_names_told (lawPool bag once cs kn) ns cs kn = .ok true := by
  unfold m__law_names_told
  simp only [pure_bind, bind_pure]
  rw [forT_search (p := fun _ => false) (r := false) fun n hn' => ?_]
  · have : ns.any (fun _ => false) = false := List.any_eq_false.mpr fun _ _ => Bool.false_ne_true
    rw [this]
    rfl
  · rw [stand_m gs, okb, pure_bind, asked_ok s (hn n hn'), torn_m gs]
    have u : (atT n 0 >>= fun x14 => (pure (Txt.isupper (S x14)) : M Bool)) = .ok (isOpn n) := upper_nm (hn n hn')
    rw [u]
    unfold dueN
    cases o : isOpn n with
    | false => 
      show ((pure (!decide ([n] = [n])) : M Bool) >>= fun c36 => if c36 = true then (pure (.rt false) : M (Tl Unit Bool)) else pure (.ct ())) = _
      rw [decide_eq_true rfl]
      rfl
    | true =>
      by_cases t : tornC cs = true
      · rw [t]
        show ((pure (!decide ((if True ∨ ¬ n ∈ kn then ([] : List Tx) else [stand cs n]) = [])) : M Bool) >>= fun c36 => if c36 = true then (pure (.rt false) : M (Tl Unit Bool)) else pure (.ct ())) = _
        rw [if_pos (.inl trivial), decide_eq_true rfl]
        rfl
      · rw [eq_false_of_ne_true t]
        by_cases c : n ∈ kn
        · rw [decide_eq_true c]
          have e : (if false = true ∨ ¬ n ∈ kn then ([] : List Tx) else [stand cs n]) = [stand cs n] := if_neg fun z => z.elim (fun h => Bool.false_ne_true h) fun y => y c
          show ((pure (!decide ((if false = true ∨ ¬ n ∈ kn then ([] : List Tx) else [stand cs n]) = [stand cs n])) : M Bool) >>= fun c36 => if c36 = true then (pure (.rt false) : M (Tl Unit Bool)) else pure (.ct ())) = _
          rw [e, decide_eq_true rfl]
          rfl
        · rw [decide_eq_false c]
          have e : (if false = true ∨ ¬ n ∈ kn then ([] : List Tx) else [stand cs n]) = [] := if_pos (.inr c)
          show ((pure (!decide ((if false = true ∨ ¬ n ∈ kn then ([] : List Tx) else [stand cs n]) = [])) : M Bool) >>= fun c36 => if c36 = true then (pure (.rt false) : M (Tl Unit Bool)) else pure (.ct ())) = _
          rw [e, decide_eq_true rfl]
          rfl
theorem knownP_app : ∀ (a b : List PairT) (kn : List Tx), knownP kn (a ++ b) = knownP (knownP kn a) b := fun a b kn => List.foldl_append ..
theorem knownF_app : ∀ (a b : List Fct) (kn : List Tx), knownF kn (a ++ b) = knownF (knownF kn a) b := fun a b kn => List.foldl_append ..
/-- facts put in, pairs told: the law's pool -/
theorem put_law {ks : List K3} {bag once : List Fct} {cs : CL} {kn : List Tx} {pt : List Fct} {td : List PairT} (kl : ks.length ≤ 1000) (nd : (ks.map (·.a)).Nodup) (s : LS bag once cs kn) (fp : pt.findSome? (ffault ks) = none) (gp : ∀ f ∈ pt, GF f) (gd : ∀ q ∈ td, isNm q.1 = true ∧ isNm q.2 = true) (lp : pt.length ≤ 1000) (ld : td.length ≤ 1000) :
    m_moved ks (lawPool bag once cs kn) [] pt td = .ok (lawPool (bag ++ pt.filter fun f => !lastsK ks f) (once ++ pt.filter (lastsK ks)) (mergeAll cs td) (knownP (knownF kn pt) td)) := by
  rw [moved_eq kl nd (lawPool_gp s) (fun _ h => by cases h) gp gd (Nat.zero_le _) lp ld]
  exact moved_law (bag1 := bag) s rfl fp rfl (fun _ h => by cases h) gp gd fun _ => ⟨_, rfl, List.Perm.refl _⟩
theorem put_ls {ks : List K3} {bag once : List Fct} {cs : CL} {kn : List Tx} {pt : List Fct} {td : List PairT} (s : LS bag once cs kn) (gp : ∀ f ∈ pt, GF f) (gd : ∀ q ∈ td, isNm q.1 = true ∧ isNm q.2 = true) (lb : bag.length + pt.length ≤ 5000) (lo : once.length + pt.length ≤ 5000) (lk : kn.length + 8 * pt.length + 2 * td.length ≤ 5000) :
    LS (bag ++ pt.filter fun f => !lastsK ks f) (once ++ pt.filter (lastsK ks)) (mergeAll cs td) (knownP (knownF kn pt) td) := by
  have f1 := List.length_filter_le (fun f => !lastsK ks f) pt
  have f2 := List.length_filter_le (lastsK ks) pt
  have k1 := knownF_len pt kn gp
  have k2 := knownP_len td (knownF kn pt)
  exact ⟨mergeAll_lk td (knownF_lk s.l gp) gd, fun f hf => (List.mem_append.mp hf).elim (s.b f) fun z => gp f (List.mem_filter.mp z).1, fun f hf => (List.mem_append.mp hf).elim (s.o f) fun z => gp f (List.mem_filter.mp z).1, by rw [List.length_append]; omega, by rw [List.length_append]; omega, by omega⟩
theorem step_fold {ks : List K3} (kl : ks.length ≤ 1000) (nd : (ks.map (·.a)).Nodup) {bag once : List Fct} : ∀ (td : List PairT) (cs : CL) (kn : List Tx), LS bag once cs kn → (∀ q ∈ td, isNm q.1 = true ∧ isNm q.2 = true) → kn.length + 2 * td.length ≤ 5000 → cs.length + td.length ≤ 4000 → tot cs + 2 * td.length < 4000 →
    forP (fun (s112 : CL × PoolT) (e113 : PairT) => m__law_merged s112.1 e113 >>= fun a118 => m_moved ks s112.2 [] [] [e113] >>= fun a121 => (pure (a118, a121) : M (CL × PoolT))) (cs, lawPool bag once cs kn) td = .ok (mergeAll cs td, lawPool bag once (mergeAll cs td) (knownP kn td))
  | [], cs, kn, _, _, _, _, _ => rfl
  | p :: td, cs, kn, s, hd, l1, l2, l3 => by
    rw [List.length_cons] at l1 l2 l3
    have hp := hd p (List.mem_cons_self ..)
    have one : ∀ q ∈ [p], isNm q.1 = true ∧ isNm q.2 = true := fun q hq => by rw [List.mem_singleton.mp hq]; exact hp
    have mv := put_law (pt := []) (td := [p]) kl nd s rfl (fun _ h => by cases h) one (by decide) (by rw [List.length_singleton]; decide)
    rw [List.filter_nil, List.filter_nil, List.append_nil, List.append_nil] at mv
    have ls' := put_ls (ks := ks) (pt := []) (td := [p]) s (fun _ h => by cases h) one (by have := s.lb; simpa using this) (by have := s.lo; simpa using this) (by simp only [List.length_nil, List.length_singleton]; omega)
    rw [List.filter_nil, List.filter_nil, List.append_nil, List.append_nil] at ls'
    obtain ⟨m1, m2⟩ := merged_tot cs p
    have k2 := knownP_len [p] kn
    simp only [List.length_singleton] at k2
    unfold forP
    dsimp only
    rw [merged_m (by omega) (by omega), okb, mv, okb]
    exact step_fold kl nd td (merged cs p) (knownP kn [p]) ls' (fun q hq => hd q (List.mem_cons_of_mem _ hq)) (by omega) (by omega) (by omega)
theorem law_ok (ns : List Int) (hn : ns.length ≤ 63) : m_law ns = pure true := by
  suffices h : Okp (m_law ns) (fun b => b = true) by
    obtain ⟨b, e, rfl⟩ := h
    exact e
  have hS : SZ = 16777216 := SZ_val
  obtain ⟨c0, e0, _⟩ := cell_ok ns 0 (by decide)
  obtain ⟨c1, e1, _⟩ := cell_ok ns 1 (by decide)
  obtain ⟨c2, e2, _⟩ := cell_ok ns 2 (by decide)
  obtain ⟨c3, e3, _⟩ := cell_ok ns 3 (by decide)
  obtain ⟨ks, ek, kl, kg, knd, kf⟩ := kinds_ok c0 [0, 1, 2, 2, 1, 3] (by decide) (by decide) (by decide)
  obtain ⟨os, eo, ol, on, ond⟩ := opens_ok c1 5 (by decide) (by decide)
  obtain ⟨ws, ew, wl, wn, wnd⟩ := words_ok c2 3 (by decide) (by decide)
  have ol : os.length = 5 := ol
  have wl : ws.length = 3 := wl
  have hk : ∀ k ∈ ks, GK k := fun k h => (kg k h).1
  have hns : ∀ n ∈ os ++ ws, isNm n = true := fun n h => (List.mem_append.mp h).elim (fun z => (nm_great (on n z)).1) fun z => (nm_word (wn n z)).1
  have lns : (os ++ ws).length = 8 := by rw [List.length_append]; omega
  unfold m_law
  simp only [pure_bind, e0, e1, e2, e3, ek, eo, ew, okb]
  rw [show catM os ws = .ok (os ++ ws) from cat1 (by omega), okb]
  have m3 : modI c3 3 = pure (c3 % 3) := modI_ok (by decide)
  have d3 : divI c3 3 = pure (c3 / 3) := divI_ok (by decide) (by decide)
  have m60 : modI (c3 / 3) 60 = pure (c3 / 3 % 60) := modI_ok (by decide)
  rw [m3, pure_bind, d3, pure_bind, m60, pure_bind, pure_bind]
  generalize os ++ ws = nms at hns lns
  have cl1 := cut_len ns (some 4) (some (4 + c3 / 3 % 60))
  have cl2 := cut_len ns (some (4 + c3 / 3 % 60)) (some 154)
  generalize cut ns (some 4) (some (4 + c3 / 3 % 60)) = cs1 at cl1
  generalize cut ns (some (4 + c3 / 3 % 60)) (some 154) = cs2 at cl2
  refine Okp.bind (lc_ok (Q := FK ks nms) (by omega) fun x _ => fact_ok x (by omega) (by omega) hk (by omega) (by omega)) fun fs ⟨fl, fg⟩ => ?_
  refine Okp.bind (pairs_ok lns (by omega)) fun td ⟨tg, tl⟩ => ?_
  have gf : ∀ f ∈ fs, GF f := fun f hf => fk_gf hk hns (fg f hf)
  have gd : ∀ q ∈ td, isNm q.1 = true ∧ isNm q.2 = true := fun q hq => ⟨hns _ (tg q hq).1, hns _ (tg q hq).2⟩
  rw [divI_ok (by decide) (by decide), pure_bind]
  have hsp : cut fs none (some ((fs.length : Int) / 2)) ++ cut fs (some ((fs.length : Int) / 2)) none = fs := by
    unfold cut
    have z : ∀ (d : Nat), HT.sIx fs.length d (some ((fs.length : Int) / 2)) = min ((fs.length : Int) / 2).toNat fs.length := fun d => sIx_le (by omega)
    rw [z, z]
    show List.take (min ((fs.length : Int) / 2).toNat fs.length - 0) (List.drop 0 fs) ++ List.take (fs.length - min ((fs.length : Int) / 2).toNat fs.length) (List.drop (min ((fs.length : Int) / 2).toNat fs.length) fs) = fs
    rw [List.drop_zero, Nat.sub_zero, List.take_of_length_le (i := fs.length - min ((fs.length : Int) / 2).toNat fs.length) (by rw [List.length_drop]; omega), List.take_append_drop]
  generalize cut fs none (some ((fs.length : Int) / 2)) = f1 at hsp
  generalize cut fs (some ((fs.length : Int) / 2)) none = f2 at hsp
  have lf12 : f1.length + f2.length = fs.length := by rw [← hsp, List.length_append]
  have g1 : ∀ f ∈ f1, GF f := fun f hf => gf f (by rw [← hsp]; exact List.mem_append.mpr (.inl hf))
  have g2 : ∀ f ∈ f2, GF f := fun f hf => gf f (by rw [← hsp]; exact List.mem_append.mpr (.inr hf))
  have n1 : f1.findSome? (ffault ks) = none := List.findSome?_eq_none_iff.mpr fun f hf => fk_none knd (fg f (by rw [← hsp]; exact List.mem_append.mpr (.inl hf)))
  have n2 : f2.findSome? (ffault ks) = none := List.findSome?_eq_none_iff.mpr fun f hf => fk_none knd (fg f (by rw [← hsp]; exact List.mem_append.mpr (.inr hf)))
  have ls0 : LS [] [] [] [] := ⟨lk_nil, (fun _ h => by cases h), (fun _ h => by cases h), Nat.zero_le _, Nat.zero_le _, Nat.zero_le _⟩
  have nod : ∀ q ∈ ([] : List PairT), isNm q.1 = true ∧ isNm q.2 = true := fun _ h => by cases h
  have ls1 := put_ls (ks := ks) (pt := f1) (td := []) ls0 g1 nod (by simp only [List.length_nil]; omega) (by simp only [List.length_nil]; omega) (by simp only [List.length_nil]; omega)
  have mv1 := put_law (pt := f1) (td := []) (by omega) knd ls0 n1 g1 nod (by omega) (by decide)
  rw [lawPool_nil] at mv1
  rw [show m_start_pool ks f1 = m_moved ks EMPT [] f1 [] from by unfold m_start_pool; simp only [pure_bind]; rfl, mv1, okb]
  have k1 := knownF_len f1 [] g1
  simp only [List.length_nil] at k1
  have b1 := List.length_filter_le (fun f => !lastsK ks f) f1
  have b2 := List.length_filter_le (lastsK ks) f1
  have mv2 := put_law (pt := f2) (td := td) (by omega) knd ls1 n2 g2 gd (by omega) (by omega)
  have mv3 := put_law (pt := f2) (td := []) (by omega) knd ls1 n2 g2 nod (by omega) (by decide)
  have ls3 := put_ls (ks := ks) (pt := f2) (td := []) ls1 g2 nod (by rw [List.nil_append]; omega) (by rw [List.nil_append]; omega) (by show (knownF [] f1).length + _ + 2 * 0 ≤ _; omega)
  rw [mv2, okb]
  have tr : ∀ (a b : M Bool), (if (!decide True) = true then a else b) = b := fun a b => if_neg (by decide)
  have e1 : ([] ++ f1.filter fun f => !lastsK ks f) ++ (f2.filter fun f => !lastsK ks f) = fs.filter fun f => !lastsK ks f := by rw [List.nil_append, ← List.filter_append, hsp]
  have e2 : ([] ++ f1.filter (lastsK ks)) ++ (f2.filter (lastsK ks)) = fs.filter (lastsK ks) := by rw [List.nil_append, ← List.filter_append, hsp]
  have e3 : knownF (knownP (knownF [] f1) []) f2 = knownF [] fs := by
    show knownF (knownF [] f1) f2 = _
    rw [← knownF_app, hsp]
  have e4 : mergeAll (mergeAll [] []) td = mergeAll [] td := rfl
  have e5 : mergeAll (mergeAll [] []) [] = ([] : CL) := rfl
  rw [e1, e2, e3] at mv3 ls3 ⊢
  rw [e4]
  rw [e5] at mv3 ls3
  have e6 : knownP (knownF [] fs) [] = knownF [] fs := rfl
  rw [e6] at mv3 ls3
  refine Eq.mpr (congrArg (fun m => Okp m _) (tr _ _)) ?_
  rw [mv3, okb]
  have kf2 := knownF_len fs [] gf
  simp only [List.length_nil] at kf2
  rw [step_fold (by omega) knd td [] (knownF [] fs) ls3 gd (by omega) (by simp only [List.length_nil]; omega) (by show 0 + _ < _; omega), okb]
  obtain ⟨t1, t2⟩ := mergeAll_len td []
  have t1 : tot (mergeAll [] td) ≤ 0 + 2 * td.length := t1
  have t2 : (mergeAll [] td).length ≤ 0 + td.length := t2
  have lkF : LK0 (mergeAll [] td) (knownP (knownF [] fs) td) := mergeAll_lk td ls3.l gd
  have kp := knownP_len td (knownF [] fs)
  have lsF : LS (fs.filter fun f => !lastsK ks f) (fs.filter (lastsK ks)) (mergeAll [] td) (knownP (knownF [] fs) td) := ⟨lkF, ls3.b, ls3.o, ls3.lb, ls3.lo, by omega⟩
  dsimp only
  rw [due_m lkF.g (by omega) (by omega) gf (by omega) gd (by omega) fun n hn' => (lkF.kg n hn').1, okb]
  have isp : ∀ p : PoolT, (m__law_is_pool p p >>= fun c138 => (pure (!c138) : M Bool)) = .ok false := fun p => by
    rw [is_pool_m, okb, decide_eq_true rfl]
    rfl
  rw [isp]
  dsimp only
  generalize hp : lawPool (fs.filter fun f => !lastsK ks f) (fs.filter (lastsK ks)) (mergeAll [] td) (knownP (knownF [] fs) td) = P
  have gp : GP P := by rw [← hp]; exact lawPool_gp lsF
  have nt : m__law_names_told P nms (mergeAll [] td) (knownP (knownF [] fs) td) = .ok true := by
    rw [← hp]
    exact names_ok2 lsF (gcs_of lkF.g (by omega) (by omega)) hns
  rw [okb, if_neg Bool.false_ne_true, okb, if_neg Bool.false_ne_true, pool_text_m gp, okb, written_m gp, okb]
  rw [show (pure (!decide (wrP P = wrP P)) : M Bool) = .ok false from by rw [decide_eq_true rfl]; rfl]
  refine ⟨true, ?_, rfl⟩
  rw [← nt]
  rfl
end Q

set_option Elab.async false
set_option linter.all false
set_option maxRecDepth 100000
set_option maxHeartbeats 0
namespace Q
open PySem L2 G
/-! the head -/
theorem facts {K : Fg} {h : Heap} {mg : Str → Option Value} (X : K.In h) (G : h.Ns mainGlobals mg) (c : He.SaysD fa fn K) (cx : (fx.all fun f => f K) = true) : Fx K mg where
  f_is_name := c.def_ 0 (d := ⟨("is_name", none), "is_name", "is_name", defArgs (top 11), defBody (top 11), defScope (top 11), [], []⟩) rfl
  g_is_name := He.glo_ok X G (c.fact 0 (f := .glo "is_name") rfl)
  f_is_word := c.def_ 1 (d := ⟨("is_word", none), "is_word", "is_word", defArgs (top 12), defBody (top 12), defScope (top 12), [], []⟩) rfl
  g_is_word := He.glo_ok X G (c.fact 1 (f := .glo "is_word") rfl)
  f_is_open := c.def_ 2 (d := ⟨("is_open", none), "is_open", "is_open", defArgs (top 13), defBody (top 13), defScope (top 13), [], []⟩) rfl
  g_is_open := He.glo_ok X G (c.fact 2 (f := .glo "is_open") rfl)
  f_fact_text := c.def_ 3 (d := ⟨("fact_text", none), "fact_text", "fact_text", defArgs (top 14), defBody (top 14), defScope (top 14), [], []⟩) rfl
  g_fact_text := He.glo_ok X G (c.fact 3 (f := .glo "fact_text") rfl)
  f_facts_text := c.def_ 4 (d := ⟨("facts_text", none), "facts_text", "facts_text", defArgs (top 15), defBody (top 15), defScope (top 15), [], []⟩) rfl
  g_facts_text := He.glo_ok X G (c.fact 4 (f := .glo "facts_text") rfl)
  f_kind_lasts := c.def_ 5 (d := ⟨("kind_lasts", none), "kind_lasts", "kind_lasts", defArgs (top 19), defBody (top 19), defScope (top 19), [], []⟩) rfl
  g_kind_lasts := He.glo_ok X G (c.fact 5 (f := .glo "kind_lasts") rfl)
  f_look_at_facts := c.def_ 6 (d := ⟨("look_at_facts", none), "look_at_facts", "look_at_facts", defArgs (top 20), defBody (top 20), defScope (top 20), [], []⟩) rfl
  g_look_at_facts := He.glo_ok X G (c.fact 6 (f := .glo "look_at_facts") rfl)
  f_look_at_taken := c.def_ 7 (d := ⟨("look_at_taken", none), "look_at_taken", "look_at_taken", defArgs (top 21), defBody (top 21), defScope (top 21), [], []⟩) rfl
  g_look_at_taken := He.glo_ok X G (c.fact 7 (f := .glo "look_at_taken") rfl)
  f_renamed_fact := c.def_ 8 (d := ⟨("renamed_fact", none), "renamed_fact", "renamed_fact", defArgs (top 22), defBody (top 22), defScope (top 22), [], []⟩) rfl
  g_renamed_fact := He.glo_ok X G (c.fact 8 (f := .glo "renamed_fact") rfl)
  f_learn_names := c.def_ 9 (d := ⟨("learn_names", none), "learn_names", "learn_names", defArgs (top 23), defBody (top 23), defScope (top 23), [], []⟩) rfl
  g_learn_names := He.glo_ok X G (c.fact 9 (f := .glo "learn_names") rfl)
  f_first_of := c.def_ 10 (d := ⟨("first_of", none), "first_of", "first_of", defArgs (top 24), defBody (top 24), defScope (top 24), [], []⟩) rfl
  g_first_of := He.glo_ok X G (c.fact 10 (f := .glo "first_of") rfl)
  f_tell_same := c.def_ 11 (d := ⟨("tell_same", none), "tell_same", "tell_same", defArgs (top 25), defBody (top 25), defScope (top 25), [], []⟩) rfl
  g_tell_same := He.glo_ok X G (c.fact 11 (f := .glo "tell_same") rfl)
  f_without_facts := c.def_ 12 (d := ⟨("without_facts", none), "without_facts", "without_facts", defArgs (top 26), defBody (top 26), defScope (top 26), [], []⟩) rfl
  g_without_facts := He.glo_ok X G (c.fact 12 (f := .glo "without_facts") rfl)
  f_settled_pool := c.def_ 13 (d := ⟨("settled_pool", none), "settled_pool", "settled_pool", defArgs (top 27), defBody (top 27), defScope (top 27), [], []⟩) rfl
  g_settled_pool := He.glo_ok X G (c.fact 13 (f := .glo "settled_pool") rfl)
  f_moved := c.def_ 14 (d := ⟨("moved", none), "moved", "moved", defArgs (top 28), defBody (top 28), defScope (top 28), [], []⟩) rfl
  g_moved := He.glo_ok X G (c.fact 14 (f := .glo "moved") rfl)
  f_start_pool := c.def_ 15 (d := ⟨("start_pool", none), "start_pool", "start_pool", defArgs (top 29), defBody (top 29), defScope (top 29), [], []⟩) rfl
  g_start_pool := He.glo_ok X G (c.fact 15 (f := .glo "start_pool") rfl)
  f_stands_for := c.def_ 16 (d := ⟨("stands_for", none), "stands_for", "stands_for", defArgs (top 30), defBody (top 30), defScope (top 30), [], []⟩) rfl
  g_stands_for := He.glo_ok X G (c.fact 16 (f := .glo "stands_for") rfl)
  f_pool_text := c.def_ 17 (d := ⟨("pool_text", none), "pool_text", "pool_text", defArgs (top 31), defBody (top 31), defScope (top 31), [], []⟩) rfl
  g_pool_text := He.glo_ok X G (c.fact 17 (f := .glo "pool_text") rfl)
  f__law_cell_at := c.def_ 18 (d := ⟨("_law_cell_at", none), "_law_cell_at", "_law_cell_at", defArgs (top 33), defBody (top 33), defScope (top 33), [], []⟩) rfl
  g__law_cell_at := He.glo_ok X G (c.fact 18 (f := .glo "_law_cell_at") rfl)
  f__law_mix := c.def_ 19 (d := ⟨("_law_mix", none), "_law_mix", "_law_mix", defArgs (top 34), defBody (top 34), defScope (top 34), [], []⟩) rfl
  g__law_mix := He.glo_ok X G (c.fact 19 (f := .glo "_law_mix") rfl)
  f__law_names := c.def_ 20 (d := ⟨("_law_names", none), "_law_names", "_law_names", defArgs (top 35), defBody (top 35), defScope (top 35), [], []⟩) rfl
  g__law_names := He.glo_ok X G (c.fact 20 (f := .glo "_law_names") rfl)
  f__law_titles := c.def_ 21 (d := ⟨("_law_titles", none), "_law_titles", "_law_titles", defArgs (top 36), defBody (top 36), defScope (top 36), [], []⟩) rfl
  g__law_titles := He.glo_ok X G (c.fact 21 (f := .glo "_law_titles") rfl)
  f__law_opens := c.def_ 22 (d := ⟨("_law_opens", none), "_law_opens", "_law_opens", defArgs (top 37), defBody (top 37), defScope (top 37), [], []⟩) rfl
  g__law_opens := He.glo_ok X G (c.fact 22 (f := .glo "_law_opens") rfl)
  f__law_words := c.def_ 23 (d := ⟨("_law_words", none), "_law_words", "_law_words", defArgs (top 38), defBody (top 38), defScope (top 38), [], []⟩) rfl
  g__law_words := He.glo_ok X G (c.fact 23 (f := .glo "_law_words") rfl)
  f__law_kinds := c.def_ 24 (d := ⟨("_law_kinds", none), "_law_kinds", "_law_kinds", defArgs (top 39), defBody (top 39), defScope (top 39), [], []⟩) rfl
  g__law_kinds := He.glo_ok X G (c.fact 24 (f := .glo "_law_kinds") rfl)
  f__law_fact := c.def_ 25 (d := ⟨("_law_fact", none), "_law_fact", "_law_fact", defArgs (top 40), defBody (top 40), defScope (top 40), [], []⟩) rfl
  g__law_fact := He.glo_ok X G (c.fact 25 (f := .glo "_law_fact") rfl)
  f__law_known := c.def_ 26 (d := ⟨("_law_known", none), "_law_known", "_law_known", defArgs (top 41), defBody (top 41), defScope (top 41), [], []⟩) rfl
  g__law_known := He.glo_ok X G (c.fact 26 (f := .glo "_law_known") rfl)
  f__law_lasts := c.def_ 27 (d := ⟨("_law_lasts", none), "_law_lasts", "_law_lasts", defArgs (top 42), defBody (top 42), defScope (top 42), [], []⟩) rfl
  g__law_lasts := He.glo_ok X G (c.fact 27 (f := .glo "_law_lasts") rfl)
  f__law_stand := c.def_ 28 (d := ⟨("_law_stand", none), "_law_stand", "_law_stand", defArgs (top 43), defBody (top 43), defScope (top 43), [], []⟩) rfl
  g__law_stand := He.glo_ok X G (c.fact 28 (f := .glo "_law_stand") rfl)
  f__law_merged := c.def_ 29 (d := ⟨("_law_merged", none), "_law_merged", "_law_merged", defArgs (top 44), defBody (top 44), defScope (top 44), [], []⟩) rfl
  g__law_merged := He.glo_ok X G (c.fact 29 (f := .glo "_law_merged") rfl)
  f__law_torn := c.def_ 30 (d := ⟨("_law_torn", none), "_law_torn", "_law_torn", defArgs (top 45), defBody (top 45), defScope (top 45), [], []⟩) rfl
  g__law_torn := He.glo_ok X G (c.fact 30 (f := .glo "_law_torn") rfl)
  f__law_now := c.def_ 31 (d := ⟨("_law_now", none), "_law_now", "_law_now", defArgs (top 46), defBody (top 46), defScope (top 46), [], []⟩) rfl
  g__law_now := He.glo_ok X G (c.fact 31 (f := .glo "_law_now") rfl)
  f__law_pool := c.def_ 32 (d := ⟨("_law_pool", none), "_law_pool", "_law_pool", defArgs (top 47), defBody (top 47), defScope (top 47), [], []⟩) rfl
  g__law_pool := He.glo_ok X G (c.fact 32 (f := .glo "_law_pool") rfl)
  f__law_is_pool := c.def_ 33 (d := ⟨("_law_is_pool", none), "_law_is_pool", "_law_is_pool", defArgs (top 48), defBody (top 48), defScope (top 48), [], []⟩) rfl
  g__law_is_pool := He.glo_ok X G (c.fact 33 (f := .glo "_law_is_pool") rfl)
  f__law_fact_text := c.def_ 34 (d := ⟨("_law_fact_text", none), "_law_fact_text", "_law_fact_text", defArgs (top 49), defBody (top 49), defScope (top 49), [], []⟩) rfl
  g__law_fact_text := He.glo_ok X G (c.fact 34 (f := .glo "_law_fact_text") rfl)
  f__law_pairs := c.def_ 35 (d := ⟨("_law_pairs", none), "_law_pairs", "_law_pairs", defArgs (top 50), defBody (top 50), defScope (top 50), [], []⟩) rfl
  g__law_pairs := He.glo_ok X G (c.fact 35 (f := .glo "_law_pairs") rfl)
  f__law_asked := c.def_ 36 (d := ⟨("_law_asked", none), "_law_asked", "_law_asked", defArgs (top 51), defBody (top 51), defScope (top 51), [], []⟩) rfl
  g__law_asked := He.glo_ok X G (c.fact 36 (f := .glo "_law_asked") rfl)
  f__law_names_told := c.def_ 37 (d := ⟨("_law_names_told", none), "_law_names_told", "_law_names_told", defArgs (top 52), defBody (top 52), defScope (top 52), [], []⟩) rfl
  g__law_names_told := He.glo_ok X G (c.fact 37 (f := .glo "_law_names_told") rfl)
  f__law_written := c.def_ 38 (d := ⟨("_law_written", none), "_law_written", "_law_written", defArgs (top 53), defBody (top 53), defScope (top 53), [], []⟩) rfl
  g__law_written := He.glo_ok X G (c.fact 38 (f := .glo "_law_written") rfl)
  f__law_due := c.def_ 39 (d := ⟨("_law_due", none), "_law_due", "_law_due", defArgs (top 54), defBody (top 54), defScope (top 54), [], []⟩) rfl
  g__law_due := He.glo_ok X G (c.fact 39 (f := .glo "_law_due") rfl)
  f_law := c.def_ 40 (d := ⟨("law", none), "law", "law", defArgs (top 55), defBody (top 55), defScope (top 55), [], []⟩) rfl
  g_law := He.glo_ok X G (c.fact 40 (f := .glo "law") rfl)
  em_NoName := (List.forall_mem_cons.mpr ⟨c.fact 41 (f := .exm "NoName" "NoName" true) rfl, (fun _ h => nomatch h)⟩)
  ex_NoName := (List.forall_mem_cons.mpr ⟨fx_at cx 0 (f := fun K => excB K "NoName") rfl, (fun _ h => nomatch h)⟩)
  g_BROKEN := He.glo_ok X G (c.fact 42 (f := .glo "BROKEN") rfl)
  u_BROKEN := fx_at cx 1 (f := fun K => emp4N K "BROKEN" true) rfl
  g_EMPTY := He.glo_ok X G (c.fact 43 (f := .glo "EMPTY") rfl)
  u_EMPTY := fx_at cx 2 (f := fun K => emp4N K "EMPTY" false) rfl
  n_bool := He.free_ok X G (c.fact 44 (f := .free "bool") rfl)
  n_dict := He.free_ok X G (c.fact 45 (f := .free "dict") rfl)
  n_isinstance := He.free_ok X G (c.fact 46 (f := .free "isinstance") rfl)
  n_len := He.free_ok X G (c.fact 47 (f := .free "len") rfl)
  n_list := He.free_ok X G (c.fact 48 (f := .free "list") rfl)
  n_min := He.free_ok X G (c.fact 49 (f := .free "min") rfl)
  n_range := He.free_ok X G (c.fact 50 (f := .free "range") rfl)
  n_set := He.free_ok X G (c.fact 51 (f := .free "set") rfl)
  n_sorted := He.free_ok X G (c.fact 52 (f := .free "sorted") rfl)
  n_str := He.free_ok X G (c.fact 53 (f := .free "str") rfl)
  n_tuple := He.free_ok X G (c.fact 54 (f := .free "tuple") rfl)
  s_FIGURES := He.str_ok X G (c.fact 55 (f := .str "FIGURES" "0123456789") rfl)
  s_GREAT := He.str_ok X G (c.fact 56 (f := .str "GREAT" "ABCDEFGHIJKLMNOPQRSTUVWXYZ") rfl)
  s_SMALL := He.str_ok X G (c.fact 57 (f := .str "SMALL" "abcdefghijklmnopqrstuvwxyz") rfl)
  g_BadArgs := He.glo_ok X G (c.fact 58 (f := .glo "BadArgs") rfl)
  x_BadArgs := c.fact 59 (f := .exc "BadArgs") rfl
  g_BadTake := He.glo_ok X G (c.fact 60 (f := .glo "BadTake") rfl)
  x_BadTake := c.fact 61 (f := .exc "BadTake") rfl
  g_NoFact := He.glo_ok X G (c.fact 62 (f := .glo "NoFact") rfl)
  x_NoFact := c.fact 63 (f := .exc "NoFact") rfl
  g_NoKind := He.glo_ok X G (c.fact 64 (f := .glo "NoKind") rfl)
  x_NoKind := c.fact 65 (f := .exc "NoKind") rfl
  g_NoName := He.glo_ok X G (c.fact 66 (f := .glo "NoName") rfl)
  x_NoName := c.fact 67 (f := .exc "NoName") rfl
theorem atlaw {l : PySem.W.OpenLaw} {w : World} {K : Fg} {h : Heap} {mg : Str → Option Value} {f : Addr} (X : K.In h) (G : h.Ns mainGlobals mg) (hfa : mg ("law" : Str) = some (.ref f)) (c : He.SaysD fa fn K) (cx : (fx.all fun f => f K) = true) :
    ∃ fd : FuncData, (∀ (s : Shared) (v : Value), BindsTo s fd ⟨[v], []⟩ [("_law_script", v)]) ∧ ∀ base : Heap, K.In base → base.Ns mainGlobals mg → FnOk l.prog w K mg base (L2.CX l.prog w) 7 f fd ["_law_script"] (sp1 K m_law) := by
  have T := facts X G c cx
  obtain ⟨fd, F⟩ := T.f_law
  have e := hfa.symm.trans T.g_law
  cases e
  have b := FunD.bindsA (ps := ["_law_script"]) F fun _ _ _ _ _ _ us hl => match us, hl with | [_], _ => rfl
  exact ⟨fd, fun s v => b s [v] rfl, fun base _ _ => ok_law T F⟩
theorem ends {K : Fg} (hl : ∀ ns : List Int, ns.length ≤ 63 → m_law ns = pure true) (H : Hp) (a : Addr) (ns : List Int) (hn : ns.length ≤ 63) (hS : SqL K H a (ns.map V.int)) : sp1 K m_law [.ref a] H (fun v _ => v = .bl true) fun _ _ _ => False :=
  ⟨ns, .ref a, H, rfl, Same.refl _, ⟨a, _, rfl, hS, rl_ints ns⟩, by rw [hl ns hn]; exact fun _ _ _ v r => r⟩
end Q
open PySem PySem.W PySem.Calls PyProof.Rows
theorem Q.done (hl : ∀ ns : List Int, ns.length ≤ 63 → Q.m_law ns = pure true) : PySem.Challenge.rw_poolrules_k06_names_told_the_same.Holds := by
  w_on; o_law
  refine HandSHeadRun.head_any (r := OpenLaw.row PySem.Challenge.rw_poolrules_k06_names_told_the_same) (q := view (OpenLaw.row PySem.Challenge.rw_poolrules_k06_names_told_the_same).prog [55]) (H := Q.hk) (ob := Q.ob) (M := 100000) (loose := Q.loose) (d := HandSHeadRun.topDef (OpenLaw.row PySem.Challenge.rw_poolrules_k06_names_told_the_same).prog 55) (kwd := []) Q.ob_eq
    (by kernel_rfl) (fun s => by kernel_rfl) Q.run (by kernel_rfl) (by kernel_rfl) (by kernel_rfl) (by rfl) (by first | assumption | decide +kernel) (by decide +kernel) ⟨rfl, rfl, rfl, rfl, rfl, by decide +kernel⟩ ?hw ?hc
  case hw => w_witness2
  case hc =>
    refine G.walkE (l := PySem.Challenge.rw_poolrules_k06_names_told_the_same) (n := 63) (k := 7) (x := "_law_script") (CX := fun w => L2.CX (PySem.Challenge.rw_poolrules_k06_names_told_the_same).prog w) rfl (by decide) (by kernel_rfl) ⟨rfl, by decide, by decide⟩ ?F (fun _ _ _ _ _ z => G.cx_false z)
    intro w mg fa h Y Gg hmg0
    obtain ⟨K, KX, c, cx⟩ := Y
    have hmg : mg ("law" : PySem.Str) = some (.ref fa) := by
      have e : (HandSHeadRun.topDef (OpenLaw.row PySem.Challenge.rw_poolrules_k06_names_told_the_same).prog 55).name = ("law" : PySem.Str) := by kernel_rfl
      rw [← e]
      exact hmg0
    obtain ⟨fd, hb, hF⟩ := Q.atlaw (l := PySem.Challenge.rw_poolrules_k06_names_told_the_same) (w := w) KX Gg hmg c cx
    exact ⟨K, fd, G.sp1 K Q.m_law, KX, hb, fun H a ns hl0 _ hS => Q.ends hl H a ns hl0 hS, hF⟩

set_option maxHeartbeats 4000000
theorem PySem.Challenge.cw_poolrules_k06_names_told_the_same_holds : PySem.Challenge.rw_poolrules_k06_names_told_the_same.Holds := by
  exact Q.done Q.law_ok
#print axioms PySem.Challenge.cw_poolrules_k06_names_told_the_same_holds
