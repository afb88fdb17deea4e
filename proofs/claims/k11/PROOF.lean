import PyProof.Rows.All
import Wide.All
import OpenK.AllK
import Wide.FinOn
import KE.KStateDown
import Lean
import HandS.ForMost
import HandS.ForExc
import HandS.IsInst
import HandS.Steps
import HandS.Defaults
import HandS.Head0
import HandS.Head1
import HandS.Head2
import HandS.HeadEnd
import HandS.HeadHook1
import HandS.HeadHook2
import HandS.StrMore
import HandS.ExcIs
import HandS.Strs
import HandS.TupAny
import HandS.Style
import HandS.ReplaceLit
import PySem.Challenge.RW_poolrules_k11_books_written_and_read
set_option Elab.async false
set_option linter.all false
set_option maxRecDepth 100000
set_option maxHeartbeats 0
namespace G
open PySem L2 TL
abbrev Fg := PySem.W.Frag
def insB (K : Fg) (x y : Str) (b : Bool) : Bool :=
  decide (PySem.W.findIn K (.ref (He.ga K x)) "__class__" = some (some (.builtin "object.__class__"))) && (decide (PySem.W.specialIn K (.builtin "object.__class__") "__get__" = some (some (.builtin "getset_descriptor.__get__"))) &&
  (decide (PySem.W.takesIn K (.builtin "object.__class__") = some true) && (decide (PySem.W.mroIn K (He.ga K x) (.type "object") = some true) && decide (PySem.W.kitOne K (.ref (He.ga K x)) (.ref (He.ga K y)) = some b))))
def hookX (n : Nat) (fa : List He.Fa) (fn : List He.DefD) (fx : List (Fg → Bool)) : PySem.W.Hook where
  α := He.AlD × Bool
  obs := fun s => (He.obsDG n fa fn s.heap.get?, fx.all fun f => f (He.frG s.heap.get? (He.asD s.heap.get? n)))
  val := fun _ => (He.valD fn, true)
  says := fun _ h => ∃ K : PySem.W.Frag, K.In h ∧ He.SaysD fa fn K ∧ (fx.all fun f => f K) = true
  of := fun _ _ e => ⟨_, He.frG_in, congrArg (fun z : He.AlD × Bool => z.1) e, congrArg (fun z : He.AlD × Bool => z.2) e⟩
  keeps := fun _ _ _ ⟨K, hK, c⟩ k => ⟨K, PySem.W.Frag.In.keeps hK k, c⟩
def obX (n : Nat) (fa : List He.Fa) (fn : List He.DefD) (fx : List (Fg → Bool)) (g : Addr → Option Obj) : He.AlD × Bool := (He.obsDG n fa fn g, fx.all fun f => f (He.frG g (He.asD g n)))
theorem obX_eq {n : Nat} {fa : List He.Fa} {fn : List He.DefD} {fx : List (Fg → Bool)} {g : Addr → Option Obj} {s : Shared} (h : ∀ a, g a = s.heap.get? a) : obX n fa fn fx g = (hookX n fa fn fx).obs s := by
  have e : g = s.heap.get? := funext h
  rw [e] <;> rfl
def excB (K : Fg) (c : Str) : Bool := decide (PySem.W.findIn K (.ref (He.ga K c)) "__getattribute__" = some (some (.builtin "BaseException.__getattribute__"))) && (decide (PySem.W.findIn K (.ref (He.ga K c)) "__getattr__" = some none) && (decide (PySem.W.subIn K (.ref (He.ga K c)) (.type "BaseException") = some true) && (PySem.W.hasDictIn K (He.ga K c) &&
  (decide (PySem.W.findIn K (.ref (He.ga K c)) "__class__" = some (some (.builtin "object.__class__"))) && (decide (PySem.W.specialIn K (.builtin "object.__class__") "__get__" = some (some (.builtin "getset_descriptor.__get__"))) && (decide (PySem.W.takesIn K (.builtin "object.__class__") = some true) && decide (PySem.W.mroIn K (He.ga K c) (.type "object") = some true)))))))
def kitOwnB (K : Fg) (c y : Str) (r : Bool) : Bool := decide (PySem.W.kitOne K (.ref (He.ga K c)) (.ref (He.ga K y)) = some r)
def kitTyB (K : Fg) (c : Str) (y : String) (r : Bool) : Bool := decide (PySem.W.kitOne K (.ref (He.ga K c)) (.type y) = some r)
def tupN (K : Fg) (x : Str) : Bool := match K.lookup (He.ga K x) with
  | some o => decide (o.cls = .type "tuple") && decide (o.dict = none)
  | none => false
end G
namespace Q
open PySem L2 G
def top (i : Nat) : Stmt := PySem.Challenge.pw_poolrules_k11_books_written_and_read.main.body.getD i (.Pass ⟨0, 0, 0, 0⟩)
def fn : List He.DefD := [⟨("_wall", none), "_wall", "_wall", defArgs (top 0), defBody (top 0), defScope (top 0), [], []⟩,
  ⟨("is_name", none), "is_name", "is_name", defArgs (top 15), defBody (top 15), defScope (top 15), [], []⟩,
  ⟨("is_open", none), "is_open", "is_open", defArgs (top 16), defBody (top 16), defScope (top 16), [], []⟩,
  ⟨("is_kind", none), "is_kind", "is_kind", defArgs (top 17), defBody (top 17), defScope (top 17), [], []⟩,
  ⟨("pieces", none), "pieces", "pieces", defArgs (top 18), defBody (top 18), defScope (top 18), [], []⟩,
  ⟨("piece_at", none), "piece_at", "piece_at", defArgs (top 19), defBody (top 19), defScope (top 19), [], []⟩,
  ⟨("take_arguments", none), "take_arguments", "take_arguments", defArgs (top 20), defBody (top 20), defScope (top 20), [], []⟩,
  ⟨("take_fact", none), "take_fact", "take_fact", defArgs (top 21), defBody (top 21), defScope (top 21), [], []⟩,
  ⟨("take_facts", none), "take_facts", "take_facts", defArgs (top 22), defBody (top 22), defScope (top 22), [], []⟩,
  ⟨("fact_text", none), "fact_text", "fact_text", defArgs (top 23), defBody (top 23), defScope (top 23), [], []⟩,
  ⟨("facts_text", none), "facts_text", "facts_text", defArgs (top 24), defBody (top 24), defScope (top 24), [], []⟩,
  ⟨("kind_lasts", none), "kind_lasts", "kind_lasts", defArgs (top 26), defBody (top 26), defScope (top 26), [], []⟩,
  ⟨("look_at_facts", none), "look_at_facts", "look_at_facts", defArgs (top 27), defBody (top 27), defScope (top 27), [], []⟩,
  ⟨("look_at_taken", none), "look_at_taken", "look_at_taken", defArgs (top 28), defBody (top 28), defScope (top 28), [], []⟩,
  ⟨("read_kind", none), "read_kind", "read_kind", defArgs (top 36), defBody (top 36), defScope (top 36), [], []⟩,
  ⟨("take_looks", none), "take_looks", "take_looks", defArgs (top 37), defBody (top 37), defScope (top 37), [], []⟩,
  ⟨("take_pairs", none), "take_pairs", "take_pairs", defArgs (top 38), defBody (top 38), defScope (top 38), [], []⟩,
  ⟨("take_part", none), "take_part", "take_part", defArgs (top 39), defBody (top 39), defScope (top 39), [], []⟩,
  ⟨("read_rule", none), "read_rule", "read_rule", defArgs (top 40), defBody (top 40), defScope (top 40), [], []⟩,
  ⟨("left_out", none), "left_out", "left_out", defArgs (top 41), defBody (top 41), defScope (top 41), [], []⟩,
  ⟨("read_line", none), "read_line", "read_line", defArgs (top 42), defBody (top 42), defScope (top 42), [], []⟩,
  ⟨("open_names", none), "open_names", "open_names", defArgs (top 44), defBody (top 44), defScope (top 44), [], []⟩,
  ⟨("keep_line", none), "keep_line", "keep_line", defArgs (top 47), defBody (top 47), defScope (top 47), [], []⟩,
  ⟨("look_at_rule", none), "look_at_rule", "look_at_rule", defArgs (top 48), defBody (top 48), defScope (top 48), [], []⟩,
  ⟨("made_book", none), "made_book", "made_book", defArgs (top 49), defBody (top 49), defScope (top 49), [], []⟩,
  ⟨("read_book", none), "read_book", "read_book", defArgs (top 50), defBody (top 50), defScope (top 50), [], []⟩,
  ⟨("rule_text", none), "rule_text", "rule_text", defArgs (top 51), defBody (top 51), defScope (top 51), [], []⟩,
  ⟨("book_text", none), "book_text", "book_text", defArgs (top 52), defBody (top 52), defScope (top 52), [], []⟩,
  ⟨("_law_cell_at", none), "_law_cell_at", "_law_cell_at", defArgs (top 54), defBody (top 54), defScope (top 54), [], []⟩,
  ⟨("_law_mix", none), "_law_mix", "_law_mix", defArgs (top 55), defBody (top 55), defScope (top 55), [], []⟩,
  ⟨("_law_names", none), "_law_names", "_law_names", defArgs (top 56), defBody (top 56), defScope (top 56), [], []⟩,
  ⟨("_law_titles", none), "_law_titles", "_law_titles", defArgs (top 57), defBody (top 57), defScope (top 57), [], []⟩,
  ⟨("_law_opens", none), "_law_opens", "_law_opens", defArgs (top 58), defBody (top 58), defScope (top 58), [], []⟩,
  ⟨("_law_words", none), "_law_words", "_law_words", defArgs (top 59), defBody (top 59), defScope (top 59), [], []⟩,
  ⟨("_law_kinds", none), "_law_kinds", "_law_kinds", defArgs (top 60), defBody (top 60), defScope (top 60), [], []⟩,
  ⟨("_law_fact", none), "_law_fact", "_law_fact", defArgs (top 61), defBody (top 61), defScope (top 61), [], []⟩,
  ⟨("_law_fact_text", none), "_law_fact_text", "_law_fact_text", defArgs (top 62), defBody (top 62), defScope (top 62), [], []⟩,
  ⟨("_law_counts", none), "_law_counts", "_law_counts", defArgs (top 63), defBody (top 63), defScope (top 63), [], []⟩,
  ⟨("_law_facts", none), "_law_facts", "_law_facts", defArgs (top 64), defBody (top 64), defScope (top 64), [], []⟩,
  ⟨("_law_heads", none), "_law_heads", "_law_heads", defArgs (top 65), defBody (top 65), defScope (top 65), [], []⟩,
  ⟨("_law_two", none), "_law_two", "_law_two", defArgs (top 66), defBody (top 66), defScope (top 66), [], []⟩,
  ⟨("_law_rule", none), "_law_rule", "_law_rule", defArgs (top 67), defBody (top 67), defScope (top 67), [], []⟩,
  ⟨("_law_rule_text", none), "_law_rule_text", "_law_rule_text", defArgs (top 68), defBody (top 68), defScope (top 68), [], []⟩,
  ⟨("_law_kind_text", none), "_law_kind_text", "_law_kind_text", defArgs (top 69), defBody (top 69), defScope (top 69), [], []⟩,
  ⟨("_law_spread", none), "_law_spread", "_law_spread", defArgs (top 70), defBody (top 70), defScope (top 70), [], []⟩,
  ⟨("_law_closer", none), "_law_closer", "_law_closer", defArgs (top 71), defBody (top 71), defScope (top 71), [], []⟩,
  ⟨("_law_turned", none), "_law_turned", "_law_turned", defArgs (top 72), defBody (top 72), defScope (top 72), [], []⟩,
  ⟨("_law_rules", none), "_law_rules", "_law_rules", defArgs (top 73), defBody (top 73), defScope (top 73), [], []⟩,
  ⟨("_law_written", none), "_law_written", "_law_written", defArgs (top 74), defBody (top 74), defScope (top 74), [], []⟩,
  ⟨("law", none), "law", "law", defArgs (top 75), defBody (top 75), defScope (top 75), [], []⟩,
  ⟨("Look", some "__init__"), "__init__", "Look.__init__", defArgs (inClass (top 30) 0), defBody (inClass (top 30) 0), defScope (inClass (top 30) 0), [], []⟩,
  ⟨("Look", some "holds"), "holds", "Look.holds", defArgs (inClass (top 30) 1), defBody (inClass (top 30) 1), defScope (inClass (top 30) 1), [], []⟩,
  ⟨("Look", some "word"), "word", "Look.word", defArgs (inClass (top 30) 2), defBody (inClass (top 30) 2), defScope (inClass (top 30) 2), [], []⟩,
  ⟨("Same", some "__init__"), "__init__", "Look.__init__", defArgs (inClass (top 30) 0), defBody (inClass (top 30) 0), defScope (inClass (top 30) 0), [], []⟩,
  ⟨("Same", some "holds"), "holds", "Same.holds", defArgs (inClass (top 31) 0), defBody (inClass (top 31) 0), defScope (inClass (top 31) 0), [], []⟩,
  ⟨("Same", some "word"), "word", "Same.word", defArgs (inClass (top 31) 1), defBody (inClass (top 31) 1), defScope (inClass (top 31) 1), [], []⟩,
  ⟨("Unlike", some "__init__"), "__init__", "Look.__init__", defArgs (inClass (top 30) 0), defBody (inClass (top 30) 0), defScope (inClass (top 30) 0), [], []⟩,
  ⟨("Unlike", some "holds"), "holds", "Unlike.holds", defArgs (inClass (top 32) 0), defBody (inClass (top 32) 0), defScope (inClass (top 32) 0), [], []⟩,
  ⟨("Unlike", some "word"), "word", "Unlike.word", defArgs (inClass (top 32) 1), defBody (inClass (top 32) 1), defScope (inClass (top 32) 1), [], []⟩,
  ⟨("Rule", some "__init__"), "__init__", "Rule.__init__", defArgs (inClass (top 45) 0), defBody (inClass (top 45) 0), defScope (inClass (top 45) 0), [], []⟩,
  ⟨("Rule", some "calls"), "calls", "Rule.calls", defArgs (inClass (top 45) 1), defBody (inClass (top 45) 1), defScope (inClass (top 45) 1), [], []⟩,
  ⟨("Book", some "__init__"), "__init__", "Book.__init__", defArgs (inClass (top 46) 0), defBody (inClass (top 46) 0), defScope (inClass (top 46) 0), [], []⟩]
def fa : List He.Fa := [.glo "_wall",
  .glo "is_name",
  .glo "is_open",
  .glo "is_kind",
  .glo "pieces",
  .glo "piece_at",
  .glo "take_arguments",
  .glo "take_fact",
  .glo "take_facts",
  .glo "fact_text",
  .glo "facts_text",
  .glo "kind_lasts",
  .glo "look_at_facts",
  .glo "look_at_taken",
  .glo "read_kind",
  .glo "take_looks",
  .glo "take_pairs",
  .glo "take_part",
  .glo "read_rule",
  .glo "left_out",
  .glo "read_line",
  .glo "open_names",
  .glo "keep_line",
  .glo "look_at_rule",
  .glo "made_book",
  .glo "read_book",
  .glo "rule_text",
  .glo "book_text",
  .glo "_law_cell_at",
  .glo "_law_mix",
  .glo "_law_names",
  .glo "_law_titles",
  .glo "_law_opens",
  .glo "_law_words",
  .glo "_law_kinds",
  .glo "_law_fact",
  .glo "_law_fact_text",
  .glo "_law_counts",
  .glo "_law_facts",
  .glo "_law_heads",
  .glo "_law_two",
  .glo "_law_rule",
  .glo "_law_rule_text",
  .glo "_law_kind_text",
  .glo "_law_spread",
  .glo "_law_closer",
  .glo "_law_turned",
  .glo "_law_rules",
  .glo "_law_written",
  .glo "law",
  .cls "Look",
  .noat "Look" "left",
  .noat "Look" "right",
  .cls "Same",
  .noat "Same" "left",
  .noat "Same" "right",
  .cls "Unlike",
  .noat "Unlike" "left",
  .noat "Unlike" "right",
  .glo "Look",
  .mkr "Look",
  .meth "Look" "holds",
  .meth "Look" "word",
  .glo "Same",
  .mkr "Same",
  .meth "Same" "holds",
  .meth "Same" "word",
  .glo "Unlike",
  .mkr "Unlike",
  .meth "Unlike" "holds",
  .meth "Unlike" "word",
  .cls "Rule",
  .noat "Rule" "title",
  .noat "Rule" "taken",
  .noat "Rule" "kept",
  .noat "Rule" "looks",
  .noat "Rule" "given",
  .noat "Rule" "told",
  .noat "Rule" "names",
  .glo "Rule",
  .mkr "Rule",
  .meth "Rule" "calls",
  .cls "Book",
  .noat "Book" "kinds",
  .noat "Book" "rules",
  .glo "Book",
  .mkr "Book",
  .glo "PARTS",
  .glo "SIZES",
  .free "int",
  .free "isinstance",
  .free "len",
  .free "list",
  .free "max",
  .free "range",
  .free "str",
  .free "tuple",
  .str "FIGURES" "0123456789",
  .str "GREAT" "ABCDEFGHIJKLMNOPQRSTUVWXYZ",
  .str "SIGNS" "(),;:=-",
  .str "SMALL" "abcdefghijklmnopqrstuvwxyz",
  .glo "BadArgs",
  .exc "BadArgs",
  .glo "BadCall",
  .exc "BadCall",
  .glo "BadTake",
  .exc "BadTake",
  .glo "NoKind",
  .exc "NoKind",
  .glo "NoLine",
  .exc "NoLine",
  .glo "NoName",
  .exc "NoName",
  .glo "Twice",
  .exc "Twice"]
def fx : List (Fg → Bool) := [fun K => He.tupB K "PARTS" ((["take", "keep", "look", "put", "tell"] : List String).map fun s => He.Dv.str (Str.ofString s)),
  fun K => tupN K "PARTS",
  fun K => He.tupB K "SIZES" ((["0", "1", "2", "3", "4"] : List String).map fun s => He.Dv.str (Str.ofString s))]
abbrev R : PySem.W.OpenRow := PySem.W.OpenLaw.row PySem.Challenge.rw_poolrules_k11_books_written_and_read
abbrev hk : PySem.W.Hook := G.hookX 5 fa fn fx
def ob (s : PySem.W.SharedT) : He.AlD × Bool := G.obX 5 fa fn fx (HandSHeadRun.getT s)
theorem ob_eq (s : PySem.W.SharedT) : ob s = hk.obs s.abs := G.obX_eq (HandSHeadRun.getT_eq s)
def loose : List PySem.Str := (["_wall", "PoolError", "NoLine", "NoKind", "BadArgs", "Twice", "BadTake", "BadCall", "NoName", "SMALL", "GREAT", "FIGURES", "SIGNS", "is_name", "is_open", "is_kind", "pieces", "piece_at", "take_arguments", "take_fact"] : List PySem.Str) ++ ((["take_facts", "fact_text", "facts_text", "kind_lasts", "look_at_facts", "look_at_taken", "Look", "Same", "Unlike", "PARTS", "SIZES", "read_kind", "take_looks", "take_pairs", "take_part", "read_rule", "left_out", "read_line", "open_names", "Rule"] : List PySem.Str) ++ ((["Book", "keep_line", "look_at_rule", "made_book", "read_book", "rule_text", "book_text", "_law_cell_at", "_law_mix", "_law_names", "_law_titles", "_law_opens", "_law_words", "_law_kinds", "_law_fact", "_law_fact_text", "_law_counts", "_law_facts", "_law_heads", "_law_two"] : List PySem.Str) ++ ((["_law_rule", "_law_rule_text", "_law_kind_text", "_law_spread", "_law_closer", "_law_turned", "_law_rules", "_law_written"] : List PySem.Str))))
theorem run (w : World) : HandSHeadRun.RunEq R (PySem.W.view R.prog [75]) hk ob 100000 loose w := by
  intro os
  kernel_rfl
end Q
set_option Elab.async false
set_option linter.all false
set_option maxRecDepth 100000
set_option maxHeartbeats 2000000
namespace G
open PySem L2

/-! ### the monad of the mirrors: a raise by its class, or stuck -/
inductive Er where
  | rs (c : Str)
  | st
abbrev M := Except Er
abbrev Tx := List Nat
def S (l : Tx) : Str := ⟨l.toArray⟩
def Tup (α : Type) := List α
def raise {α : Type} (c : Str) : M α := .error (.rs c)
def stuck {α : Type} : M α := .error .st
def chk (p : Prop) [Decidable p] : M Unit := if p then pure () else .error .st
def ofO {α : Type} : Option α → M α
  | some a => pure a
  | none => .error .st
abbrev SZ : Nat := sizeLine

/-! ### data over the heap -/
class Py (α : Type) where
  rep : Fg → Hp → α → V → Prop
  mono : ∀ {K : Fg} {H H' : Hp} {a : α} {v : V}, Same H H' → rep K H a v → rep K H' a v
structure Pr where
  r : Hp → V → Prop
  m : ∀ {H H' : Hp} {v : V}, Same H H' → r H v → r H' v
def rp (K : Fg) {α : Type} [Py α] (a : α) : Pr := ⟨fun H v => Py.rep K H a v, fun e h => Py.mono e h⟩
structure Ct where
  r : Hp → HO → Prop
  m : ∀ {H H' : Hp} {o : HO}, Same H H' → r H o → r H' o
inductive En where
  | no
  | im (p : Pr)
  | mu (c : Ct)

theorem sqt_mono {K : Fg} {H H' : Hp} {a : Addr} {xs : List V} (e : Same H H') (h : SqT K H a xs) : SqT K H' a xs := by
  rcases h with (h | ⟨o, h⟩) | h
  · exact .inl (.inl (e _ _ h))
  · exact .inl (.inr ⟨o, e _ _ h⟩)
  · exact .inr h
def Rl (K : Fg) (H : Hp) {α : Type} [Py α] (xs : List α) (vs : List V) : Prop := Paired (fun a v => Py.rep K H a v) xs vs
theorem Rl.mono {K : Fg} {H H' : Hp} {α : Type} [Py α] {xs : List α} {vs : List V} (e : Same H H') (h : Rl K H xs vs) : Rl K H' xs vs := Paired.mapP h fun _ _ r => Py.mono e r

instance : Py Int := ⟨fun _ _ i v => v = .int i, fun _ h => h⟩
instance : Py Bool := ⟨fun _ _ i v => v = .bl i, fun _ h => h⟩
instance : Py Unit := ⟨fun _ _ _ v => v = .non, fun _ h => h⟩
instance instPyList {α : Type} [Py α] : Py (List α) := ⟨fun K H xs v => ∃ p vs, v = .ref p ∧ SqL K H p vs ∧ Rl K H xs vs, fun e ⟨p, vs, h1, h2, h3⟩ => ⟨p, vs, h1, Same.seq e h2, h3.mono e⟩⟩
instance instPyTx : Py Tx := ⟨fun _ _ l v => v = .str (S l), fun _ h => h⟩
instance instPyTup {α : Type} [Py α] : Py (Tup α) := ⟨fun K H xs v => ∃ p vs, v = .ref p ∧ SqT K H p vs ∧ Rl K H (α := α) xs vs, fun e ⟨p, vs, h1, h2, h3⟩ => ⟨p, vs, h1, sqt_mono e h2, h3.mono e⟩⟩
instance instPyProd {α β : Type} [Py α] [Py β] : Py (α × β) := ⟨fun K H x v => ∃ p v1 v2, v = .ref p ∧ SqT K H p [v1, v2] ∧ Py.rep K H x.1 v1 ∧ Py.rep K H x.2 v2,
  fun e ⟨p, v1, v2, h1, h2, h3, h4⟩ => ⟨p, v1, v2, h1, sqt_mono e h2, Py.mono e h3, Py.mono e h4⟩⟩
instance instPyOption {α : Type} [Py α] : Py (Option α) := ⟨fun K H x v => match x with
    | none => v = .non
    | some a => Py.rep K H a v, fun {K H H' a v} e h => by
  cases a with
  | none => exact h
  | some a => exact Py.mono (α := α) e h⟩
structure T3 (α β γ : Type) where
  a : α
  b : β
  c : γ
  deriving DecidableEq
instance instPyT3 {α β γ : Type} [Py α] [Py β] [Py γ] : Py (T3 α β γ) := ⟨fun K H x v => ∃ p v1 v2 v3, v = .ref p ∧ SqT K H p [v1, v2, v3] ∧ Py.rep K H x.a v1 ∧ Py.rep K H x.b v2 ∧ Py.rep K H x.c v3,
  fun e ⟨p, v1, v2, v3, h1, h2, h3, h4, h5⟩ => ⟨p, v1, v2, v3, h1, sqt_mono e h2, Py.mono e h3, Py.mono e h4, Py.mono e h5⟩⟩
structure T4 (α β γ δ : Type) where
  a : α
  b : β
  c : γ
  d : δ
  deriving DecidableEq
instance instPyT4 {α β γ δ : Type} [Py α] [Py β] [Py γ] [Py δ] : Py (T4 α β γ δ) := ⟨fun K H x v => ∃ p v1 v2 v3 v4, v = .ref p ∧ SqT K H p [v1, v2, v3, v4] ∧ Py.rep K H x.a v1 ∧ Py.rep K H x.b v2 ∧ Py.rep K H x.c v3 ∧ Py.rep K H x.d v4,
  fun e ⟨p, v1, v2, v3, v4, h1, h2, h3, h4, h5, h6⟩ => ⟨p, v1, v2, v3, v4, h1, sqt_mono e h2, Py.mono e h3, Py.mono e h4, Py.mono e h5, Py.mono e h6⟩⟩

/-! ### heaps: what is told for good (Hi) within what stands (H) -/
structure Bs where
  Hi : Hp
  H : Hp
  own : List Addr
structure Ok (b : Bs) (Hi H : Hp) : Prop where
  sub : Same Hi H
  base : Same b.Hi Hi
  fr : ∀ a o, a ∉ b.own → b.H a = some o → H a = some o
  keep : ∀ a, b.H a ≠ none → H a ≠ none
  cap : ∀ a, b.H a ≠ none → b.Hi a = none → Hi a = none
structure Nx (Hi H Hi' H' : Hp) : Prop where
  im : Same Hi Hi'
  al : Same H H'
  sub : Same Hi' H'
  cap : ∀ a, H a ≠ none → Hi a = none → Hi' a = none
theorem Nx.refl {Hi H : Hp} (s : Same Hi H) : Nx Hi H Hi H := ⟨Same.refl _, Same.refl _, s, fun _ _ h => h⟩
theorem some_ne {H H' : Hp} (e : Same H H') {a : Addr} (h : H a ≠ none) : H' a ≠ none := by
  cases q : H a with
  | none => exact absurd q h
  | some o => rw [e a o q]; exact fun z => nomatch z
theorem Nx.trans {Hi H Hi1 H1 Hi2 H2 : Hp} (x : Nx Hi H Hi1 H1) (y : Nx Hi1 H1 Hi2 H2) : Nx Hi H Hi2 H2 :=
  ⟨x.im.trans y.im, x.al.trans y.al, y.sub, fun a h n => y.cap a (some_ne x.al h) (x.cap a h n)⟩
theorem same_new {H : Hp} {p : Addr} {o : HO} (h : H p = none) : Same H (upd H p o) := fun a u e => by
  rw [upd_ne (ne_of_none e h)]
  exact e
theorem hi_none {Hi H : Hp} (s : Same Hi H) {p : Addr} (h : H p = none) : Hi p = none := by
  cases q : Hi p with
  | none => rfl
  | some o => rw [s p o q] at h; cases h
theorem same_upd {Hi H : Hp} (s : Same Hi H) {p : Addr} {o : HO} : Same (upd Hi p o) (upd H p o) := fun a u e => by
  by_cases h : a = p
  · subst h
    rw [upd_same] at e ⊢
    exact e
  · rw [upd_ne h] at e ⊢
    exact s a u e
theorem Nx.new {Hi H : Hp} (s : Same Hi H) {p : Addr} {o : HO} (h : H p = none) : Nx Hi H (upd Hi p o) (upd H p o) :=
  ⟨same_new (hi_none s h), same_new h, same_upd s, fun a ha hn => by
    rw [upd_ne (fun e => ha (by rw [e]; exact h))]
    exact hn⟩
/-- a new object that is not told for good -/
theorem Nx.temp {Hi H : Hp} (s : Same Hi H) {p : Addr} {o : HO} (h : H p = none) : Nx Hi H Hi (upd H p o) :=
  ⟨Same.refl _, same_new h, s.trans (same_new h), fun _ _ hn => hn⟩
theorem Ok.nx {b : Bs} {Hi H Hi' H' : Hp} (o : Ok b Hi H) (x : Nx Hi H Hi' H') : Ok b Hi' H' :=
  ⟨x.sub, o.base.trans x.im, fun a u n h => x.al a u (o.fr a u n h), fun a h => some_ne x.al (o.keep a h), fun a h n => x.cap a (o.keep a h) (o.cap a h n)⟩
/-- an own or a new object is changed -/
theorem Ok.mut {b : Bs} {Hi H : Hp} (o : Ok b Hi H) {a : Addr} {u : HO} (hn : Hi a = none) (hb : a ∈ b.own ∨ b.H a = none) : Ok b Hi (upd H a u) where
  sub := fun c w h => by
    rw [upd_ne (ne_of_none h hn)]
    exact o.sub c w h
  base := o.base
  fr := fun c w n h => by
    have hc : c ≠ a := by
      rintro rfl
      rcases hb with z | z
      · exact n z
      · rw [z] at h; cases h
    rw [upd_ne hc]
    exact o.fr c w n h
  keep := fun c h => by
    by_cases hc : c = a
    · subst hc; rw [upd_same]; exact fun z => nomatch z
    · rw [upd_ne hc]; exact o.keep c h
  cap := o.cap

structure EnvOk (b : Bs) (L : List En) (σ : L2.St) (Hi H : Hp) : Prop where
  ok : Ok b Hi H
  len : σ.length = L.length
  im : ∀ (i : Nat) (p : Pr), L[i]? = some (.im p) → ∃ v : V, σ[i]? = some (some v) ∧ p.r Hi v
  mu : ∀ (i : Nat) (c : Ct), L[i]? = some (.mu c) → ∃ (a : Addr) (o : HO), σ[i]? = some (some (V.ref a)) ∧ H a = some o ∧ Hi a = none ∧ (a ∈ b.own ∨ b.H a = none) ∧ c.r Hi o
  dis : ∀ (i j : Nat) (c d : Ct) (a : Addr), L[i]? = some (.mu c) → L[j]? = some (.mu d) → σ[i]? = some (some (.ref a)) → σ[j]? = some (some (.ref a)) → i = j
section
variable {b : Bs} {L L' : List En} {σ : L2.St} {Hi H Hi' H' : Hp}
theorem EnvOk.nx (e : EnvOk b L σ Hi H) (x : Nx Hi H Hi' H') : EnvOk b L σ Hi' H' where
  ok := e.ok.nx x
  len := e.len
  im := fun i p h => let ⟨v, h1, h2⟩ := e.im i p h; ⟨v, h1, p.m x.im h2⟩
  mu := fun i c h => let ⟨a, o, h1, h2, h3, h4, h5⟩ := e.mu i c h; ⟨a, o, h1, x.al _ _ h2, x.cap a (by rw [h2]; exact fun z => nomatch z) h3, h4, c.m x.im h5⟩
  dis := e.dis
theorem EnvOk.sub (e : EnvOk b L σ Hi H) : Same Hi H := e.ok.sub
theorem EnvOk.rf (e : EnvOk b L σ Hi H) : Nx Hi H Hi H := Nx.refl e.ok.sub

inductive Wk : List En → List En → Prop where
  | nil : Wk [] []
  | s {e : En} {L L' : List En} (h : Wk L L') : Wk (e :: L) (e :: L')
  | n {e : En} {L L' : List En} (h : Wk L L') : Wk (e :: L) (.no :: L')
theorem Wk.refl : ∀ L : List En, Wk L L
  | [] => .nil
  | _ :: r => .s (Wk.refl r)
theorem Wk.length {L L' : List En} (w : Wk L L') : L'.length = L.length := by
  induction w with
  | nil => rfl
  | s _ ih => simp [ih]
  | n _ ih => simp [ih]
theorem Wk.get {L L' : List En} (w : Wk L L') : ∀ {i : Nat} {e : En}, L'[i]? = some e → e = .no ∨ L[i]? = some e := by
  induction w with
  | nil => intro i e h; simp at h
  | s _ ih =>
    intro i e h
    cases i with
    | zero => exact .inr h
    | succ i => exact ih (i := i) (by simpa using h)
  | n _ ih =>
    intro i e h
    cases i with
    | zero =>
      have : En.no = e := by simpa using h
      exact .inl this.symm
    | succ i => exact ih (i := i) (by simpa using h)
theorem EnvOk.wk (e : EnvOk b L σ Hi H) (w : Wk L L') : EnvOk b L' σ Hi H where
  ok := e.ok
  len := e.len.trans w.length.symm
  im := fun i p h => (w.get h).elim (fun z => nomatch z) (e.im i p)
  mu := fun i c h => (w.get h).elim (fun z => nomatch z) (e.mu i c)
  dis := fun i j c d a h1 h2 h3 h4 => (w.get h1).elim (fun z => nomatch z) fun g1 => (w.get h2).elim (fun z => nomatch z) fun g2 => e.dis i j c d a g1 g2 h3 h4
theorem EnvOk.set {i : Nat} {p : Pr} {v : V} (e : EnvOk b L σ Hi H) (r : p.r Hi v) : EnvOk b (L.set i (.im p)) (σ.set i (some v)) Hi H where
  ok := e.ok
  len := by rw [List.length_set, List.length_set]; exact e.len
  im := fun j q h => by
    by_cases hj : i = j
    · subst hj
      have hl : i < (L.set i (En.im p)).length := (List.getElem?_eq_some_iff.mp h).1
      rw [List.length_set] at hl
      rw [List.getElem?_set_self hl] at h
      cases h
      exact ⟨v, List.getElem?_set_self (by rw [e.len]; exact hl), r⟩
    · rw [List.getElem?_set_ne hj] at h ⊢
      exact e.im j q h
  mu := fun j c h => by
    by_cases hj : i = j
    · subst hj
      have hl : i < (L.set i (En.im p)).length := (List.getElem?_eq_some_iff.mp h).1
      rw [List.length_set] at hl
      rw [List.getElem?_set_self hl] at h
      cases h
    · rw [List.getElem?_set_ne hj] at h ⊢
      exact e.mu j c h
  dis := fun j k c d a h1 h2 h3 h4 => by
    have ne : ∀ {j : Nat} {c : Ct}, (L.set i (En.im p))[j]? = some (.mu c) → i ≠ j := fun {j c} h z => by
      subst z
      have hl : i < (L.set i (En.im p)).length := (List.getElem?_eq_some_iff.mp h).1
      rw [List.length_set] at hl
      rw [List.getElem?_set_self hl] at h
      cases h
    have n1 := ne h1
    have n2 := ne h2
    rw [List.getElem?_set_ne n1] at h1 h3
    rw [List.getElem?_set_ne n2] at h2 h4
    exact e.dis j k c d a h1 h2 h3 h4
/-- a new object, held by the name alone -/
theorem EnvOk.setNew {i : Nat} {c : Ct} {p : Addr} {o : HO} (e : EnvOk b L σ Hi H) (hp : H p = none) (r : c.r Hi o) : EnvOk b (L.set i (.mu c)) (σ.set i (some (.ref p))) Hi (upd H p o) := by
  have x : Nx Hi H Hi (upd H p o) := Nx.temp e.sub hp
  have e1 := e.nx x
  have hpi : Hi p = none := hi_none e.sub hp
  have hpb : b.H p = none := by
    cases q : b.H p with
    | none => rfl
    | some u => exact absurd hp (e.ok.keep p (by rw [q]; exact fun z => nomatch z))
  have old : ∀ {j : Nat} {d : Ct} {a : Addr}, L[j]? = some (.mu d) → σ[j]? = some (some (.ref a)) → a ≠ p := fun {j d a} h1 h2 z => by
    obtain ⟨a', o', g1, g2, _⟩ := e.mu j d h1
    rw [h2] at g1
    cases g1
    rw [z, hp] at g2
    cases g2
  have hi : ∀ {j : Nat}, i = j → ∀ {en : En}, (L.set i (En.mu c))[j]? = some en → en = .mu c ∧ i < L.length := fun {j} hj {en} h => by
    subst hj
    have hl : i < (L.set i (En.mu c)).length := (List.getElem?_eq_some_iff.mp h).1
    rw [List.length_set] at hl
    rw [List.getElem?_set_self hl] at h
    cases h
    exact ⟨rfl, hl⟩
  refine ⟨e1.ok, by rw [List.length_set, List.length_set]; exact e.len, fun j q h => ?_, fun j d h => ?_, fun j k d f a h1 h2 h3 h4 => ?_⟩
  · by_cases hj : i = j
    · exact nomatch (hi hj h).1
    · rw [List.getElem?_set_ne hj] at h ⊢
      exact e1.im j q h
  · by_cases hj : i = j
    · obtain ⟨h5, h6⟩ := hi hj h
      cases h5
      subst hj
      exact ⟨p, o, List.getElem?_set_self (by rw [e.len]; exact h6), upd_same, hpi, .inr hpb, r⟩
    · rw [List.getElem?_set_ne hj] at h ⊢
      exact e1.mu j d h
  · by_cases hj : i = j
    · by_cases hk : i = k
      · exact hj.symm.trans hk
      · obtain ⟨_, h6⟩ := hi hj h1
        subst hj
        rw [List.getElem?_set_self (by rw [e.len]; exact h6)] at h3
        cases h3
        rw [List.getElem?_set_ne hk] at h2 h4
        exact absurd rfl (old h2 h4)
    · by_cases hk : i = k
      · obtain ⟨_, h6⟩ := hi hk h2
        subst hk
        rw [List.getElem?_set_self (by rw [e.len]; exact h6)] at h4
        cases h4
        rw [List.getElem?_set_ne hj] at h1 h3
        exact absurd rfl (old h1 h3)
      · rw [List.getElem?_set_ne hj] at h1 h3
        rw [List.getElem?_set_ne hk] at h2 h4
        exact e.dis j k d f a h1 h2 h3 h4
/-- the object that a name holds alone is changed -/
theorem EnvOk.mut {i : Nat} {c c' : Ct} {a : Addr} {o' : HO} (e : EnvOk b L σ Hi H) (hL : L[i]? = some (.mu c)) (hs : σ[i]? = some (some (.ref a))) (r : c'.r Hi o') : EnvOk b (L.set i (.mu c')) σ Hi (upd H a o') := by
  obtain ⟨a', o, g1, g2, g3, g4, g5⟩ := e.mu i c hL
  rw [hs] at g1
  cases g1
  have hl : i < L.length := (List.getElem?_eq_some_iff.mp hL).1
  have ne : ∀ {j : Nat} {d : Ct} {a' : Addr}, i ≠ j → L[j]? = some (.mu d) → σ[j]? = some (some (.ref a')) → a' ≠ a := fun {j d a'} hj h1 h2 z => by
    subst z
    exact hj (e.dis i j c d a' hL h1 hs h2)
  refine ⟨e.ok.mut g3 g4, by rw [List.length_set]; exact e.len, fun j q h => ?_, fun j d h => ?_, fun j k d f a' h1 h2 h3 h4 => ?_⟩
  · by_cases hj : i = j
    · subst hj
      rw [List.getElem?_set_self hl] at h
      cases h
    · rw [List.getElem?_set_ne hj] at h
      exact e.im j q h
  · by_cases hj : i = j
    · subst hj
      rw [List.getElem?_set_self hl] at h
      cases h
      exact ⟨a, o', hs, upd_same, g3, g4, r⟩
    · rw [List.getElem?_set_ne hj] at h
      obtain ⟨a2, o2, k1, k2, k3, k4, k5⟩ := e.mu j d h
      exact ⟨a2, o2, k1, by rw [upd_ne (ne hj h k1)]; exact k2, k3, k4, k5⟩
  · have back : ∀ {j : Nat} {d : Ct}, (L.set i (En.mu c'))[j]? = some (.mu d) → ∃ d', L[j]? = some (.mu d') := fun {j d} h => by
      by_cases hj : i = j
      · subst hj; exact ⟨c, hL⟩
      · rw [List.getElem?_set_ne hj] at h; exact ⟨d, h⟩
    obtain ⟨d1, q1⟩ := back h1
    obtain ⟨d2, q2⟩ := back h2
    exact e.dis j k d1 d2 a' q1 q2 h3 h4
/-- what a name holds alone is told for good -/
theorem EnvOk.frz {i : Nat} {c : Ct} {p : Pr} (e : EnvOk b L σ Hi H) (hL : L[i]? = some (.mu c)) (hn : b.own = []) (r : ∀ (a : Addr) (Hi' : Hp) (o : HO), Same Hi Hi' → c.r Hi o → Hi' a = some o → p.r Hi' (.ref a)) : ∃ Hi', EnvOk b (L.set i (.im p)) σ Hi' H := by
  obtain ⟨a, o, g1, g2, g3, g4, g5⟩ := e.mu i c hL
  have hl : i < L.length := (List.getElem?_eq_some_iff.mp hL).1
  have g6 : b.H a = none := by
    rcases g4 with z | z
    · rw [hn] at z; cases z
    · exact z
  have sm : Same Hi (upd Hi a o) := same_new g3
  refine ⟨upd Hi a o, ⟨⟨fun d u h => ?_, e.ok.base.trans sm, e.ok.fr, e.ok.keep, fun d h n => ?_⟩, by rw [List.length_set]; exact e.len, fun j q h => ?_, fun j d h => ?_, fun j k d f a' h1 h2 h3 h4 => ?_⟩⟩
  · by_cases hd : d = a
    · subst hd; rw [upd_same] at h; cases h; exact g2
    · rw [upd_ne hd] at h; exact e.ok.sub d u h
  · have hd : d ≠ a := fun z => h (by rw [z]; exact g6)
    rw [upd_ne hd]; exact e.ok.cap d h n
  · by_cases hj : i = j
    · subst hj
      rw [List.getElem?_set_self hl] at h
      cases h
      exact ⟨_, g1, r a _ o sm g5 upd_same⟩
    · rw [List.getElem?_set_ne hj] at h
      obtain ⟨v, k1, k2⟩ := e.im j q h
      exact ⟨v, k1, q.m sm k2⟩
  · by_cases hj : i = j
    · subst hj
      rw [List.getElem?_set_self hl] at h
      cases h
    · rw [List.getElem?_set_ne hj] at h
      obtain ⟨a2, o2, k1, k2, k3, k4, k5⟩ := e.mu j d h
      have hne : a2 ≠ a := fun z => by
        subst z
        exact hj (e.dis i j c d a2 hL h g1 k1)
      exact ⟨a2, o2, k1, k2, by rw [upd_ne hne]; exact k3, k4, d.m sm k5⟩
  · have back : ∀ {j : Nat} {d : Ct}, (L.set i (En.im p))[j]? = some (.mu d) → L[j]? = some (.mu d) := fun {j d} h => by
      by_cases hj : i = j
      · subst hj
        rw [List.getElem?_set_self hl] at h
        cases h
      · rw [List.getElem?_set_ne hj] at h; exact h
    exact e.dis j k d f a' (back h1) (back h2) h3 h4
end

/-! ### what is wanted behind a computation -/
def PX (K : Fg) (E : XK) {α : Type} (m : M α) (Hi H : Hp) (k : α → Hp → Hp → Prop) : Prop := match m with
  | .ok a => ∀ Hi' H', Nx Hi H Hi' H' → k a Hi' H'
  | .error (.rs c) => ∀ Hi' H', Nx Hi H Hi' H' → E (.ref (He.ga K c)) none H'
  | .error .st => False
section
variable {K : Fg} {E : XK} {α β : Type} {m : M α} {f : α → M β} {Hi H Hi' H' : Hp}
theorem PX.nx {k : α → Hp → Hp → Prop} (x : Nx Hi H Hi' H') (h : PX K E m Hi H k) : PX K E m Hi' H' k := by
  cases m with
  | ok a => exact fun _ _ y => h _ _ (x.trans y)
  | error e =>
    cases e with
    | rs c => exact fun _ _ y => h _ _ (x.trans y)
    | st => exact h
theorem PX.bind {k : β → Hp → Hp → Prop} (h : PX K E (m >>= f) Hi H k) : PX K E m Hi H fun a Hi' H' => PX K E (f a) Hi' H' k := by
  cases m with
  | ok a => exact fun _ _ y => PX.nx (m := f a) y h
  | error e =>
    cases e with
    | rs c => exact h
    | st => exact h
theorem PX.imp {k k' : α → Hp → Hp → Prop} (h : PX K E m Hi H k) (i : ∀ a Hi' H', Nx Hi H Hi' H' → k a Hi' H' → k' a Hi' H') : PX K E m Hi H k' := by
  cases m with
  | ok a => exact fun _ _ y => i a _ _ y (h _ _ y)
  | error e =>
    cases e with
    | rs c => exact h
    | st => exact h
theorem PX.chk {p : Prop} [Decidable p] {g : Unit → M β} {k : β → Hp → Hp → Prop} (h : PX K E (chk p >>= g) Hi H k) : p ∧ PX K E (g ()) Hi H k := by
  unfold G.chk at h
  by_cases hp : p
  · rw [if_pos hp] at h; exact ⟨hp, h⟩
  · rw [if_neg hp] at h; exact h.elim
theorem PX.ofO {o : Option α} {g : α → M β} {k : β → Hp → Hp → Prop} (h : PX K E (ofO o >>= g) Hi H k) : ∃ a, o = some a ∧ PX K E (g a) Hi H k := by
  cases o with
  | none => exact h.elim
  | some a => exact ⟨a, rfl, h⟩
theorem PX.ofO1 {o : Option α} {k : α → Hp → Hp → Prop} (h : PX K E (G.ofO o) Hi H k) : ∃ a, o = some a ∧ PX K E (pure a) Hi H k := by
  cases o with
  | none => exact h.elim
  | some a => exact ⟨a, rfl, h⟩
end
/-- behind an expression -/
abbrev PV (K : Fg) (E : XK) {α : Type} [Py α] (m : M α) (Hi H : Hp) (Q : VK) : Prop := PX K E m Hi H fun a Hi' H' => ∀ v, Py.rep K Hi' a v → Q v H'

/-- the weakest readings -/
def wpE (X : Cx) (e : Expr) : TE := fun σ H Q => ∀ (pins : List (Addr × Obj)) (s : Shared), Inv X pins σ H s → wpAny (model X.prog X.w) X.A (eval e X.env) (EP X pins σ Q) X.xe s
def wpT (X : Cx) (e : Expr) : TT := fun σ H Q => ∀ (pins : List (Addr × Obj)) (s : Shared), Inv X pins σ H s → wpAny (model X.prog X.w) X.A (isTrue e X.env (eval e X.env)) (TP X pins σ Q) X.xe s
def wpW (X : Cx) (e : Expr) : TT := fun σ H Q => ∀ (whole : Sem Value) (pins : List (Addr × Obj)) (s : Shared), Inv X pins σ H s → wpAny (model X.prog X.w) X.A (isTrue e X.env whole) (TP X pins σ Q) X.xe s
def wpA (X : Cx) (es : List Expr) : TA := fun σ H Q => ∀ (pos : Pos) (pins : List (Addr × Obj)) (s : Shared), Inv X pins σ H s → wpAny (model X.prog X.w) X.A (spliced (backTo pos (starEach es X.env))) (AP X pins σ Q) X.xe s
def wpI (X : Cx) (tg iter : Expr) : TI := fun σ H R => ∀ (pins : List (Addr × Obj)) (s : Shared), Inv X pins σ H s → wpAny (model X.prog X.w) X.A (eval iter X.env) (fun v s1 => wpAny (model X.prog X.w) X.A (pyIter v) (PIE X pins σ tg R) X.xe s1) X.xe s
def wpS (X : Cx) (st : Stmt) : TS := fun D σ H => ∀ (pins : List (Addr × Obj)) (s : Shared), Inv X pins σ H s → wpAny (model X.prog X.w) X.A (exec st X.env) (SP X pins D) X.xe s
def wpB (X : Cx) (st : List Stmt) : TS := fun D σ H => ∀ (pins : List (Addr × Obj)) (s : Shared), Inv X pins σ H s → wpAny (model X.prog X.w) X.A (execs st X.env) (SP X pins D) X.xe s
def wpO (X : Cx) (e : Option Expr) : TO := fun σ H Q => ∀ (pins : List (Addr × Obj)) (s : Shared), Inv X pins σ H s → wpAny (model X.prog X.w) X.A (evalPart e X.env) (fun u s' => ∃ o H', Inv X pins σ H' s' ∧ IsPart u o ∧ Q o H') X.xe s
section
variable {X : Cx}
theorem pe_wp {e : Expr} : PE X e (wpE X e) := ⟨fun pins s _ _ _ I h => h pins s I⟩
theorem pt_wp {e : Expr} : PT X e (wpT X e) := ⟨fun pins s _ _ _ I h => h pins s I⟩
theorem pw_wp {e : Expr} : PW X e (wpW X e) := ⟨fun whole pins s _ _ _ I h => h whole pins s I⟩
theorem pa_wp {es : List Expr} : PA X es (wpA X es) := ⟨fun pos pins s _ _ _ I h => h pos pins s I⟩
theorem pi_wp {tg iter : Expr} : PI X tg iter (wpI X tg iter) := ⟨fun pins s _ _ _ I h => h pins s I⟩
theorem ps_wp {st : Stmt} : PS X st (wpS X st) := ⟨fun pins s _ _ _ I h => h pins s I⟩
theorem pss_wp {st : List Stmt} : PSs X st (wpB X st) := ⟨fun pins s _ _ _ I h => h pins s I⟩
theorem po_wp {e : Option Expr} : PO X e (wpO X e) := ⟨fun pins s _ _ _ I h => h pins s I⟩
theorem PE.wp {e : Expr} {t : TE} {σ : L2.St} {H : Hp} {Q : VK} (d : PE X e t) (h : t σ H Q) : wpE X e σ H Q := fun pins s I => d.run pins s σ H Q I h
theorem PT.wp {e : Expr} {t : TT} {σ : L2.St} {H : Hp} {Q : Bool → Hp → Prop} (d : PT X e t) (h : t σ H Q) : wpT X e σ H Q := fun pins s I => d.run pins s σ H Q I h
theorem PW.wp {e : Expr} {t : TT} {σ : L2.St} {H : Hp} {Q : Bool → Hp → Prop} (d : PW X e t) (h : t σ H Q) : wpW X e σ H Q := fun whole pins s I => d.run whole pins s σ H Q I h
theorem PA.wp {es : List Expr} {t : TA} {σ : L2.St} {H : Hp} {Q : List V → Hp → Prop} (d : PA X es t) (h : t σ H Q) : wpA X es σ H Q := fun pos pins s I => d.run pos pins s σ H Q I h
theorem PI.wp {tg iter : Expr} {t : TI} {σ : L2.St} {H : Hp} {R : It → Hp → Prop} (d : PI X tg iter t) (h : t σ H R) : wpI X tg iter σ H R := fun pins s I => d.run pins s σ H R I h
theorem PS.wp {st : Stmt} {t : TS} {σ : L2.St} {H : Hp} {D : Ends} (d : PS X st t) (h : t D σ H) : wpS X st D σ H := fun pins s I => d.run pins s σ H D I h
theorem PSs.wp {st : List Stmt} {t : TS} {σ : L2.St} {H : Hp} {D : Ends} (d : PSs X st t) (h : t D σ H) : wpB X st D σ H := fun pins s I => d.run pins s σ H D I h
theorem PO.wp {e : Option Expr} {t : TO} {σ : L2.St} {H : Hp} {Q : Option Int → Hp → Prop} (d : PO X e t) (h : t σ H Q) : wpO X e σ H Q := fun pins s I => d.run pins s σ H Q I h
end

structure JE (X : Cx) (K : Fg) (b : Bs) (L : List En) (E : XK) (e : Expr) {α : Type} [Py α] (m : M α) : Prop where
  go : ∀ σ Hi H, EnvOk b L σ Hi H → ∀ Q : VK, PV K E m Hi H Q → wpE X e σ H Q
structure JT (X : Cx) (K : Fg) (b : Bs) (L : List En) (E : XK) (e : Expr) (m : M Bool) : Prop where
  go : ∀ σ Hi H, EnvOk b L σ Hi H → ∀ Q : Bool → Hp → Prop, PX K E m Hi H (fun a _ H' => Q a H') → wpT X e σ H Q
structure JW (X : Cx) (K : Fg) (b : Bs) (L : List En) (E : XK) (e : Expr) (m : M Bool) : Prop where
  go : ∀ σ Hi H, EnvOk b L σ Hi H → ∀ Q : Bool → Hp → Prop, PX K E m Hi H (fun a _ H' => Q a H') → wpW X e σ H Q
/-- an argument list, item by item of one type -/
structure JL (X : Cx) (K : Fg) (b : Bs) (L : List En) (E : XK) (es : List Expr) {α : Type} [Py α] (m : M (List α)) : Prop where
  go : ∀ σ Hi H, EnvOk b L σ Hi H → ∀ Q : List V → Hp → Prop, PX K E m Hi H (fun xs Hi' H' => ∀ vs, Rl K Hi' xs vs → Q vs H') → wpA X es σ H Q
  len : ∀ xs, m = .ok xs → xs.length = es.length
/-- what is walked -/
structure ItOk (K : Fg) {α : Type} [Py α] (J : It) (Hi0 : Hp) (xs : List α) : Prop where
  go : ∀ (i : Nat) (y : α) (Hi H : Hp), Same Hi0 Hi → Same Hi H → xs[i]? = some y → J.go i H ∧ ∀ (x : V) (H' : Hp), J.yld i H x H' → ∃ Hi', Nx Hi H Hi' H' ∧ Py.rep K Hi' y x
  stop : ∀ (i : Nat) (Hi H : Hp), Same Hi0 Hi → Same Hi H → xs.length ≤ i → J.stop i H
structure JI (X : Cx) (K : Fg) (b : Bs) (L : List En) (E : XK) (tg iter : Expr) {α : Type} [Py α] (m : M (List α)) : Prop where
  go : ∀ σ Hi H, EnvOk b L σ Hi H → ∀ R : It → Hp → Prop, PX K E m Hi H (fun xs Hi' H' => ∀ J, ItOk K J Hi' xs → R J H') → wpI X tg iter σ H R
/-- a target: the same rule in each of these contexts -/
structure JG {ι : Type} (X : ι → Cx) (K : Fg) (tg : Expr) (sl : List Nat) {α : Type} [Py α] (u : α → List En → List En) : Prop where
  ex : ∃ g : TG, (∀ i, PG (X i) tg g) ∧ ∀ (b : Bs) (L : List En) (σ : L2.St) (Hi H : Hp) (y : α) (x : V) (Q : L2.St → Hp → Prop), EnvOk b L σ Hi H → Py.rep K Hi y x → (∀ σ', EnvOk b (u y L) σ' Hi H → wipe σ' sl = wipe σ sl → Q σ' H) → g x σ H Q
structure JO (X : Cx) (K : Fg) (b : Bs) (L : List En) (E : XK) (e : Option Expr) (m : M (Option Int)) : Prop where
  go : ∀ σ Hi H, EnvOk b L σ Hi H → ∀ Q : Option Int → Hp → Prop, PX K E m Hi H (fun o _ H' => Q o H') → wpO X e σ H Q
section
variable {X : Cx} {K : Fg} {b : Bs} {L : List En} {E : XK} {e tg : Expr} {es : List Expr} {α : Type} [Py α]
theorem JE.of {m : M α} (h : ∃ t : TE, PE X e t ∧ ∀ σ Hi H, EnvOk b L σ Hi H → ∀ Q : VK, PV K E m Hi H Q → t σ H Q) : JE X K b L E e m := let ⟨_, d, p⟩ := h; ⟨fun σ Hi H en Q z => PE.wp d (p σ Hi H en Q z)⟩
theorem JE.ex {m : M α} (h : JE X K b L E e m) : ∃ t : TE, PE X e t ∧ ∀ σ Hi H, EnvOk b L σ Hi H → ∀ Q : VK, PV K E m Hi H Q → t σ H Q := ⟨_, pe_wp, h.go⟩
theorem JT.of {m : M Bool} (h : ∃ t : TT, PT X e t ∧ ∀ σ Hi H, EnvOk b L σ Hi H → ∀ Q : Bool → Hp → Prop, PX K E m Hi H (fun a _ H' => Q a H') → t σ H Q) : JT X K b L E e m := let ⟨_, d, p⟩ := h; ⟨fun σ Hi H en Q z => PT.wp d (p σ Hi H en Q z)⟩
theorem JT.ex {m : M Bool} (h : JT X K b L E e m) : ∃ t : TT, PT X e t ∧ ∀ σ Hi H, EnvOk b L σ Hi H → ∀ Q : Bool → Hp → Prop, PX K E m Hi H (fun a _ H' => Q a H') → t σ H Q := ⟨_, pt_wp, h.go⟩
theorem JW.of {m : M Bool} (h : ∃ t : TT, PW X e t ∧ ∀ σ Hi H, EnvOk b L σ Hi H → ∀ Q : Bool → Hp → Prop, PX K E m Hi H (fun a _ H' => Q a H') → t σ H Q) : JW X K b L E e m := let ⟨_, d, p⟩ := h; ⟨fun σ Hi H en Q z => PW.wp d (p σ Hi H en Q z)⟩
theorem JW.ex {m : M Bool} (h : JW X K b L E e m) : ∃ t : TT, PW X e t ∧ ∀ σ Hi H, EnvOk b L σ Hi H → ∀ Q : Bool → Hp → Prop, PX K E m Hi H (fun a _ H' => Q a H') → t σ H Q := ⟨_, pw_wp, h.go⟩
theorem JO.of {o : Option Expr} {m : M (Option Int)} (h : ∃ t : TO, PO X o t ∧ ∀ σ Hi H, EnvOk b L σ Hi H → ∀ Q : Option Int → Hp → Prop, PX K E m Hi H (fun a _ H' => Q a H') → t σ H Q) : JO X K b L E o m := let ⟨_, d, p⟩ := h; ⟨fun σ Hi H en Q z => PO.wp d (p σ Hi H en Q z)⟩
theorem JO.ex {o : Option Expr} {m : M (Option Int)} (h : JO X K b L E o m) : ∃ t : TO, PO X o t ∧ ∀ σ Hi H, EnvOk b L σ Hi H → ∀ Q : Option Int → Hp → Prop, PX K E m Hi H (fun a _ H' => Q a H') → t σ H Q := ⟨_, po_wp, h.go⟩
theorem JL.of {m : M (List α)} (h : ∃ t : TA, PA X es t ∧ ∀ σ Hi H, EnvOk b L σ Hi H → ∀ Q : List V → Hp → Prop, PX K E m Hi H (fun xs Hi' H' => ∀ vs, Rl K Hi' xs vs → Q vs H') → t σ H Q) (l : ∀ xs, m = .ok xs → xs.length = es.length) : JL X K b L E es m := let ⟨_, d, p⟩ := h; ⟨fun σ Hi H en Q z => PA.wp d (p σ Hi H en Q z), l⟩
theorem JL.ex {m : M (List α)} (h : JL X K b L E es m) : ∃ t : TA, PA X es t ∧ ∀ σ Hi H, EnvOk b L σ Hi H → ∀ Q : List V → Hp → Prop, PX K E m Hi H (fun xs Hi' H' => ∀ vs, Rl K Hi' xs vs → Q vs H') → t σ H Q := ⟨_, pa_wp, h.go⟩
theorem JI.of {m : M (List α)} (h : ∃ t : TI, PI X tg e t ∧ ∀ σ Hi H, EnvOk b L σ Hi H → ∀ R : It → Hp → Prop, PX K E m Hi H (fun xs Hi' H' => ∀ J, ItOk K J Hi' xs → R J H') → t σ H R) : JI X K b L E tg e m := let ⟨_, d, p⟩ := h; ⟨fun σ Hi H en Q z => PI.wp d (p σ Hi H en Q z)⟩
end
/-- an operation on two values, on one -/
def RO (K : Fg) (E : XK) {α β γ : Type} [Py α] [Py β] [Py γ] (r : R2) (f : α → β → M γ) : Prop :=
  ∀ (x : α) (y : β) (v w : V) (Hi H : Hp) (Q : VK), Same Hi H → Py.rep K Hi x v → Py.rep K Hi y w → PV K E (f x y) Hi H Q → r v w H Q
def RU1 (K : Fg) (E : XK) {α β : Type} [Py α] [Py β] (r : V → Hp → VK → Prop) (f : α → M β) : Prop :=
  ∀ (x : α) (v : V) (Hi H : Hp) (Q : VK), Same Hi H → Py.rep K Hi x v → PV K E (f x) Hi H Q → r v H Q
def RA1 (K : Fg) (E : XK) {α β : Type} [Py α] [Py β] (r : List V → Hp → VK → Prop) (f : α → M β) : Prop :=
  ∀ (x : α) (v : V) (Hi H : Hp) (Q : VK), Same Hi H → Py.rep K Hi x v → PV K E (f x) Hi H Q → r [v] H Q
def RA2 (K : Fg) (E : XK) {α β γ : Type} [Py α] [Py β] [Py γ] (r : List V → Hp → VK → Prop) (f : α → β → M γ) : Prop :=
  ∀ (x : α) (y : β) (v w : V) (Hi H : Hp) (Q : VK), Same Hi H → Py.rep K Hi x v → Py.rep K Hi y w → PV K E (f x y) Hi H Q → r [v, w] H Q
end G

set_option Elab.async false
set_option linter.all false
set_option maxRecDepth 100000
set_option maxHeartbeats 2000000
namespace G
open PySem L2 TL

/-! ### the operations of the mirrors -/
def tx (s : String) : Tx := s.toList.map Char.toNat
theorem S_tx (s : String) : S (tx s) = Str.ofString s := ext_tl (by rw [tl_ofString] <;> rfl)
theorem tl_S (l : Tx) : tl (S l) = l := rfl
theorem S_inj {a b : Tx} (h : S a = S b) : a = b := by
  have := congrArg tl h
  rwa [tl_S, tl_S] at this
theorem S_length (l : Tx) : (S l).length = l.length := by rw [len_tl, tl_S]
theorem dec_S (a b : Tx) : decide (V.str (S a) = V.str (S b)) = decide (a = b) := by
  by_cases h : a = b
  · subst h; simp
  · rw [decide_eq_false h, decide_eq_false (fun z => h (S_inj (V.str.inj z)))]
instance {i j : Int} : Decidable (CMul i j) := by unfold CMul; infer_instance
instance {i j : Int} : Decidable (CDiv i j) := by unfold CDiv; infer_instance
instance {i j : Int} : Decidable (CPow i j) := by unfold CPow; infer_instance
def mulI (i j : Int) : M Int := chk (CMul i j) >>= fun _ => pure (i * j)
def modI (i j : Int) : M Int := chk (0 < j) >>= fun _ => pure (i % j)
def divI (i j : Int) : M Int := chk (CDiv i j) >>= fun _ => pure (i / j)
def powI (i j : Int) : M Int := chk (CPow i j) >>= fun _ => pure (i ^ j.toNat)
def addT (a c : Tx) : M Tx := chk (a.length + c.length ≤ SZ) >>= fun _ => pure (a ++ c)
def inS (x t : Tx) : M Bool := match x with
  | [c] => pure (decide (c ∈ t))
  | _ => stuck
def cut {α : Type} (xs : List α) (lo hi : Option Int) : List α := (xs.drop (HT.sIx xs.length 0 lo)).take (HT.sIx xs.length xs.length hi - HT.sIx xs.length 0 lo)
def cutT (x : Tx) (lo hi : Option Int) : M Tx := chk (x.length ≤ SZ) >>= fun _ => pure (cut x lo hi)
def lenT (x : Tx) : M Int := chk (x.length ≤ SZ) >>= fun _ => pure (x.length : Int)
def atT (x : Tx) (i : Int) : M Tx := chk (x.length ≤ SZ) >>= fun _ => ofO (atI x i) >>= fun c => pure [c]
def atL {α : Type} (xs : List α) (i : Int) : M α := ofO (atI xs i)
def joinM (s : Tx) (xs : List Tx) : M Tx := chk ((xs.map (·.length)).sum + xs.length * s.length ≤ 16777216) >>= fun _ => pure (joinL s xs)
/-- no raise is let out -/
def nr {α : Type} : M α → M α
  | .ok a => .ok a
  | .error _ => .error .st
def lcM {α β : Type} (xs : List α) (f : α → M β) : M (List β) := chk (xs.length ≤ SZ) >>= fun _ => nr (xs.mapM f)
/-- with a test -/
def lcF {α β : Type} (xs : List α) (t : α → M Bool) (f : α → M β) : M (List β) := chk (xs.length ≤ SZ) >>= fun _ => nr (xs.foldlM (fun acc x => t x >>= fun c => if c = true then f x >>= fun y => pure (acc ++ [y]) else pure acc) [])

section
variable {K : Fg} {E : XK} {α β γ δ : Type} {a : α} {Hi H Hi' H' : Hp} {k : α → Hp → Hp → Prop}
theorem PX.here (h : PX K E (pure a) Hi H k) (s : Same Hi H) : k a Hi H := (show ∀ Hi' H', Nx Hi H Hi' H' → k a Hi' H' from h) Hi H (Nx.refl s)
theorem PX.go (h : PX K E (pure a) Hi H k) (x : Nx Hi H Hi' H') : k a Hi' H' := (show ∀ Hi' H', Nx Hi H Hi' H' → k a Hi' H' from h) Hi' H' x
end

section
variable {K : Fg} {E : XK}
theorem ro_add : RO K E (rI0 fun i j => .int (i + j)) (fun i j : Int => (pure (i + j) : M Int)) := by
  rintro i j v w Hi H Q s rfl rfl h
  exact ⟨i, j, rfl, rfl, h.here s _ rfl⟩
theorem ro_sub : RO K E (rI0 fun i j => .int (i - j)) (fun i j : Int => (pure (i - j) : M Int)) := by
  rintro i j v w Hi H Q s rfl rfl h
  exact ⟨i, j, rfl, rfl, h.here s _ rfl⟩
theorem ro_mul : RO K E (rI CMul fun i j => .int (i * j)) mulI := by
  rintro i j v w Hi H Q s rfl rfl h
  obtain ⟨c, h⟩ := PX.chk h
  exact ⟨i, j, rfl, rfl, c, h.here s _ rfl⟩
theorem ro_mod : RO K E (rI (fun _ j => 0 < j) fun i j => .int (i % j)) modI := by
  rintro i j v w Hi H Q s rfl rfl h
  obtain ⟨c, h⟩ := PX.chk h
  exact ⟨i, j, rfl, rfl, c, h.here s _ rfl⟩
theorem ro_div : RO K E (rI CDiv fun i j => .int (i / j)) divI := by
  rintro i j v w Hi H Q s rfl rfl h
  obtain ⟨c, h⟩ := PX.chk h
  exact ⟨i, j, rfl, rfl, c, h.here s _ rfl⟩
theorem ro_pow : RO K E (rI CPow fun i j => .int (i ^ j.toNat)) powI := by
  rintro i j v w Hi H Q s rfl rfl h
  obtain ⟨c, h⟩ := PX.chk h
  exact ⟨i, j, rfl, rfl, c, h.here s _ rfl⟩
theorem ro_lt : RO K E (rI0 fun i j => .bl (decide (i < j))) (fun i j : Int => (pure (decide (i < j)) : M Bool)) := by
  rintro i j v w Hi H Q s rfl rfl h
  exact ⟨i, j, rfl, rfl, h.here s _ rfl⟩
theorem ro_le : RO K E (rI0 fun i j => .bl (decide (i ≤ j))) (fun i j : Int => (pure (decide (i ≤ j)) : M Bool)) := by
  rintro i j v w Hi H Q s rfl rfl h
  exact ⟨i, j, rfl, rfl, h.here s _ rfl⟩
theorem ro_gt : RO K E (rI0 fun i j => .bl (decide (j < i))) (fun i j : Int => (pure (decide (j < i)) : M Bool)) := by
  rintro i j v w Hi H Q s rfl rfl h
  exact ⟨i, j, rfl, rfl, h.here s _ rfl⟩
theorem ro_ge : RO K E (rI0 fun i j => .bl (decide (j ≤ i))) (fun i j : Int => (pure (decide (j ≤ i)) : M Bool)) := by
  rintro i j v w Hi H Q s rfl rfl h
  exact ⟨i, j, rfl, rfl, h.here s _ rfl⟩
theorem dec_i {i j : Int} : decide (V.int i = V.int j) = decide (i = j) := by
  by_cases h : i = j
  · subst h; simp
  · rw [decide_eq_false h, decide_eq_false (fun z => h (V.int.inj z))]
theorem dec_b {i j : Bool} : decide (V.bl i = V.bl j) = decide (i = j) := by
  by_cases h : i = j
  · subst h; simp
  · rw [decide_eq_false h, decide_eq_false (fun z => h (V.bl.inj z))]
theorem ro_eqI : RO K E rEq (fun i j : Int => (pure (decide (i = j)) : M Bool)) := by
  rintro i j v w Hi H Q s rfl rfl h
  exact ⟨rfl, h.here s _ (congrArg V.bl dec_i)⟩
theorem ro_neI : RO K E rNe (fun i j : Int => (pure (!decide (i = j)) : M Bool)) := by
  rintro i j v w Hi H Q s rfl rfl h
  exact ⟨rfl, h.here s _ (congrArg (fun z => V.bl (!z)) dec_i)⟩
theorem ro_eqB : RO K E rEq (fun i j : Bool => (pure (decide (i = j)) : M Bool)) := by
  rintro i j v w Hi H Q s rfl rfl h
  exact ⟨rfl, h.here s _ (congrArg V.bl dec_b)⟩
theorem ro_neB : RO K E rNe (fun i j : Bool => (pure (!decide (i = j)) : M Bool)) := by
  rintro i j v w Hi H Q s rfl rfl h
  exact ⟨rfl, h.here s _ (congrArg (fun z => V.bl (!z)) dec_b)⟩
theorem ro_eqT : RO K E rEq (fun i j : Tx => (pure (decide (i = j)) : M Bool)) := by
  rintro i j v w Hi H Q s rfl rfl h
  exact ⟨rfl, h.here s _ (congrArg V.bl (dec_S i j))⟩
theorem ro_neT : RO K E rNe (fun i j : Tx => (pure (!decide (i = j)) : M Bool)) := by
  rintro i j v w Hi H Q s rfl rfl h
  exact ⟨rfl, h.here s _ (congrArg (fun z => V.bl (!z)) (dec_S i j))⟩
theorem ro_addT : RO K E (fun x y H Q => ∃ i j, x = .str i ∧ y = .str j ∧ i.length + j.length ≤ sizeLine ∧ Q (.str (i ++ j)) H) addT := by
  rintro i j v w Hi H Q s rfl rfl h
  obtain ⟨c, h⟩ := PX.chk h
  refine ⟨S i, S j, rfl, rfl, by rw [S_length, S_length]; exact c, h.here s _ ?_⟩
  exact congrArg V.str (ext_tl (by rw [tl_append] <;> rfl))
theorem ro_in : RO K E rInS inS := by
  rintro i j v w Hi H Q s rfl rfl h
  match i, h with
  | [], h => exact h.elim
  | [c], h => exact ⟨c, S j, rfl, rfl, PX.here h s _ rfl⟩
  | _ :: _ :: _, h => exact h.elim
theorem ro_notIn : RO K E rNotInS (fun x y => inS x y >>= fun c => pure (!c)) := by
  rintro i j v w Hi H Q s rfl rfl h
  match i, h with
  | [], h => exact h.elim
  | [c], h => exact ⟨c, S j, rfl, rfl, PX.here (show PX K E (pure (!(decide (c ∈ j)))) Hi H _ from h) s _ rfl⟩
  | _ :: _ :: _, h => exact h.elim
theorem Rl.at {α : Type} [Py α] {H : Hp} : ∀ {xs : List α} {vs : List V} (_ : Rl K H xs vs) {j : Nat} {a : α}, xs[j]? = some a → ∃ v, vs[j]? = some v ∧ Py.rep K H a v
  | _, _, .nil, j, a, e => by simp at e
  | _, _, .cons r _, 0, a, e => by
    simp at e; subst e
    exact ⟨_, rfl, r⟩
  | _, _, .cons _ t, j + 1, a, e => by
    obtain ⟨v, h1, h2⟩ := Rl.at (xs := _) (vs := _) t (j := j) (by simpa using e)
    exact ⟨v, by simpa using h1, h2⟩
theorem Rl.length {α : Type} [Py α] {H : Hp} {xs : List α} {vs : List V} (h : Rl K H xs vs) : xs.length = vs.length := Paired.length h
theorem Rl.atI {α : Type} [Py α] {H : Hp} {xs : List α} {vs : List V} (h : Rl K H xs vs) {i : Int} {a : α} (e : atI xs i = some a) : ∃ v, L2.atI vs i = some v ∧ Py.rep K H a v := by
  unfold L2.atI at e ⊢
  rw [h.length] at e
  cases q : ixN vs.length i with
  | none => rw [q] at e; cases e
  | some j =>
    rw [q] at e
    exact h.at (j := j) e
theorem Rl.app {α : Type} [Py α] {H : Hp} : ∀ {xs ys : List α} {vs ws : List V}, Rl K H xs vs → Rl K H ys ws → Rl K H (xs ++ ys) (vs ++ ws)
  | _, _, _, _, .nil, s => s
  | _, _, _, _, .cons r t, s => .cons r (Rl.app t s)
theorem Rl.take {α : Type} [Py α] {H : Hp} : ∀ {xs : List α} {vs : List V} (n : Nat), Rl K H xs vs → Rl K H (xs.take n) (vs.take n)
  | _, _, 0, _ => .nil
  | _, _, _ + 1, .nil => .nil
  | _, _, n + 1, .cons r t => .cons r (Rl.take n t)
theorem Rl.drop {α : Type} [Py α] {H : Hp} : ∀ {xs : List α} {vs : List V} (n : Nat), Rl K H xs vs → Rl K H (xs.drop n) (vs.drop n)
  | _, _, 0, r => r
  | _, _, _ + 1, .nil => .nil
  | _, _, n + 1, .cons _ t => Rl.drop n t
theorem Rl.set {α : Type} [Py α] {H : Hp} {a : α} {v : V} (r : Py.rep K H a v) : ∀ {xs : List α} {vs : List V} (n : Nat), Rl K H xs vs → Rl K H (xs.set n a) (vs.set n v)
  | _, _, _, .nil => .nil
  | _, _, 0, .cons _ t => .cons r t
  | _, _, n + 1, .cons q t => .cons q (Rl.set r n t)
theorem Rl.cut {α : Type} [Py α] {H : Hp} {xs : List α} {vs : List V} (h : Rl K H xs vs) (lo hi : Option Int) : Rl K H (G.cut xs lo hi) (cutV vs lo hi) := by
  unfold G.cut cutV
  rw [h.length]
  exact (h.drop _).take _
theorem Rl.tx : ∀ {xs : List Tx} {vs : List V} {H : Hp}, Rl K H xs vs → vs = (xs.map S).map V.str
  | _, _, _, .nil => rfl
  | x :: xs, v :: vs, H, .cons r t => by
    have r' : v = V.str (S x) := r
    rw [r', List.map_cons, List.map_cons, Rl.tx t]
theorem Rl.ints : ∀ {xs : List Int} {vs : List V} {H : Hp}, Rl K H xs vs → vs = xs.map V.int
  | _, _, _, .nil => rfl
  | x :: xs, v :: vs, H, .cons r t => by
    have r' : v = V.int x := r
    rw [r', List.map_cons, Rl.ints t]
theorem rl_ints {H : Hp} : ∀ xs : List Int, Rl K H xs (xs.map V.int)
  | [] => .nil
  | _ :: r => .cons rfl (rl_ints r)
theorem ro_ixL {α : Type} [Py α] : RO K E (rIxL K) (fun (xs : List α) (i : Int) => atL xs i) := by
  rintro xs i v w Hi H Q s ⟨p, vs, rfl, h1, h2⟩ rfl h
  obtain ⟨a, e, h⟩ := PX.ofO1 h
  obtain ⟨u, e1, r⟩ := h2.atI e
  exact ⟨p, vs, i, u, rfl, rfl, Same.seq s h1, e1, h.here s _ r⟩
theorem ro_ixU {α : Type} [Py α] : RO K E (rIxT K) (fun (xs : Tup α) (i : Int) => atL (α := α) xs i) := by
  rintro xs i v w Hi H Q s ⟨p, vs, rfl, h1, h2⟩ rfl h
  obtain ⟨a, e, h⟩ := PX.ofO1 h
  obtain ⟨u, e1, r⟩ := h2.atI e
  exact ⟨p, vs, i, u, rfl, rfl, sqt_mono s h1, e1, h.here s _ r⟩
theorem ro_ixS : RO K E rIxS atT := by
  rintro x i v w Hi H Q s rfl rfl h
  obtain ⟨c, h⟩ := PX.chk h
  obtain ⟨a, e, h⟩ := PX.ofO h
  exact ⟨S x, i, a, rfl, rfl, by rw [S_length]; exact c, e, h.here s _ rfl⟩
theorem join_S (s : Tx) (xs : List Tx) : Txt.join (S s) (xs.map S) = S (joinL s xs) := by
  refine ext_tl ?_
  have e : (xs.map S).map tl = xs := by rw [List.map_map]; exact List.map_id' xs
  rw [join_eq, tl_join, tl_S, tl_S, e]
theorem lens_S (xs : List Tx) : ((xs.map S).map fun y : Str => y.length) = xs.map fun y : Tx => List.length y := by
  rw [List.map_map]
  exact List.map_congr_left fun a _ => S_length a
abbrev rJoin (K : Fg) : V → List V → Hp → VK → Prop := fun x xs H Q => ∃ a p, ∃ ys : List Str, x = .str a ∧ xs = [.ref p] ∧ (SqL K H p (ys.map V.str) ∨ SqT K H p (ys.map V.str)) ∧
    (ys.map (·.length)).sum + ys.length * a.length ≤ 16777216 ∧ Q (.str (Txt.join a ys)) H
def RM1 (K : Fg) (E : XK) {α β γ : Type} [Py α] [Py β] [Py γ] (r : V → List V → Hp → VK → Prop) (f : α → β → M γ) : Prop :=
  ∀ (x : α) (y : β) (v w : V) (Hi H : Hp) (Q : VK), Same Hi H → Py.rep K Hi x v → Py.rep K Hi y w → PV K E (f x y) Hi H Q → r v [w] H Q
def RM0 (K : Fg) (E : XK) {α β : Type} [Py α] [Py β] (r : V → List V → Hp → VK → Prop) (f : α → M β) : Prop :=
  ∀ (x : α) (v : V) (Hi H : Hp) (Q : VK), Same Hi H → Py.rep K Hi x v → PV K E (f x) Hi H Q → r v [] H Q
theorem join_core {x : Tx} {xs : List Tx} {p : Addr} {vs : List V} {Hi0 Hi H : Hp} {Q : VK} (s : Same Hi H) (h2 : Rl K Hi0 xs vs) (h : PV K E (joinM x xs) Hi H Q) (hs : SqL K H p vs ∨ SqT K H p vs) : rJoin K (.str (S x)) [.ref p] H Q := by
  obtain ⟨c, h⟩ := PX.chk h
  rw [h2.tx] at hs
  refine ⟨S x, p, xs.map S, rfl, rfl, hs, ?_, ?_⟩
  · show (List.map (fun y : Str => y.length) (List.map S xs)).sum + (List.map S xs).length * (S x).length ≤ 16777216
    rw [lens_S, List.length_map, S_length]; exact c
  · rw [join_S]; exact h.here s _ rfl
theorem rm_join : RM1 K E (rJoin K) joinM := by
  rintro x xs v w Hi H Q s rfl ⟨p, vs, rfl, h1, h2⟩ h
  exact join_core s h2 h (.inl (Same.seq s h1))
theorem rm_joinU : RM1 K E (rJoin K) (fun (s : Tx) (xs : Tup Tx) => joinM s xs) := by
  rintro x xs v w Hi H Q s rfl ⟨p, vs, rfl, h1, h2⟩ h
  exact join_core s h2 h (.inr (sqt_mono s h1))
theorem ra_lenL {α : Type} [Py α] : RA1 K E (fun xs H Q => ∃ p ys, xs = [.ref p] ∧ (SqL K H p ys ∨ SqT K H p ys) ∧ Q (.int ys.length) H) (fun xs : List α => (pure (xs.length : Int) : M Int)) := by
  rintro xs v Hi H Q s ⟨p, vs, rfl, h1, h2⟩ h
  exact ⟨p, vs, rfl, .inl (Same.seq s h1), h.here s _ (by rw [h2.length]; rfl)⟩
theorem ra_lenU {α : Type} [Py α] : RA1 K E (fun xs H Q => ∃ p ys, xs = [.ref p] ∧ (SqL K H p ys ∨ SqT K H p ys) ∧ Q (.int ys.length) H) (fun xs : Tup α => (pure ((List.length (α := α) xs : Nat) : Int) : M Int)) := by
  rintro xs v Hi H Q s ⟨p, vs, rfl, h1, h2⟩ h
  exact ⟨p, vs, rfl, .inr (sqt_mono s h1), h.here s _ (by rw [h2.length]; rfl)⟩
theorem ra_lenS : RA1 K E (fun xs H Q => ∃ z, xs = [.str z] ∧ z.length ≤ sizeLine ∧ Q (.int z.length) H) lenT := by
  rintro xs v Hi H Q s rfl h
  obtain ⟨c, h⟩ := PX.chk h
  exact ⟨S xs, rfl, by rw [S_length]; exact c, h.here s _ (by rw [S_length]; rfl)⟩
end

section
variable {X : Cx} {K : Fg} {mg : Str → Option Value} {b : Bs} {L : List En} {E : XK} {e e1 e2 e3 : Expr} {es : List Expr} {α β γ δ : Type} [Py α] [Py β] [Py γ] [Py δ] {m1 : M α} {m2 : M β} {m3 : M γ} {pos : Pos}
theorem je_var (i : Nat) {x : Str} {a : α} (hL : L[i]? = some (.im (rp K a))) (hN : X.N[i]? = some x := by rfl)
    (hv : Vis X.env.scope x := by first | exact Or.inl rfl | exact Or.inr (Or.inl rfl) | exact Or.inr (Or.inr rfl)) (hd : (x == ("__debug__" : Str)) = false := by decide)
    (hcd : (x == ("__classdict__" : Str)) = false := by decide) : JE X K b L E (.Name x pos) (pure a : M α) :=
  .of ⟨tVar i, pe_var hN hv hd hcd, fun σ Hi H en Q h => by
    obtain ⟨v, h1, h2⟩ := en.im i _ hL
    exact ⟨v, h1, h.here en.sub v h2⟩⟩
theorem je_int {i : Int} {j : Nat} : JE X K b L E (.Constant (.int i) j pos) (pure i : M Int) := .of ⟨tC (.int i), pe_int, fun σ Hi H en Q h => h.here en.sub _ rfl⟩
theorem je_bl {i : Bool} {j : Nat} : JE X K b L E (.Constant (.bool i) j pos) (pure i : M Bool) := .of ⟨tC (.bl i), pe_bl, fun σ Hi H en Q h => h.here en.sub _ rfl⟩
theorem je_non {j : Nat} : JE X K b L E (.Constant .none j pos) (pure none : M (Option α)) := .of ⟨tC .non, pe_non, fun σ Hi H en Q h => h.here en.sub _ rfl⟩
theorem je_unit {j : Nat} : JE X K b L E (.Constant .none j pos) (pure () : M Unit) := .of ⟨tC .non, pe_non, fun σ Hi H en Q h => h.here en.sub _ rfl⟩
theorem je_str {s : String} {j : Nat} : JE X K b L E (.Constant (.str (Str.ofString s)) j pos) (pure (tx s) : M Tx) := .of ⟨tC (.str (Str.ofString s)), pe_str, fun σ Hi H en Q h => h.here en.sub _ (by rw [← S_tx] <;> rfl)⟩
/-- a text of the module -/
theorem je_gstr {x : Str} {s : String} (hm : ∃ t, mg x = some (.str (Str.ofString s) t)) (hM : X.mg = mg := by rfl) (hg : Gl X x := by rfl) (hd : (x == ("__debug__" : Str)) = false := by decide) :
    JE X K b L E (.Name x pos) (pure (tx s) : M Tx) := by
  obtain ⟨t, hm⟩ := hm
  exact .of ⟨tC (.str (Str.ofString s)), pe_glob hg (by rw [hM]; exact hm) ⟨t, rfl⟩ hd, fun σ Hi H en Q h => h.here en.sub _ (by rw [← S_tx] <;> rfl)⟩
theorem je_gint {x : Str} {n : Int} (hm : ∃ t, mg x = some (.int n t)) (hM : X.mg = mg := by rfl) (hg : Gl X x := by rfl) (hd : (x == ("__debug__" : Str)) = false := by decide) :
    JE X K b L E (.Name x pos) (pure n : M Int) := by
  obtain ⟨t, hm⟩ := hm
  exact .of ⟨tC (.int n), pe_glob hg (by rw [hM]; exact hm) ⟨t, rfl⟩ hd, fun σ Hi H en Q h => h.here en.sub _ rfl⟩
/-- an object of the module -/
theorem je_gref {x : Str} {a : α} (hm : mg x = some (.ref (He.ga K x))) (hr : ∀ H, Py.rep K H a (.ref (He.ga K x))) (hM : X.mg = mg := by rfl) (hg : Gl X x := by rfl) (hd : (x == ("__debug__" : Str)) = false := by decide) :
    JE X K b L E (.Name x pos) (pure a : M α) :=
  .of ⟨tC (.ref (He.ga K x)), pe_glob hg (by rw [hM]; exact hm) rfl hd, fun σ Hi H en Q h => h.here en.sub _ (hr _)⟩

theorem tOp_ok {r : R2} {f : α → β → M γ} {ta tb : TE} (hr : RO K E r f) (p1 : ∀ σ Hi H, EnvOk b L σ Hi H → ∀ Q : VK, PV K E m1 Hi H Q → ta σ H Q) (p2 : ∀ σ Hi H, EnvOk b L σ Hi H → ∀ Q : VK, PV K E m2 Hi H Q → tb σ H Q) :
    ∀ σ Hi H, EnvOk b L σ Hi H → ∀ Q : VK, PV K E (m1 >>= fun x => m2 >>= fun y => f x y) Hi H Q → tOp r ta tb σ H Q := fun σ Hi H en Q h =>
  p1 σ Hi H en _ (h.bind.imp fun x Hi1 H1 n1 k v rv => p2 σ Hi1 H1 (en.nx n1) _ (k.bind.imp fun y Hi2 H2 n2 k2 w rw => hr x y v w Hi2 H2 Q n2.sub (Py.mono n2.im rv) rw k2))
theorem je_bin {op : Operator} {r : R2} {f : α → β → M γ} (ho : OpR X (binaryOp op) r) (hr : RO K E r f) (h1 : JE X K b L E e1 m1) (h2 : JE X K b L E e2 m2) : JE X K b L E (.BinOp e1 op e2 pos) (m1 >>= fun x => m2 >>= fun y => f x y) := by
  obtain ⟨t1, d1, p1⟩ := h1.ex
  obtain ⟨t2, d2, p2⟩ := h2.ex
  exact .of ⟨tOp r t1 t2, pe_op ho d1 d2, tOp_ok hr p1 p2⟩
theorem je_cmp {op : CmpOp} {r : R2} {f : α → β → M γ} (ho : OpR X (compareOp op) r) (hr : RO K E r f) (h1 : JE X K b L E e1 m1) (h2 : JE X K b L E e2 m2) (hm : behindInMarks op e2 = false := by first | exact nomark _ | rfl) :
    JE X K b L E (.Compare e1 [op] [e2] pos) (m1 >>= fun x => m2 >>= fun y => f x y) := by
  obtain ⟨t1, d1, p1⟩ := h1.ex
  obtain ⟨t2, d2, p2⟩ := h2.ex
  exact .of ⟨tOp r t1 t2, pe_cmpR ho d1 d2 hm, tOp_ok hr p1 p2⟩
theorem jt_cmp {op : CmpOp} {r : R2} {f : α → β → M Bool} (ho : OpR X (compareOp op) r) (hr : RO K E r f) (h1 : JE X K b L E e1 m1) (h2 : JE X K b L E e2 m2) (hm : behindInMarks op e2 = false := by first | exact nomark _ | rfl) :
    JT X K b L E (.Compare e1 [op] [e2] pos) (m1 >>= fun x => m2 >>= fun y => f x y) := by
  obtain ⟨t1, d1, p1⟩ := h1.ex
  obtain ⟨t2, d2, p2⟩ := h2.ex
  refine .of ⟨tTest (tOp r t1 t2), pt_cmpR ho d1 d2 hm, fun σ Hi H en Q h => tOp_ok hr p1 p2 σ Hi H en _ (h.imp fun c Hi' H' _ q v rv => ?_)⟩
  exact ⟨c, rv, q⟩
theorem je_ix {r : R2} {f : α → β → M γ} (ho : IxR X r) (hr : RO K E r f) (h1 : JE X K b L E e1 m1) (h2 : JE X K b L E e2 m2) (hs : PlainIx e2 := by exact fun _ _ => rfl) :
    JE X K b L E (.Subscript e1 e2 pos) (m1 >>= fun x => m2 >>= fun y => f x y) := by
  obtain ⟨t1, d1, p1⟩ := h1.ex
  obtain ⟨t2, d2, p2⟩ := h2.ex
  exact .of ⟨tOp r t1 t2, pe_ix ho d1 d2 hs, tOp_ok hr p1 p2⟩
theorem tChain_ok {r r' : R2} {f : α → β → M Bool} {f' : β → γ → M Bool} {ta tb tc : TE} (hr : RO K E r f) (hr' : RO K E r' f') (p1 : ∀ σ Hi H, EnvOk b L σ Hi H → ∀ Q : VK, PV K E m1 Hi H Q → ta σ H Q)
    (p2 : ∀ σ Hi H, EnvOk b L σ Hi H → ∀ Q : VK, PV K E m2 Hi H Q → tb σ H Q) (p3 : ∀ σ Hi H, EnvOk b L σ Hi H → ∀ Q : VK, PV K E m3 Hi H Q → tc σ H Q) :
    ∀ σ Hi H, EnvOk b L σ Hi H → ∀ Q : VK, PV K E (m1 >>= fun x => m2 >>= fun y => f x y >>= fun c => if c = true then m3 >>= fun z => f' y z else pure false) Hi H Q → tChain r r' ta tb tc σ H Q := fun σ Hi H en Q h =>
  p1 σ Hi H en _ (h.bind.imp fun x Hi1 H1 n1 k v rv => p2 σ Hi1 H1 (en.nx n1) _ (k.bind.imp fun y Hi2 H2 n2 k2 w rw => hr x y v w Hi2 H2 _ n2.sub (Py.mono n2.im rv) rw (k2.bind.imp fun c Hi3 H3 n3 k3 u ru => by
    refine ⟨c, ru, ?_⟩
    cases c with
    | true =>
      rw [if_pos rfl] at k3 ⊢
      exact p3 σ Hi3 H3 (((en.nx n1).nx n2).nx n3) _ (k3.bind.imp fun z Hi4 H4 n4 k4 u2 ru2 => hr' y z w u2 Hi4 H4 Q n4.sub (Py.mono (n3.im.trans n4.im) rw) ru2 k4)
    | false =>
      rw [if_neg Bool.false_ne_true] at k3 ⊢
      exact k3.here n3.sub _ rfl)))
theorem je_chain {op op' : CmpOp} {r r' : R2} {f : α → β → M Bool} {f' : β → γ → M Bool} (ho : OpR X (compareOp op) r) (hr : RO K E r f) (ho' : OpR X (compareOp op') r') (hr' : RO K E r' f') (h1 : JE X K b L E e1 m1) (h2 : JE X K b L E e2 m2) (h3 : JE X K b L E e3 m3)
    (hm : lastMarks [op, op'] [e2, e3] = false := by with_unfolding_all rfl) : JE X K b L E (.Compare e1 [op, op'] [e2, e3] pos) (m1 >>= fun x => m2 >>= fun y => f x y >>= fun c => if c = true then m3 >>= fun z => f' y z else pure false) := by
  obtain ⟨t1, d1, p1⟩ := h1.ex
  obtain ⟨t2, d2, p2⟩ := h2.ex
  obtain ⟨t3, d3, p3⟩ := h3.ex
  exact .of ⟨tChain r r' t1 t2 t3, pe_chain ho ho' d1 d2 d3 hm, tChain_ok hr hr' p1 p2 p3⟩
theorem jt_chain {op op' : CmpOp} {r r' : R2} {f : α → β → M Bool} {f' : β → γ → M Bool} (ho : OpR X (compareOp op) r) (hr : RO K E r f) (ho' : OpR X (compareOp op') r') (hr' : RO K E r' f') (h1 : JE X K b L E e1 m1) (h2 : JE X K b L E e2 m2) (h3 : JE X K b L E e3 m3)
    (hm : lastMarks [op, op'] [e2, e3] = false := by with_unfolding_all rfl) : JT X K b L E (.Compare e1 [op, op'] [e2, e3] pos) (m1 >>= fun x => m2 >>= fun y => f x y >>= fun c => if c = true then m3 >>= fun z => f' y z else pure false) := by
  obtain ⟨t1, d1, p1⟩ := h1.ex
  obtain ⟨t2, d2, p2⟩ := h2.ex
  obtain ⟨t3, d3, p3⟩ := h3.ex
  refine .of ⟨tTest (tChain r r' t1 t2 t3), pt_chain ho ho' d1 d2 d3 hm, fun σ Hi H en Q h => tChain_ok hr hr' p1 p2 p3 σ Hi H en _ (h.imp fun c Hi' H' _ q v rv => ?_)⟩
  exact ⟨c, rv, q⟩

/-! tests, and, or, not -/
theorem jt_val {m : M Bool} (h : JE X K b L E e m) (he : ∀ whole, isTrue e X.env whole = (do let v ← whole; standAt e.pos; holding [v] (truthy v)) := by intro _; rfl) : JT X K b L E e m := by
  obtain ⟨t, d, p⟩ := h.ex
  refine .of ⟨tB t, pt_val d he, fun σ Hi H en Q h => p σ Hi H en _ (h.imp fun c Hi' H' _ q v rv => ⟨c, rv, q⟩)⟩
theorem jw_jt {m : M Bool} (h : JW X K b L E e m) : JT X K b L E e m := by
  obtain ⟨t, d, p⟩ := h.ex
  exact .of ⟨t, d.pt, p⟩
variable {ma mb : M Bool} {rest : List Expr}
theorem jt_not (h : JT X K b L E e ma) : JT X K b L E (.UnaryOp .Not e pos) (ma >>= fun c => pure (!c)) := by
  obtain ⟨t, d, p⟩ := h.ex
  exact .of ⟨tNot t, pt_not d, fun σ Hi H en Q h => p σ Hi H en _ (h.bind.imp fun c Hi' H' n q => q.here n.sub)⟩
theorem jw_and1 (h : JT X K b L E e ma) : JW X K b L E (.BoolOp .And [e] pos) ma := by
  obtain ⟨t, d, p⟩ := h.ex
  exact .of ⟨t, pw_and1 d, p⟩
theorem jw_or1 (h : JT X K b L E e ma) : JW X K b L E (.BoolOp .Or [e] pos) ma := by
  obtain ⟨t, d, p⟩ := h.ex
  exact .of ⟨t, pw_or1 d, p⟩
theorem jw_and (h : JT X K b L E e1 ma) (h2 : JW X K b L E (.BoolOp .And (e2 :: rest) pos) mb) : JW X K b L E (.BoolOp .And (e1 :: e2 :: rest) pos) (ma >>= fun c => if c = true then mb else pure false) := by
  obtain ⟨t, d, p⟩ := h.ex
  obtain ⟨t2, d2, p2⟩ := h2.ex
  refine .of ⟨tAnd t t2, pw_and d d2, fun σ Hi H en Q h => p σ Hi H en _ (h.bind.imp fun c Hi' H' n q => ?_)⟩
  cases c with
  | true =>
    rw [if_pos rfl] at q ⊢
    exact p2 σ Hi' H' (en.nx n) Q q
  | false =>
    rw [if_neg Bool.false_ne_true] at q ⊢
    exact q.here n.sub
theorem jw_or (h : JT X K b L E e1 ma) (h2 : JW X K b L E (.BoolOp .Or (e2 :: rest) pos) mb) : JW X K b L E (.BoolOp .Or (e1 :: e2 :: rest) pos) (ma >>= fun c => if c = true then pure true else mb) := by
  obtain ⟨t, d, p⟩ := h.ex
  obtain ⟨t2, d2, p2⟩ := h2.ex
  refine .of ⟨tOr t t2, pw_or d d2, fun σ Hi H en Q h => p σ Hi H en _ (h.bind.imp fun c Hi' H' n q => ?_)⟩
  cases c with
  | true =>
    rw [if_pos rfl] at q ⊢
    exact q.here n.sub
  | false =>
    rw [if_neg Bool.false_ne_true] at q ⊢
    exact p2 σ Hi' H' (en.nx n) Q q
theorem je_one {op : BoolOp} (h : JE X K b L E e ma) : JE X K b L E (.BoolOp op [e] pos) ma := by
  obtain ⟨t, d, p⟩ := h.ex
  exact .of ⟨t, pe_one d, p⟩
theorem je_and (h : JE X K b L E e1 ma) (h2 : JE X K b L E (.BoolOp .And (e2 :: rest) pos) mb) : JE X K b L E (.BoolOp .And (e1 :: e2 :: rest) pos) (ma >>= fun c => if c = true then mb else pure false) := by
  obtain ⟨t, d, p⟩ := h.ex
  obtain ⟨t2, d2, p2⟩ := h2.ex
  refine .of ⟨tAndV t t2, pe_and d d2, fun σ Hi H en Q h => p σ Hi H en _ (h.bind.imp fun c Hi' H' n q v rv => ⟨c, rv, ?_⟩)⟩
  cases c with
  | true =>
    rw [if_pos rfl] at q ⊢
    exact p2 σ Hi' H' (en.nx n) Q q
  | false =>
    rw [if_neg Bool.false_ne_true] at q ⊢
    exact q.here n.sub _ rfl
theorem je_or (h : JE X K b L E e1 ma) (h2 : JE X K b L E (.BoolOp .Or (e2 :: rest) pos) mb) : JE X K b L E (.BoolOp .Or (e1 :: e2 :: rest) pos) (ma >>= fun c => if c = true then pure true else mb) := by
  obtain ⟨t, d, p⟩ := h.ex
  obtain ⟨t2, d2, p2⟩ := h2.ex
  refine .of ⟨tOrV t t2, pe_or d d2, fun σ Hi H en Q h => p σ Hi H en _ (h.bind.imp fun c Hi' H' n q v rv => ⟨c, rv, ?_⟩)⟩
  cases c with
  | true =>
    rw [if_pos rfl] at q ⊢
    exact q.here n.sub _ rfl
  | false =>
    rw [if_neg Bool.false_ne_true] at q ⊢
    exact p2 σ Hi' H' (en.nx n) Q q
theorem je_not (h : JE X K b L E e ma) : JE X K b L E (.UnaryOp .Not e pos) (ma >>= fun c => pure (!c)) := by
  obtain ⟨t, d, p⟩ := h.ex
  exact .of ⟨tNotV t, pe_not d, fun σ Hi H en Q h => p σ Hi H en _ (h.bind.imp fun c Hi' H' n q v rv => ⟨c, rv, q.here n.sub _ rfl⟩)⟩
theorem je_neg {m : M Int} (h : JE X K b L E e m) : JE X K b L E (.UnaryOp .USub e pos) (m >>= fun i => pure (-i)) := by
  obtain ⟨t, d, p⟩ := h.ex
  exact .of ⟨tUn (rU fun i => .int (-i)) t, pe_un un_neg d, fun σ Hi H en Q h => p σ Hi H en _ (h.bind.imp fun c Hi' H' n q v rv => ⟨c, rv, q.here n.sub _ rfl⟩)⟩
theorem je_if {mc : M Bool} {m n : M α} (h : JT X K b L E e mc) (h1 : JE X K b L E e1 m) (h2 : JE X K b L E e2 n) : JE X K b L E (.IfExp e e1 e2 pos) (mc >>= fun c => if c = true then m else n) := by
  obtain ⟨t, d, p⟩ := h.ex
  obtain ⟨t1, d1, p1⟩ := h1.ex
  obtain ⟨t2, d2, p2⟩ := h2.ex
  refine .of ⟨tIf t t1 t2, pe_ifExp d d1 d2, fun σ Hi H en Q h => p σ Hi H en _ (h.bind.imp fun c Hi' H' n q => ?_)⟩
  cases c with
  | true =>
    rw [if_pos rfl] at q ⊢
    exact p1 σ Hi' H' (en.nx n) Q q
  | false =>
    rw [if_neg Bool.false_ne_true] at q ⊢
    exact p2 σ Hi' H' (en.nx n) Q q

/-! displays -/
theorem jl_nil : JL X K b L E [] (pure [] : M (List α)) := .of ⟨tNil, pa_nil, fun σ Hi H en Q h => h.here en.sub [] .nil⟩ fun xs h => by cases h; rfl
theorem jl_cons {m : M α} {mr : M (List α)} (h : JE X K b L E e m) (hr : JL X K b L E es mr) (hs : starEach (e :: es) X.env = (false, eval e X.env) :: starEach es X.env := by rfl) :
    JL X K b L E (e :: es) (m >>= fun x => mr >>= fun r => pure (x :: r)) := by
  obtain ⟨t, d, p⟩ := h.ex
  obtain ⟨t2, d2, p2⟩ := hr.ex
  have l2 := hr.len
  refine .of ⟨tCons t t2, pa_cons d d2 hs, fun σ Hi H en Q h => p σ Hi H en _ (h.bind.imp fun x Hi1 H1 n1 k v rv => p2 σ Hi1 H1 (en.nx n1) _ (k.bind.imp fun r Hi2 H2 n2 k2 vs rvs => ?_))⟩ fun xs h => ?_
  · exact k2.here n2.sub _ (.cons (Py.mono n2.im rv) rvs)
  · cases m with
    | error z => cases h
    | ok x =>
      cases mr with
      | error z => cases h
      | ok r =>
        have e : x :: r = xs := by cases h; rfl
        rw [← e, List.length_cons, List.length_cons, l2 r rfl]
theorem je_lst {m : M (List α)} (h : JL X K b L E es m) (hl : es.length ≤ 1000 := by decide) : JE X K b L E (.List es pos) m := by
  obtain ⟨t, d, p⟩ := h.ex
  have l := h.len
  refine .of ⟨tLst t, pe_lst d, fun σ Hi H en Q h => p σ Hi H en _ (?_)⟩
  cases m with
  | error z => cases z with
    | rs c => exact h
    | st => exact h
  | ok xs =>
    refine fun Hi1 H1 n1 vs rvs => ⟨?_, fun q hq => (PX.go (a := xs) h (n1.trans (Nx.new n1.sub hq))) _ ⟨q, vs, rfl, .of upd_same, rvs.mono (same_new (hi_none n1.sub hq))⟩⟩
    rw [← rvs.length, l xs rfl]
    exact Nat.le_trans hl (by decide)
theorem je_tupU {m : M (List α)} (h : JL X K b L E es m) (hl : es.length ≤ 1000 := by decide) : JE X K b L E (.Tuple es x1 pos) (m >>= fun xs => (pure xs : M (Tup α))) := by
  obtain ⟨t, d, p⟩ := h.ex
  have l := h.len
  refine .of ⟨tTup t, pe_tup d, fun σ Hi H en Q h => p σ Hi H en _ (?_)⟩
  cases m with
  | error z => cases z with
    | rs c => exact h
    | st => exact h
  | ok xs =>
    refine fun Hi1 H1 n1 vs rvs => ⟨?_, fun q hq => (PX.go (α := Tup α) (a := xs) h (n1.trans (Nx.new n1.sub hq))) _ ⟨q, vs, rfl, .of upd_same, rvs.mono (same_new (hi_none n1.sub hq))⟩⟩
    rw [← rvs.length, l xs rfl]
    exact Nat.le_trans hl (by decide)
theorem je_pair (h1 : JE X K b L E e1 m1) (h2 : JE X K b L E e2 m2) (hs : starEach [e1, e2] X.env = (false, eval e1 X.env) :: starEach [e2] X.env := by rfl) (hs2 : starEach [e2] X.env = (false, eval e2 X.env) :: starEach [] X.env := by rfl) :
    JE X K b L E (.Tuple [e1, e2] x1 pos) (m1 >>= fun x => m2 >>= fun y => pure (x, y)) := by
  obtain ⟨t1, d1, p1⟩ := h1.ex
  obtain ⟨t2, d2, p2⟩ := h2.ex
  refine .of ⟨tTup (tCons t1 (tCons t2 tNil)), pe_tup (pa_cons d1 (pa_cons d2 pa_nil hs2) hs), fun σ Hi H en Q h => p1 σ Hi H en _ (h.bind.imp fun x Hi1 H1 n1 k v rv => p2 σ Hi1 H1 (en.nx n1) _ (k.bind.imp fun y Hi2 H2 n2 k2 w rw => ⟨by show 2 ≤ sizeLine; decide, fun q hq => ?_⟩))⟩
  have sm := same_new (o := .tup [v, w]) (hi_none n2.sub hq)
  exact k2.go (Nx.new n2.sub hq) _ ⟨q, v, w, rfl, .of upd_same, Py.mono (n2.im.trans sm) rv, Py.mono sm rw⟩
theorem je_tri (h1 : JE X K b L E e1 m1) (h2 : JE X K b L E e2 m2) (h3 : JE X K b L E e3 m3) (hs : starEach [e1, e2, e3] X.env = (false, eval e1 X.env) :: starEach [e2, e3] X.env := by rfl)
    (hs2 : starEach [e2, e3] X.env = (false, eval e2 X.env) :: starEach [e3] X.env := by rfl) (hs3 : starEach [e3] X.env = (false, eval e3 X.env) :: starEach [] X.env := by rfl) :
    JE X K b L E (.Tuple [e1, e2, e3] x1 pos) (m1 >>= fun x => m2 >>= fun y => m3 >>= fun z => pure (T3.mk x y z)) := by
  obtain ⟨t1, d1, p1⟩ := h1.ex
  obtain ⟨t2, d2, p2⟩ := h2.ex
  obtain ⟨t3, d3, p3⟩ := h3.ex
  refine .of ⟨tTup (tCons t1 (tCons t2 (tCons t3 tNil))), pe_tup (pa_cons d1 (pa_cons d2 (pa_cons d3 pa_nil hs3) hs2) hs), fun σ Hi H en Q h => p1 σ Hi H en _ (h.bind.imp fun x Hi1 H1 n1 k v rv => p2 σ Hi1 H1 (en.nx n1) _
    (k.bind.imp fun y Hi2 H2 n2 k2 w rw => p3 σ Hi2 H2 ((en.nx n1).nx n2) _ (k2.bind.imp fun z Hi3 H3 n3 k3 u ru => ⟨by show 3 ≤ sizeLine; decide, fun q hq => ?_⟩)))⟩
  have sm := same_new (o := .tup [v, w, u]) (hi_none n3.sub hq)
  exact k3.go (Nx.new n3.sub hq) _ ⟨q, v, w, u, rfl, .of upd_same, Py.mono ((n2.im.trans n3.im).trans sm) rv, Py.mono (n3.im.trans sm) rw, Py.mono sm ru⟩
/-! places of a pair, a triple -/
theorem at2 {v w : V} : atI [v, w] 0 = some v ∧ atI [v, w] 1 = some w := ⟨rfl, rfl⟩
theorem je_p0 {m : M (α × β)} {j : Nat} {p2 : Pos} (h : JE X K b L E e m) (hK : X.K = K := by rfl) : JE X K b L E (.Subscript e (.Constant (.int 0) j p2) pos) (m >>= fun x => pure x.1) := by
  obtain ⟨t, d, p⟩ := h.ex
  refine .of ⟨tOp (rIxT K) t (tC (.int 0)), pe_ix (by rw [← hK]; exact ix_tup) d pe_int (fun _ _ => rfl), fun σ Hi H en Q h => p σ Hi H en _ (h.bind.imp fun x Hi1 H1 n1 k v rv => ?_)⟩
  obtain ⟨q, v1, v2, rfl, g1, g2, g3⟩ := rv
  exact ⟨q, _, 0, v1, rfl, rfl, sqt_mono n1.sub g1, rfl, k.here n1.sub _ g2⟩
theorem je_p1 {m : M (α × β)} {j : Nat} {p2 : Pos} (h : JE X K b L E e m) (hK : X.K = K := by rfl) : JE X K b L E (.Subscript e (.Constant (.int 1) j p2) pos) (m >>= fun x => pure x.2) := by
  obtain ⟨t, d, p⟩ := h.ex
  refine .of ⟨tOp (rIxT K) t (tC (.int 1)), pe_ix (by rw [← hK]; exact ix_tup) d pe_int (fun _ _ => rfl), fun σ Hi H en Q h => p σ Hi H en _ (h.bind.imp fun x Hi1 H1 n1 k v rv => ?_)⟩
  obtain ⟨q, v1, v2, rfl, g1, g2, g3⟩ := rv
  exact ⟨q, _, 1, v2, rfl, rfl, sqt_mono n1.sub g1, rfl, k.here n1.sub _ g3⟩
theorem je_t0 {m : M (T3 α β γ)} {j : Nat} {p2 : Pos} (h : JE X K b L E e m) (hK : X.K = K := by rfl) : JE X K b L E (.Subscript e (.Constant (.int 0) j p2) pos) (m >>= fun x => pure x.a) := by
  obtain ⟨t, d, p⟩ := h.ex
  refine .of ⟨tOp (rIxT K) t (tC (.int 0)), pe_ix (by rw [← hK]; exact ix_tup) d pe_int (fun _ _ => rfl), fun σ Hi H en Q h => p σ Hi H en _ (h.bind.imp fun x Hi1 H1 n1 k v rv => ?_)⟩
  obtain ⟨q, v1, v2, v3, rfl, g1, g2, g3, g4⟩ := rv
  exact ⟨q, _, 0, v1, rfl, rfl, sqt_mono n1.sub g1, rfl, k.here n1.sub _ g2⟩
theorem je_t1 {m : M (T3 α β γ)} {j : Nat} {p2 : Pos} (h : JE X K b L E e m) (hK : X.K = K := by rfl) : JE X K b L E (.Subscript e (.Constant (.int 1) j p2) pos) (m >>= fun x => pure x.b) := by
  obtain ⟨t, d, p⟩ := h.ex
  refine .of ⟨tOp (rIxT K) t (tC (.int 1)), pe_ix (by rw [← hK]; exact ix_tup) d pe_int (fun _ _ => rfl), fun σ Hi H en Q h => p σ Hi H en _ (h.bind.imp fun x Hi1 H1 n1 k v rv => ?_)⟩
  obtain ⟨q, v1, v2, v3, rfl, g1, g2, g3, g4⟩ := rv
  exact ⟨q, _, 1, v2, rfl, rfl, sqt_mono n1.sub g1, rfl, k.here n1.sub _ g3⟩
theorem je_t2 {m : M (T3 α β γ)} {j : Nat} {p2 : Pos} (h : JE X K b L E e m) (hK : X.K = K := by rfl) : JE X K b L E (.Subscript e (.Constant (.int 2) j p2) pos) (m >>= fun x => pure x.c) := by
  obtain ⟨t, d, p⟩ := h.ex
  refine .of ⟨tOp (rIxT K) t (tC (.int 2)), pe_ix (by rw [← hK]; exact ix_tup) d pe_int (fun _ _ => rfl), fun σ Hi H en Q h => p σ Hi H en _ (h.bind.imp fun x Hi1 H1 n1 k v rv => ?_)⟩
  obtain ⟨q, v1, v2, v3, rfl, g1, g2, g3, g4⟩ := rv
  exact ⟨q, _, 2, v3, rfl, rfl, sqt_mono n1.sub g1, rfl, k.here n1.sub _ g4⟩

/-! slices -/
theorem jo_no : JO X K b L E none (pure none) := .of ⟨tNoPart, po_none, fun σ Hi H en Q h => h.here en.sub⟩
theorem jo_at {m : M Int} (h : JE X K b L E e m) : JO X K b L E (some e) (m >>= fun i => pure (some i)) := by
  obtain ⟨t, d, p⟩ := h.ex
  exact .of ⟨tPart t, po_some d, fun σ Hi H en Q h => p σ Hi H en _ (h.bind.imp fun i Hi' H' n q v rv => ⟨i, rv, q.here n.sub⟩)⟩
variable {lo hi : Option Expr} {ml mh : M (Option Int)} {p2 : Pos}
theorem je_slL {m : M (List α)} (h : JE X K b L E e m) (hl : JO X K b L E lo ml) (hh : JO X K b L E hi mh) (hK : X.K = K := by rfl) :
    JE X K b L E (.Subscript e (.Slice lo hi none p2) pos) (m >>= fun xs => ml >>= fun l => mh >>= fun u => pure (cut xs l u)) := by
  obtain ⟨t, d, p⟩ := h.ex
  obtain ⟨t1, d1, p1⟩ := hl.ex
  obtain ⟨t2, d2, p2⟩ := hh.ex
  refine .of ⟨tSl (rSlL K) t t1 t2, pe_slice (by rw [← hK]; exact sl_list) d d1 d2, fun σ Hi H en Q h => p σ Hi H en _ (h.bind.imp fun xs Hi1 H1 n1 k v rv => p1 σ Hi1 H1 (en.nx n1) _ (k.bind.imp fun l Hi2 H2 n2 k2 => p2 σ Hi2 H2 ((en.nx n1).nx n2) _ (k2.bind.imp fun u Hi3 H3 n3 k3 => ?_)))⟩
  obtain ⟨q, vs, rfl, g1, g2⟩ := rv
  have s3 := (n2.im.trans n3.im)
  refine ⟨q, vs, rfl, Same.seq (s3.trans n3.sub) g1, fun r hr => k3.go (Nx.new n3.sub hr) _ ⟨r, _, rfl, .of upd_same, ?_⟩⟩
  exact ((g2.mono s3).cut l u).mono (same_new (hi_none n3.sub hr))
theorem je_slS {m : M Tx} (h : JE X K b L E e m) (hl : JO X K b L E lo ml) (hh : JO X K b L E hi mh) :
    JE X K b L E (.Subscript e (.Slice lo hi none p2) pos) (m >>= fun xs => ml >>= fun l => mh >>= fun u => cutT xs l u) := by
  obtain ⟨t, d, p⟩ := h.ex
  obtain ⟨t1, d1, p1⟩ := hl.ex
  obtain ⟨t2, d2, p2⟩ := hh.ex
  refine .of ⟨tSl rSlS t t1 t2, pe_slice sl_str d d1 d2, fun σ Hi H en Q h => p σ Hi H en _ (h.bind.imp fun xs Hi1 H1 n1 k v rv => p1 σ Hi1 H1 (en.nx n1) _ (k.bind.imp fun l Hi2 H2 n2 k2 => p2 σ Hi2 H2 ((en.nx n1).nx n2) _ (k2.bind.imp fun u Hi3 H3 n3 k3 => ?_)))⟩
  obtain ⟨c, k4⟩ := PX.chk k3
  refine ⟨S xs, rv, by rw [S_length]; exact c, k4.here n3.sub _ ?_⟩
  refine congrArg V.str ?_
  unfold cutS
  rw [S_length]
  rfl

/-! calls of built-ins, methods of texts -/
theorem je_callB {id : String} {x : Str} {r : List V → Hp → VK → Prop} {f : α → M β} {p : Pos} (hc : CallR X (.builtin id) r) (hr : RA1 K E r f) (hm : mg x = none) (hv : bootBuiltins x = some (.builtin id)) (h : JE X K b L E e m1) (hM : X.mg = mg := by rfl)
    (hg : Gl X x := by rfl) (hn : x ≠ "__name__" := by decide) (hdb : (x == ("__debug__" : Str)) = false := by decide)
    (he : starEach [e] X.env = (false, eval e X.env) :: starEach [] X.env := by rfl) (hpl : (backTo pos (starEach [] X.env)).any (·.1) = false := by rfl) : JE X K b L E (.Call (.Name x p) [e] [] pos) (m1 >>= fun a => f a) := by
  obtain ⟨t, d, q⟩ := h.ex
  refine .of ⟨tCB r (tCons t tNil), pe_callB hc hg (by rw [hM]; exact hm) hv (pa_cons d pa_nil he) hn hdb he hpl, fun σ Hi H en Q h => q σ Hi H en _ (h.bind.imp fun a Hi1 H1 n1 k v rv => ?_)⟩
  exact hr a v Hi1 H1 Q n1.sub rv k
theorem je_callB2 {id : String} {x : Str} {r : List V → Hp → VK → Prop} {f : α → β → M γ} {p : Pos} (hc : CallR X (.builtin id) r) (hr : RA2 K E r f) (hm : mg x = none) (hv : bootBuiltins x = some (.builtin id)) (h1 : JE X K b L E e1 m1) (h2 : JE X K b L E e2 m2) (hM : X.mg = mg := by rfl)
    (hg : Gl X x := by rfl) (hn : x ≠ "__name__" := by decide) (hdb : (x == ("__debug__" : Str)) = false := by decide)
    (he : starEach [e1, e2] X.env = (false, eval e1 X.env) :: starEach [e2] X.env := by rfl) (he2 : starEach [e2] X.env = (false, eval e2 X.env) :: starEach [] X.env := by rfl)
    (hpl : (backTo pos (starEach [e2] X.env)).any (·.1) = false := by rfl) : JE X K b L E (.Call (.Name x p) [e1, e2] [] pos) (m1 >>= fun a => m2 >>= fun c => f a c) := by
  obtain ⟨t, d, q⟩ := h1.ex
  obtain ⟨t2, d2, q2⟩ := h2.ex
  refine .of ⟨tCB r (tCons t (tCons t2 tNil)), pe_callB hc hg (by rw [hM]; exact hm) hv (pa_cons d (pa_cons d2 pa_nil he2) he) hn hdb he hpl, fun σ Hi H en Q h => q σ Hi H en _ (h.bind.imp fun a Hi1 H1 n1 k v rv => q2 σ Hi1 H1 (en.nx n1) _ (k.bind.imp fun c Hi2 H2 n2 k2 w rw => ?_))⟩
  exact hr a c v w Hi2 H2 Q n2.sub (Py.mono n2.im rv) rw k2
theorem je_callTy {T : String} {x : Str} {r : List V → Hp → VK → Prop} {f : α → M β} {p : Pos} (hc : CallR X (.type T) r) (hr : RA1 K E r f) (hm : mg x = none) (hv : bootBuiltins x = some (.type T)) (h : JE X K b L E e m1) (hM : X.mg = mg := by rfl)
    (hg : Gl X x := by rfl) (hn : x ≠ "__name__" := by decide) (hdb : (x == ("__debug__" : Str)) = false := by decide)
    (he : starEach [e] X.env = (false, eval e X.env) :: starEach [] X.env := by rfl) (hpl : (backTo pos (starEach [] X.env)).any (·.1) = false := by rfl) : JE X K b L E (.Call (.Name x p) [e] [] pos) (m1 >>= fun a => f a) := by
  obtain ⟨t, d, q⟩ := h.ex
  refine .of ⟨tCB r (tCons t tNil), pe_callTy hc hg (by rw [hM]; exact hm) hv (pa_cons d pa_nil he) hn hdb he hpl, fun σ Hi H en Q h => q σ Hi H en _ (h.bind.imp fun a Hi1 H1 n1 k v rv => ?_)⟩
  exact hr a v Hi1 H1 Q n1.sub rv k
theorem je_m1 {id : String} {name : Str} {apos : Pos} {r : V → List V → Hp → VK → Prop} {f : Tx → β → M γ} {m : M Tx} (slot : Slot "str" name id) (ty : typeOf (.builtin id) = pure (.type "method_descriptor")) (rule : MtR X id r) (hr : RM1 K E r f) (ho : JE X K b L E e1 m) (he : JE X K b L E e2 m2)
    (hs : starEach [e2] X.env = [(false, eval e2 X.env)] := by rfl) (hbase : attributeBase e1 name X.env (eval e1 X.env) = eval e1 X.env := by rfl) (hline : (apos.endLine == pos.line) = true := by rfl) :
    JE X K b L E (.Call (.Attribute e1 name apos) [e2] [] pos) (m >>= fun x => m2 >>= fun y => f x y) := by
  obtain ⟨t, d, q⟩ := ho.ex
  obtain ⟨t2, d2, q2⟩ := he.ex
  refine .of ⟨tM1 r t t2, pe_m1 slot ty rule d d2 hs hbase hline, fun σ Hi H en Q h => q σ Hi H en _ (h.bind.imp fun a Hi1 H1 n1 k v rv => ⟨⟨_, rv⟩, q2 σ Hi1 H1 (en.nx n1) _ (k.bind.imp fun c Hi2 H2 n2 k2 w rw => ?_)⟩)⟩
  exact hr a c v w Hi2 H2 Q n2.sub (Py.mono n2.im rv) rw k2
theorem je_m0 {id : String} {name : Str} {apos : Pos} {r : V → List V → Hp → VK → Prop} {f : Tx → M γ} {m : M Tx} (slot : Slot "str" name id) (ty : typeOf (.builtin id) = pure (.type "method_descriptor")) (rule : MtR X id r) (hr : RM0 K E r f) (ho : JE X K b L E e1 m)
    (hbase : attributeBase e1 name X.env (eval e1 X.env) = eval e1 X.env := by rfl) (hline : (apos.endLine == pos.line) = true := by rfl) :
    JE X K b L E (.Call (.Attribute e1 name apos) [] [] pos) (m >>= fun x => f x) := by
  obtain ⟨t, d, q⟩ := ho.ex
  refine .of ⟨tM0 r t, pe_m0 slot ty rule d hbase hline, fun σ Hi H en Q h => q σ Hi H en _ (h.bind.imp fun a Hi1 H1 n1 k v rv => ⟨⟨_, rv⟩, ?_⟩)⟩
  exact hr a v Hi1 H1 Q n1.sub rv k
end
end G

set_option Elab.async false
set_option linter.all false
set_option maxRecDepth 100000
set_option maxHeartbeats 2000000
namespace G
open PySem L2 TL

/-! ### statements -/
def PZ (K : Fg) (E : XK) (b : Bs) {α : Type} (m : M α) (post : α → Prop) : Prop := match m with
  | .ok a => post a
  | .error (.rs c) => ∀ Hi' H', Ok b Hi' H' → E (.ref (He.ga K c)) none H'
  | .error .st => False
section
variable {K : Fg} {E : XK} {b : Bs} {L : List En} {σ : L2.St} {Hi H : Hp} {α β : Type} {m : M α} {f : α → M β}
theorem PZ.bind {post : β → Prop} (en : EnvOk b L σ Hi H) (h : PZ K E b (m >>= f) post) : PX K E m Hi H fun a _ _ => PZ K E b (f a) post := by
  cases m with
  | ok a => exact fun _ _ _ => h
  | error e =>
    cases e with
    | rs c => exact fun _ _ y => h _ _ (en.nx y).ok
    | st => exact h
theorem PZ.bindz {post : β → Prop} (h : PZ K E b (m >>= f) post) : PZ K E b m fun a => PZ K E b (f a) post := by
  cases m with
  | ok a => exact h
  | error e => cases e <;> exact h
theorem PZ.imp {post post' : α → Prop} (h : PZ K E b m post) (i : ∀ a, post a → post' a) : PZ K E b m post' := by
  cases m with
  | ok a => exact i a h
  | error e => cases e <;> exact h
theorem PZ.px {post : α → Prop} (en : EnvOk b L σ Hi H) (h : PZ K E b m post) : PX K E m Hi H fun a _ _ => post a := by
  cases m with
  | ok a => exact fun _ _ _ => h
  | error e =>
    cases e with
    | rs c => exact fun _ _ y => h _ _ (en.nx y).ok
    | st => exact h
theorem PZ.chk {p : Prop} [Decidable p] {g : Unit → M β} {post : β → Prop} (h : PZ K E b (G.chk p >>= g) post) : p ∧ PZ K E b (g ()) post := by
  unfold G.chk at h
  by_cases hp : p
  · rw [if_pos hp] at h; exact ⟨hp, h⟩
  · rw [if_neg hp] at h; exact h.elim
end
structure J1 (X : Cx) (K : Fg) (b : Bs) (L : List En) (E : XK) (st : Stmt) {S : Type} (m : M S) (Lf : S → List En) : Prop where
  go : ∀ σ Hi H, EnvOk b L σ Hi H → ∀ D : Ends, PZ K E b m (fun s => ∀ σ' Hi' H', EnvOk b (Lf s) σ' Hi' H' → D.nx σ' H') → wpS X st D σ H
structure JS (X : Cx) (K : Fg) (b : Bs) (L : List En) (E : XK) (ss : List Stmt) (tl : Ends → Prop) {α : Type} (m : M α) (post : α → Ends → Prop) : Prop where
  go : ∀ σ Hi H, EnvOk b L σ Hi H → ∀ D : Ends, tl D → PZ K E b m (fun a => post a D) → wpB X ss D σ H
/-- what ends a loop's turn -/
inductive Tl (S R : Type) where
  | ct (s : S)
  | bk (s : S)
  | rt (r : R)
abbrev tlAny : Ends → Prop := fun _ => True
abbrev tlFn : Ends → Prop := fun D => ∀ σ H, D.rt .non H → D.nx σ H
abbrev tlLp : Ends → Prop := fun D => ∀ σ H, D.ct σ H → D.nx σ H
def pRt (K : Fg) (b : Bs) {R : Type} [Py R] (r : R) (D : Ends) : Prop := ∀ v Hi' H', Ok b Hi' H' → Py.rep K Hi' r v → D.rt v H'
def pNx (b : Bs) {S : Type} (Lf : S → List En) (s : S) (D : Ends) : Prop := ∀ σ' Hi' H', EnvOk b (Lf s) σ' Hi' H' → D.nx σ' H'
def pTl (K : Fg) (b : Bs) {S R : Type} [Py R] (Lf : S → List En) (t : Tl S R) (D : Ends) : Prop := match t with
  | .ct s => ∀ σ' Hi' H', EnvOk b (Lf s) σ' Hi' H' → D.ct σ' H'
  | .bk s => ∀ σ' Hi' H', EnvOk b (Lf s) σ' Hi' H' → D.bk σ' H'
  | .rt r => pRt K b r D
/-- a post that does not ask what follows -/
def PiOk {α : Type} (post : α → Ends → Prop) : Prop := ∀ a D f, post a D → post a { D with nx := f }
theorem pi_rt {K : Fg} {b : Bs} {R : Type} [Py R] : PiOk (pRt K b (R := R)) := fun _ _ _ h => h
theorem pi_tl {K : Fg} {b : Bs} {S R : Type} [Py R] {Lf : S → List En} : PiOk (pTl K b (R := R) Lf) := fun a _ _ h => by
  cases a <;> exact h

/-- a def of the module -/
structure OkF (P : Program) (w : World) (K : Fg) (mg : Str → Option Value) (base : Heap) (x : Str) (k : Nat) (sp : Sp) : Prop where
  ex : ∃ f fd ps, mg x = some (.ref f) ∧ PySem.W.keepIn K (.ref f) = true ∧ FnOk P w K mg base (L2.CX P w) k f fd ps sp ∧ Binds K fd ps []
theorem EnvOk.start {Hi H : Hp} {ps : List Pr} {vs : List V} {k : Nat} {N : List Str} (sm : Same Hi H) (hk : N.length - vs.length = k) (r : Paired (fun (p : Pr) v => p.r Hi v) ps vs) :
    EnvOk ⟨Hi, H, []⟩ (ps.map En.im ++ List.replicate k En.no) (start N vs) Hi H := by
  have hl : ps.length = vs.length := Paired.length r
  have nomu : ∀ (i : Nat) (c : Ct), (ps.map En.im ++ List.replicate k En.no)[i]? ≠ some (.mu c) := fun i c h => by
    rcases List.mem_append.mp (List.mem_of_getElem? h) with q | q
    · obtain ⟨_, _, z⟩ := List.mem_map.mp q
      cases z
    · cases (List.mem_replicate.mp q).2
  refine ⟨⟨sm, Same.refl _, fun _ _ _ h => h, fun _ h => h, fun _ _ h => h⟩, ?_, fun i p h => ?_, fun i c h => absurd h (nomu i c), fun i _ c _ _ h => absurd h (nomu i c)⟩
  · unfold L2.start
    rw [List.length_append, List.length_append, List.length_map, List.length_map, List.length_replicate, List.length_replicate, hl, hk]
  · by_cases hi : i < ps.length
    · rw [List.getElem?_append_left (by rw [List.length_map]; exact hi), List.getElem?_map] at h
      cases q : ps[i]? with
      | none => rw [q] at h; cases h
      | some p' =>
        rw [q] at h
        cases h
        have key : ∀ {ps : List Pr} {vs : List V} (_ : Paired (fun (p : Pr) v => p.r Hi v) ps vs) {i : Nat} {p : Pr}, ps[i]? = some p → ∃ v, vs[i]? = some v ∧ p.r Hi v := by
          intro ps vs r
          induction r with
          | nil => intro i p h; simp at h
          | cons r t ih =>
            intro i p h
            cases i with
            | zero => simp at h; subst h; exact ⟨_, rfl, r⟩
            | succ i => exact ih (by simpa using h)
        obtain ⟨v, h1, h2⟩ := key r q
        refine ⟨v, ?_, h2⟩
        unfold L2.start
        rw [List.getElem?_append_left (by rw [List.length_map]; exact (List.getElem?_eq_some_iff.mp h1).1), List.getElem?_map, h1]
        rfl
    · rw [List.getElem?_append_right (by rw [List.length_map]; omega)] at h
      have := List.mem_of_getElem? h
      cases (List.mem_replicate.mp this).2
theorem PZ.of_fn {K : Fg} {E : XK} {R : Type} [Py R] {m : M R} {Hi H : Hp} {Q : VK} {bkk ctt : L2.St → Hp → Prop} (h : PV K E m Hi H Q) : PZ K E ⟨Hi, H, []⟩ m (fun a => pRt K ⟨Hi, H, []⟩ a { nx := fun _ H' => Q .non H', rt := Q, bk := bkk, ct := ctt }) := by
  have key : ∀ {Hi' H' : Hp}, Ok ⟨Hi, H, []⟩ Hi' H' → Nx Hi H Hi' H' := fun {Hi' H'} o => ⟨o.base, fun a u e => o.fr a u (by simp) e, o.sub, o.cap⟩
  cases m with
  | ok a => exact fun v Hi' H' o r => h Hi' H' (key o) v r
  | error e =>
    cases e with
    | rs c => exact fun Hi' H' o => h Hi' H' (key o)
    | st => exact h
def sp1 (K : Fg) {α0 ρ : Type} [Py α0] [Py ρ] (f : α0 → M ρ) : Sp := fun vs H Q E => ∃ (a0 : α0) (v0 : V) (Hi : Hp), vs = [v0] ∧ Same Hi H ∧ Py.rep K Hi a0 v0 ∧ PV K E (f a0) Hi H Q
theorem je_call1 {α0 ρ : Type} [Py α0] [Py ρ] {X : Cx} {K : Fg} {b : Bs} {L : List En} {E : XK} {e0 : Expr} {m0 : M α0} {f : α0 → M ρ} {x : Str} {p pos : Pos} {k : Nat} (F : OkF X.prog X.w X.K X.mg X.base x k (sp1 K f)) (hr : Room k X.A) (hx : Passes (L2.CX X.prog X.w) X E) (h0 : JE X K b L E e0 m0) (hg : Gl X x := by rfl) (hdb : (x == ("__debug__" : Str)) = false := by decide) (s0 : starEach [e0] X.env = (false, eval e0 X.env) :: starEach [] X.env := by rfl) (hpl : (backTo pos (starEach [] X.env)).any (·.1) = false := by rfl) : JE X K b L E (.Call (.Name x p) [e0] [] pos) (m0 >>= fun a0 => f a0) := by
  obtain ⟨fa, fd, ps, F1, F2, F3, F4⟩ := F.ex
  obtain ⟨t0, d0, q0⟩ := h0.ex
  refine .of ⟨tCall (sp1 K f) [] E (tCons t0 tNil), pe_call F3 hr hg F1 F2 F4 .nil hx (pa_cons d0 pa_nil s0) hdb s0 hpl, fun σ Hi H en Q h => ?_⟩
  refine q0 σ Hi H en _ ((h).bind.imp fun a0 Hi1 H1 n1 k1 v0 r0 => ?_)
  exact ⟨a0, v0, _, rfl, n1.sub, r0, k1⟩
theorem mkC1 {α0 ρ : Type} [Py α0] [Py ρ] {P : Program} {w : World} {K : Fg} {mg : Str → Option Value} {base : Heap} {x : Str} {N : List Str} {p0 : Str} {args : Arguments} {body : List Stmt} {sc : Scope} {k : Nat} {f : α0 → M ρ} {fd : FuncData} (F : FunD K x x args body sc [] [] (He.ga K x) fd) (S : FnScope N [p0] sc)
    (h : ∀ (cdv : Value) (A : Around) (outer : List Env) (s : Shared) (H : Hp) (E : XK), Room k (cxOf (L2.CX P w) P w K mg base N x sc (He.ga K x) cdv A outer s H E).A → ∀ (a0 : α0) (b : Bs), b.own = [] → JS (cxOf (L2.CX P w) P w K mg base N x sc (He.ga K x) cdv A outer s H E) K b ([.im (rp K a0)] ++ List.replicate (N.length - 1) .no) E body tlFn (f a0) (pRt K b)) : FnOk P w K mg base (L2.CX P w) (k + 1) (He.ga K x) fd [p0] (sp1 K f) := by
  refine F.ok S (fun vs H Q E hh => ?_) (fun cdv A outer s H vs Q E hr hh => ?_)
  · obtain ⟨a0, v0, Hi, rfl, _⟩ := hh
    rfl
  · obtain ⟨a0, v0, Hi, rfl, sm, r0, q⟩ := hh
    refine ⟨_, pss_wp, (h cdv A outer s H E hr a0 ⟨Hi, H, []⟩ rfl).go _ Hi H ?_ _ (fun σ' H' z => z) ?_⟩
    · exact EnvOk.start (ps := [rp K a0]) sm rfl (Paired.cons r0 Paired.nil)
    · exact PZ.of_fn q
theorem mkF1 {α0 ρ : Type} [Py α0] [Py ρ] {P : Program} {w : World} {K : Fg} {mg : Str → Option Value} {base : Heap} {x : Str} {N : List Str} {p0 : Str} {args : Arguments} {body : List Stmt} {sc : Scope} {k : Nat} {f : α0 → M ρ} (F : ∃ fd, FunD K x x args body sc [] [] (He.ga K x) fd) (g : mg x = some (.ref (He.ga K x))) (S : FnScope N [p0] sc)
    (hb : ∀ (kV doc pm : Value) (an : Option Addr) (cdv ct : Value) (us : List Value), us.length = [p0].length → bindArgs (PySem.W.fnOf x x args body sc .none kV doc pm an cdv ct) ⟨us, []⟩ = pure ([p0].zip us))
    (h : ∀ (cdv : Value) (A : Around) (outer : List Env) (s : Shared) (H : Hp) (E : XK), Room k (cxOf (L2.CX P w) P w K mg base N x sc (He.ga K x) cdv A outer s H E).A → ∀ (a0 : α0) (b : Bs), b.own = [] → JS (cxOf (L2.CX P w) P w K mg base N x sc (He.ga K x) cdv A outer s H E) K b ([.im (rp K a0)] ++ List.replicate (N.length - 1) .no) E body tlFn (f a0) (pRt K b)) : OkF P w K mg base x (k + 1) (sp1 K f) := by
  obtain ⟨fd, F⟩ := F
  exact ⟨_, fd, [p0], g, F.kp, mkC1 F S h, F.bindsN hb⟩
def sp2 (K : Fg) {α0 α1 ρ : Type} [Py α0] [Py α1] [Py ρ] (f : α0 → α1 → M ρ) : Sp := fun vs H Q E => ∃ (a0 : α0) (a1 : α1) (v0 v1 : V) (Hi : Hp), vs = [v0, v1] ∧ Same Hi H ∧ Py.rep K Hi a0 v0 ∧ Py.rep K Hi a1 v1 ∧ PV K E (f a0 a1) Hi H Q
theorem je_call2 {α0 α1 ρ : Type} [Py α0] [Py α1] [Py ρ] {X : Cx} {K : Fg} {b : Bs} {L : List En} {E : XK} {e0 e1 : Expr} {m0 : M α0} {m1 : M α1} {f : α0 → α1 → M ρ} {x : Str} {p pos : Pos} {k : Nat} (F : OkF X.prog X.w X.K X.mg X.base x k (sp2 K f)) (hr : Room k X.A) (hx : Passes (L2.CX X.prog X.w) X E) (h0 : JE X K b L E e0 m0) (h1 : JE X K b L E e1 m1) (hg : Gl X x := by rfl) (hdb : (x == ("__debug__" : Str)) = false := by decide) (s0 : starEach [e0, e1] X.env = (false, eval e0 X.env) :: starEach [e1] X.env := by rfl) (s1 : starEach [e1] X.env = (false, eval e1 X.env) :: starEach [] X.env := by rfl) (hpl : (backTo pos (starEach [e1] X.env)).any (·.1) = false := by rfl) : JE X K b L E (.Call (.Name x p) [e0, e1] [] pos) (m0 >>= fun a0 => m1 >>= fun a1 => f a0 a1) := by
  obtain ⟨fa, fd, ps, F1, F2, F3, F4⟩ := F.ex
  obtain ⟨t0, d0, q0⟩ := h0.ex
  obtain ⟨t1, d1, q1⟩ := h1.ex
  refine .of ⟨tCall (sp2 K f) [] E (tCons t0 (tCons t1 tNil)), pe_call F3 hr hg F1 F2 F4 .nil hx (pa_cons d0 (pa_cons d1 pa_nil s1) s0) hdb s0 hpl, fun σ Hi H en Q h => ?_⟩
  refine q0 σ Hi H en _ ((h).bind.imp fun a0 Hi1 H1 n1 k1 v0 r0 => ?_)
  refine q1 σ Hi1 H1 (en.nx n1) _ ((k1).bind.imp fun a1 Hi2 H2 n2 k2 v1 r1 => ?_)
  exact ⟨a0, a1, v0, v1, _, rfl, n2.sub, (Py.mono n2.im r0), r1, k2⟩
theorem mkC2 {α0 α1 ρ : Type} [Py α0] [Py α1] [Py ρ] {P : Program} {w : World} {K : Fg} {mg : Str → Option Value} {base : Heap} {x : Str} {N : List Str} {p0 p1 : Str} {args : Arguments} {body : List Stmt} {sc : Scope} {k : Nat} {f : α0 → α1 → M ρ} {fd : FuncData} (F : FunD K x x args body sc [] [] (He.ga K x) fd) (S : FnScope N [p0, p1] sc)
    (h : ∀ (cdv : Value) (A : Around) (outer : List Env) (s : Shared) (H : Hp) (E : XK), Room k (cxOf (L2.CX P w) P w K mg base N x sc (He.ga K x) cdv A outer s H E).A → ∀ (a0 : α0) (a1 : α1) (b : Bs), b.own = [] → JS (cxOf (L2.CX P w) P w K mg base N x sc (He.ga K x) cdv A outer s H E) K b ([.im (rp K a0), .im (rp K a1)] ++ List.replicate (N.length - 2) .no) E body tlFn (f a0 a1) (pRt K b)) : FnOk P w K mg base (L2.CX P w) (k + 1) (He.ga K x) fd [p0, p1] (sp2 K f) := by
  refine F.ok S (fun vs H Q E hh => ?_) (fun cdv A outer s H vs Q E hr hh => ?_)
  · obtain ⟨a0, a1, v0, v1, Hi, rfl, _⟩ := hh
    rfl
  · obtain ⟨a0, a1, v0, v1, Hi, rfl, sm, r0, r1, q⟩ := hh
    refine ⟨_, pss_wp, (h cdv A outer s H E hr a0 a1 ⟨Hi, H, []⟩ rfl).go _ Hi H ?_ _ (fun σ' H' z => z) ?_⟩
    · exact EnvOk.start (ps := [rp K a0, rp K a1]) sm rfl (Paired.cons r0 (Paired.cons r1 Paired.nil))
    · exact PZ.of_fn q
theorem mkF2 {α0 α1 ρ : Type} [Py α0] [Py α1] [Py ρ] {P : Program} {w : World} {K : Fg} {mg : Str → Option Value} {base : Heap} {x : Str} {N : List Str} {p0 p1 : Str} {args : Arguments} {body : List Stmt} {sc : Scope} {k : Nat} {f : α0 → α1 → M ρ} (F : ∃ fd, FunD K x x args body sc [] [] (He.ga K x) fd) (g : mg x = some (.ref (He.ga K x))) (S : FnScope N [p0, p1] sc)
    (hb : ∀ (kV doc pm : Value) (an : Option Addr) (cdv ct : Value) (us : List Value), us.length = [p0, p1].length → bindArgs (PySem.W.fnOf x x args body sc .none kV doc pm an cdv ct) ⟨us, []⟩ = pure ([p0, p1].zip us))
    (h : ∀ (cdv : Value) (A : Around) (outer : List Env) (s : Shared) (H : Hp) (E : XK), Room k (cxOf (L2.CX P w) P w K mg base N x sc (He.ga K x) cdv A outer s H E).A → ∀ (a0 : α0) (a1 : α1) (b : Bs), b.own = [] → JS (cxOf (L2.CX P w) P w K mg base N x sc (He.ga K x) cdv A outer s H E) K b ([.im (rp K a0), .im (rp K a1)] ++ List.replicate (N.length - 2) .no) E body tlFn (f a0 a1) (pRt K b)) : OkF P w K mg base x (k + 1) (sp2 K f) := by
  obtain ⟨fd, F⟩ := F
  exact ⟨_, fd, [p0, p1], g, F.kp, mkC2 F S h, F.bindsN hb⟩
def sp3 (K : Fg) {α0 α1 α2 ρ : Type} [Py α0] [Py α1] [Py α2] [Py ρ] (f : α0 → α1 → α2 → M ρ) : Sp := fun vs H Q E => ∃ (a0 : α0) (a1 : α1) (a2 : α2) (v0 v1 v2 : V) (Hi : Hp), vs = [v0, v1, v2] ∧ Same Hi H ∧ Py.rep K Hi a0 v0 ∧ Py.rep K Hi a1 v1 ∧ Py.rep K Hi a2 v2 ∧ PV K E (f a0 a1 a2) Hi H Q
theorem je_call3 {α0 α1 α2 ρ : Type} [Py α0] [Py α1] [Py α2] [Py ρ] {X : Cx} {K : Fg} {b : Bs} {L : List En} {E : XK} {e0 e1 e2 : Expr} {m0 : M α0} {m1 : M α1} {m2 : M α2} {f : α0 → α1 → α2 → M ρ} {x : Str} {p pos : Pos} {k : Nat} (F : OkF X.prog X.w X.K X.mg X.base x k (sp3 K f)) (hr : Room k X.A) (hx : Passes (L2.CX X.prog X.w) X E) (h0 : JE X K b L E e0 m0) (h1 : JE X K b L E e1 m1) (h2 : JE X K b L E e2 m2) (hg : Gl X x := by rfl) (hdb : (x == ("__debug__" : Str)) = false := by decide) (s0 : starEach [e0, e1, e2] X.env = (false, eval e0 X.env) :: starEach [e1, e2] X.env := by rfl) (s1 : starEach [e1, e2] X.env = (false, eval e1 X.env) :: starEach [e2] X.env := by rfl) (s2 : starEach [e2] X.env = (false, eval e2 X.env) :: starEach [] X.env := by rfl) (hpl : (backTo pos (starEach [e1, e2] X.env)).any (·.1) = false := by rfl) : JE X K b L E (.Call (.Name x p) [e0, e1, e2] [] pos) (m0 >>= fun a0 => m1 >>= fun a1 => m2 >>= fun a2 => f a0 a1 a2) := by
  obtain ⟨fa, fd, ps, F1, F2, F3, F4⟩ := F.ex
  obtain ⟨t0, d0, q0⟩ := h0.ex
  obtain ⟨t1, d1, q1⟩ := h1.ex
  obtain ⟨t2, d2, q2⟩ := h2.ex
  refine .of ⟨tCall (sp3 K f) [] E (tCons t0 (tCons t1 (tCons t2 tNil))), pe_call F3 hr hg F1 F2 F4 .nil hx (pa_cons d0 (pa_cons d1 (pa_cons d2 pa_nil s2) s1) s0) hdb s0 hpl, fun σ Hi H en Q h => ?_⟩
  refine q0 σ Hi H en _ ((h).bind.imp fun a0 Hi1 H1 n1 k1 v0 r0 => ?_)
  refine q1 σ Hi1 H1 (en.nx n1) _ ((k1).bind.imp fun a1 Hi2 H2 n2 k2 v1 r1 => ?_)
  refine q2 σ Hi2 H2 ((en.nx n1).nx n2) _ ((k2).bind.imp fun a2 Hi3 H3 n3 k3 v2 r2 => ?_)
  exact ⟨a0, a1, a2, v0, v1, v2, _, rfl, n3.sub, (Py.mono n3.im (Py.mono n2.im r0)), (Py.mono n3.im r1), r2, k3⟩
theorem mkC3 {α0 α1 α2 ρ : Type} [Py α0] [Py α1] [Py α2] [Py ρ] {P : Program} {w : World} {K : Fg} {mg : Str → Option Value} {base : Heap} {x : Str} {N : List Str} {p0 p1 p2 : Str} {args : Arguments} {body : List Stmt} {sc : Scope} {k : Nat} {f : α0 → α1 → α2 → M ρ} {fd : FuncData} (F : FunD K x x args body sc [] [] (He.ga K x) fd) (S : FnScope N [p0, p1, p2] sc)
    (h : ∀ (cdv : Value) (A : Around) (outer : List Env) (s : Shared) (H : Hp) (E : XK), Room k (cxOf (L2.CX P w) P w K mg base N x sc (He.ga K x) cdv A outer s H E).A → ∀ (a0 : α0) (a1 : α1) (a2 : α2) (b : Bs), b.own = [] → JS (cxOf (L2.CX P w) P w K mg base N x sc (He.ga K x) cdv A outer s H E) K b ([.im (rp K a0), .im (rp K a1), .im (rp K a2)] ++ List.replicate (N.length - 3) .no) E body tlFn (f a0 a1 a2) (pRt K b)) : FnOk P w K mg base (L2.CX P w) (k + 1) (He.ga K x) fd [p0, p1, p2] (sp3 K f) := by
  refine F.ok S (fun vs H Q E hh => ?_) (fun cdv A outer s H vs Q E hr hh => ?_)
  · obtain ⟨a0, a1, a2, v0, v1, v2, Hi, rfl, _⟩ := hh
    rfl
  · obtain ⟨a0, a1, a2, v0, v1, v2, Hi, rfl, sm, r0, r1, r2, q⟩ := hh
    refine ⟨_, pss_wp, (h cdv A outer s H E hr a0 a1 a2 ⟨Hi, H, []⟩ rfl).go _ Hi H ?_ _ (fun σ' H' z => z) ?_⟩
    · exact EnvOk.start (ps := [rp K a0, rp K a1, rp K a2]) sm rfl (Paired.cons r0 (Paired.cons r1 (Paired.cons r2 Paired.nil)))
    · exact PZ.of_fn q
theorem mkF3 {α0 α1 α2 ρ : Type} [Py α0] [Py α1] [Py α2] [Py ρ] {P : Program} {w : World} {K : Fg} {mg : Str → Option Value} {base : Heap} {x : Str} {N : List Str} {p0 p1 p2 : Str} {args : Arguments} {body : List Stmt} {sc : Scope} {k : Nat} {f : α0 → α1 → α2 → M ρ} (F : ∃ fd, FunD K x x args body sc [] [] (He.ga K x) fd) (g : mg x = some (.ref (He.ga K x))) (S : FnScope N [p0, p1, p2] sc)
    (hb : ∀ (kV doc pm : Value) (an : Option Addr) (cdv ct : Value) (us : List Value), us.length = [p0, p1, p2].length → bindArgs (PySem.W.fnOf x x args body sc .none kV doc pm an cdv ct) ⟨us, []⟩ = pure ([p0, p1, p2].zip us))
    (h : ∀ (cdv : Value) (A : Around) (outer : List Env) (s : Shared) (H : Hp) (E : XK), Room k (cxOf (L2.CX P w) P w K mg base N x sc (He.ga K x) cdv A outer s H E).A → ∀ (a0 : α0) (a1 : α1) (a2 : α2) (b : Bs), b.own = [] → JS (cxOf (L2.CX P w) P w K mg base N x sc (He.ga K x) cdv A outer s H E) K b ([.im (rp K a0), .im (rp K a1), .im (rp K a2)] ++ List.replicate (N.length - 3) .no) E body tlFn (f a0 a1 a2) (pRt K b)) : OkF P w K mg base x (k + 1) (sp3 K f) := by
  obtain ⟨fd, F⟩ := F
  exact ⟨_, fd, [p0, p1, p2], g, F.kp, mkC3 F S h, F.bindsN hb⟩
def sp4 (K : Fg) {α0 α1 α2 α3 ρ : Type} [Py α0] [Py α1] [Py α2] [Py α3] [Py ρ] (f : α0 → α1 → α2 → α3 → M ρ) : Sp := fun vs H Q E => ∃ (a0 : α0) (a1 : α1) (a2 : α2) (a3 : α3) (v0 v1 v2 v3 : V) (Hi : Hp), vs = [v0, v1, v2, v3] ∧ Same Hi H ∧ Py.rep K Hi a0 v0 ∧ Py.rep K Hi a1 v1 ∧ Py.rep K Hi a2 v2 ∧ Py.rep K Hi a3 v3 ∧ PV K E (f a0 a1 a2 a3) Hi H Q
theorem je_call4 {α0 α1 α2 α3 ρ : Type} [Py α0] [Py α1] [Py α2] [Py α3] [Py ρ] {X : Cx} {K : Fg} {b : Bs} {L : List En} {E : XK} {e0 e1 e2 e3 : Expr} {m0 : M α0} {m1 : M α1} {m2 : M α2} {m3 : M α3} {f : α0 → α1 → α2 → α3 → M ρ} {x : Str} {p pos : Pos} {k : Nat} (F : OkF X.prog X.w X.K X.mg X.base x k (sp4 K f)) (hr : Room k X.A) (hx : Passes (L2.CX X.prog X.w) X E) (h0 : JE X K b L E e0 m0) (h1 : JE X K b L E e1 m1) (h2 : JE X K b L E e2 m2) (h3 : JE X K b L E e3 m3) (hg : Gl X x := by rfl) (hdb : (x == ("__debug__" : Str)) = false := by decide) (s0 : starEach [e0, e1, e2, e3] X.env = (false, eval e0 X.env) :: starEach [e1, e2, e3] X.env := by rfl) (s1 : starEach [e1, e2, e3] X.env = (false, eval e1 X.env) :: starEach [e2, e3] X.env := by rfl) (s2 : starEach [e2, e3] X.env = (false, eval e2 X.env) :: starEach [e3] X.env := by rfl) (s3 : starEach [e3] X.env = (false, eval e3 X.env) :: starEach [] X.env := by rfl) (hpl : (backTo pos (starEach [e1, e2, e3] X.env)).any (·.1) = false := by rfl) : JE X K b L E (.Call (.Name x p) [e0, e1, e2, e3] [] pos) (m0 >>= fun a0 => m1 >>= fun a1 => m2 >>= fun a2 => m3 >>= fun a3 => f a0 a1 a2 a3) := by
  obtain ⟨fa, fd, ps, F1, F2, F3, F4⟩ := F.ex
  obtain ⟨t0, d0, q0⟩ := h0.ex
  obtain ⟨t1, d1, q1⟩ := h1.ex
  obtain ⟨t2, d2, q2⟩ := h2.ex
  obtain ⟨t3, d3, q3⟩ := h3.ex
  refine .of ⟨tCall (sp4 K f) [] E (tCons t0 (tCons t1 (tCons t2 (tCons t3 tNil)))), pe_call F3 hr hg F1 F2 F4 .nil hx (pa_cons d0 (pa_cons d1 (pa_cons d2 (pa_cons d3 pa_nil s3) s2) s1) s0) hdb s0 hpl, fun σ Hi H en Q h => ?_⟩
  refine q0 σ Hi H en _ ((h).bind.imp fun a0 Hi1 H1 n1 k1 v0 r0 => ?_)
  refine q1 σ Hi1 H1 (en.nx n1) _ ((k1).bind.imp fun a1 Hi2 H2 n2 k2 v1 r1 => ?_)
  refine q2 σ Hi2 H2 ((en.nx n1).nx n2) _ ((k2).bind.imp fun a2 Hi3 H3 n3 k3 v2 r2 => ?_)
  refine q3 σ Hi3 H3 (((en.nx n1).nx n2).nx n3) _ ((k3).bind.imp fun a3 Hi4 H4 n4 k4 v3 r3 => ?_)
  exact ⟨a0, a1, a2, a3, v0, v1, v2, v3, _, rfl, n4.sub, (Py.mono n4.im (Py.mono n3.im (Py.mono n2.im r0))), (Py.mono n4.im (Py.mono n3.im r1)), (Py.mono n4.im r2), r3, k4⟩
theorem mkC4 {α0 α1 α2 α3 ρ : Type} [Py α0] [Py α1] [Py α2] [Py α3] [Py ρ] {P : Program} {w : World} {K : Fg} {mg : Str → Option Value} {base : Heap} {x : Str} {N : List Str} {p0 p1 p2 p3 : Str} {args : Arguments} {body : List Stmt} {sc : Scope} {k : Nat} {f : α0 → α1 → α2 → α3 → M ρ} {fd : FuncData} (F : FunD K x x args body sc [] [] (He.ga K x) fd) (S : FnScope N [p0, p1, p2, p3] sc)
    (h : ∀ (cdv : Value) (A : Around) (outer : List Env) (s : Shared) (H : Hp) (E : XK), Room k (cxOf (L2.CX P w) P w K mg base N x sc (He.ga K x) cdv A outer s H E).A → ∀ (a0 : α0) (a1 : α1) (a2 : α2) (a3 : α3) (b : Bs), b.own = [] → JS (cxOf (L2.CX P w) P w K mg base N x sc (He.ga K x) cdv A outer s H E) K b ([.im (rp K a0), .im (rp K a1), .im (rp K a2), .im (rp K a3)] ++ List.replicate (N.length - 4) .no) E body tlFn (f a0 a1 a2 a3) (pRt K b)) : FnOk P w K mg base (L2.CX P w) (k + 1) (He.ga K x) fd [p0, p1, p2, p3] (sp4 K f) := by
  refine F.ok S (fun vs H Q E hh => ?_) (fun cdv A outer s H vs Q E hr hh => ?_)
  · obtain ⟨a0, a1, a2, a3, v0, v1, v2, v3, Hi, rfl, _⟩ := hh
    rfl
  · obtain ⟨a0, a1, a2, a3, v0, v1, v2, v3, Hi, rfl, sm, r0, r1, r2, r3, q⟩ := hh
    refine ⟨_, pss_wp, (h cdv A outer s H E hr a0 a1 a2 a3 ⟨Hi, H, []⟩ rfl).go _ Hi H ?_ _ (fun σ' H' z => z) ?_⟩
    · exact EnvOk.start (ps := [rp K a0, rp K a1, rp K a2, rp K a3]) sm rfl (Paired.cons r0 (Paired.cons r1 (Paired.cons r2 (Paired.cons r3 Paired.nil))))
    · exact PZ.of_fn q
theorem mkF4 {α0 α1 α2 α3 ρ : Type} [Py α0] [Py α1] [Py α2] [Py α3] [Py ρ] {P : Program} {w : World} {K : Fg} {mg : Str → Option Value} {base : Heap} {x : Str} {N : List Str} {p0 p1 p2 p3 : Str} {args : Arguments} {body : List Stmt} {sc : Scope} {k : Nat} {f : α0 → α1 → α2 → α3 → M ρ} (F : ∃ fd, FunD K x x args body sc [] [] (He.ga K x) fd) (g : mg x = some (.ref (He.ga K x))) (S : FnScope N [p0, p1, p2, p3] sc)
    (hb : ∀ (kV doc pm : Value) (an : Option Addr) (cdv ct : Value) (us : List Value), us.length = [p0, p1, p2, p3].length → bindArgs (PySem.W.fnOf x x args body sc .none kV doc pm an cdv ct) ⟨us, []⟩ = pure ([p0, p1, p2, p3].zip us))
    (h : ∀ (cdv : Value) (A : Around) (outer : List Env) (s : Shared) (H : Hp) (E : XK), Room k (cxOf (L2.CX P w) P w K mg base N x sc (He.ga K x) cdv A outer s H E).A → ∀ (a0 : α0) (a1 : α1) (a2 : α2) (a3 : α3) (b : Bs), b.own = [] → JS (cxOf (L2.CX P w) P w K mg base N x sc (He.ga K x) cdv A outer s H E) K b ([.im (rp K a0), .im (rp K a1), .im (rp K a2), .im (rp K a3)] ++ List.replicate (N.length - 4) .no) E body tlFn (f a0 a1 a2 a3) (pRt K b)) : OkF P w K mg base x (k + 1) (sp4 K f) := by
  obtain ⟨fd, F⟩ := F
  exact ⟨_, fd, [p0, p1, p2, p3], g, F.kp, mkC4 F S h, F.bindsN hb⟩
def sp5 (K : Fg) {α0 α1 α2 α3 α4 ρ : Type} [Py α0] [Py α1] [Py α2] [Py α3] [Py α4] [Py ρ] (f : α0 → α1 → α2 → α3 → α4 → M ρ) : Sp := fun vs H Q E => ∃ (a0 : α0) (a1 : α1) (a2 : α2) (a3 : α3) (a4 : α4) (v0 v1 v2 v3 v4 : V) (Hi : Hp), vs = [v0, v1, v2, v3, v4] ∧ Same Hi H ∧ Py.rep K Hi a0 v0 ∧ Py.rep K Hi a1 v1 ∧ Py.rep K Hi a2 v2 ∧ Py.rep K Hi a3 v3 ∧ Py.rep K Hi a4 v4 ∧ PV K E (f a0 a1 a2 a3 a4) Hi H Q
theorem je_call5 {α0 α1 α2 α3 α4 ρ : Type} [Py α0] [Py α1] [Py α2] [Py α3] [Py α4] [Py ρ] {X : Cx} {K : Fg} {b : Bs} {L : List En} {E : XK} {e0 e1 e2 e3 e4 : Expr} {m0 : M α0} {m1 : M α1} {m2 : M α2} {m3 : M α3} {m4 : M α4} {f : α0 → α1 → α2 → α3 → α4 → M ρ} {x : Str} {p pos : Pos} {k : Nat} (F : OkF X.prog X.w X.K X.mg X.base x k (sp5 K f)) (hr : Room k X.A) (hx : Passes (L2.CX X.prog X.w) X E) (h0 : JE X K b L E e0 m0) (h1 : JE X K b L E e1 m1) (h2 : JE X K b L E e2 m2) (h3 : JE X K b L E e3 m3) (h4 : JE X K b L E e4 m4) (hg : Gl X x := by rfl) (hdb : (x == ("__debug__" : Str)) = false := by decide) (s0 : starEach [e0, e1, e2, e3, e4] X.env = (false, eval e0 X.env) :: starEach [e1, e2, e3, e4] X.env := by rfl) (s1 : starEach [e1, e2, e3, e4] X.env = (false, eval e1 X.env) :: starEach [e2, e3, e4] X.env := by rfl) (s2 : starEach [e2, e3, e4] X.env = (false, eval e2 X.env) :: starEach [e3, e4] X.env := by rfl) (s3 : starEach [e3, e4] X.env = (false, eval e3 X.env) :: starEach [e4] X.env := by rfl) (s4 : starEach [e4] X.env = (false, eval e4 X.env) :: starEach [] X.env := by rfl) (hpl : (backTo pos (starEach [e1, e2, e3, e4] X.env)).any (·.1) = false := by rfl) : JE X K b L E (.Call (.Name x p) [e0, e1, e2, e3, e4] [] pos) (m0 >>= fun a0 => m1 >>= fun a1 => m2 >>= fun a2 => m3 >>= fun a3 => m4 >>= fun a4 => f a0 a1 a2 a3 a4) := by
  obtain ⟨fa, fd, ps, F1, F2, F3, F4⟩ := F.ex
  obtain ⟨t0, d0, q0⟩ := h0.ex
  obtain ⟨t1, d1, q1⟩ := h1.ex
  obtain ⟨t2, d2, q2⟩ := h2.ex
  obtain ⟨t3, d3, q3⟩ := h3.ex
  obtain ⟨t4, d4, q4⟩ := h4.ex
  refine .of ⟨tCall (sp5 K f) [] E (tCons t0 (tCons t1 (tCons t2 (tCons t3 (tCons t4 tNil))))), pe_call F3 hr hg F1 F2 F4 .nil hx (pa_cons d0 (pa_cons d1 (pa_cons d2 (pa_cons d3 (pa_cons d4 pa_nil s4) s3) s2) s1) s0) hdb s0 hpl, fun σ Hi H en Q h => ?_⟩
  refine q0 σ Hi H en _ ((h).bind.imp fun a0 Hi1 H1 n1 k1 v0 r0 => ?_)
  refine q1 σ Hi1 H1 (en.nx n1) _ ((k1).bind.imp fun a1 Hi2 H2 n2 k2 v1 r1 => ?_)
  refine q2 σ Hi2 H2 ((en.nx n1).nx n2) _ ((k2).bind.imp fun a2 Hi3 H3 n3 k3 v2 r2 => ?_)
  refine q3 σ Hi3 H3 (((en.nx n1).nx n2).nx n3) _ ((k3).bind.imp fun a3 Hi4 H4 n4 k4 v3 r3 => ?_)
  refine q4 σ Hi4 H4 ((((en.nx n1).nx n2).nx n3).nx n4) _ ((k4).bind.imp fun a4 Hi5 H5 n5 k5 v4 r4 => ?_)
  exact ⟨a0, a1, a2, a3, a4, v0, v1, v2, v3, v4, _, rfl, n5.sub, (Py.mono n5.im (Py.mono n4.im (Py.mono n3.im (Py.mono n2.im r0)))), (Py.mono n5.im (Py.mono n4.im (Py.mono n3.im r1))), (Py.mono n5.im (Py.mono n4.im r2)), (Py.mono n5.im r3), r4, k5⟩
theorem mkC5 {α0 α1 α2 α3 α4 ρ : Type} [Py α0] [Py α1] [Py α2] [Py α3] [Py α4] [Py ρ] {P : Program} {w : World} {K : Fg} {mg : Str → Option Value} {base : Heap} {x : Str} {N : List Str} {p0 p1 p2 p3 p4 : Str} {args : Arguments} {body : List Stmt} {sc : Scope} {k : Nat} {f : α0 → α1 → α2 → α3 → α4 → M ρ} {fd : FuncData} (F : FunD K x x args body sc [] [] (He.ga K x) fd) (S : FnScope N [p0, p1, p2, p3, p4] sc)
    (h : ∀ (cdv : Value) (A : Around) (outer : List Env) (s : Shared) (H : Hp) (E : XK), Room k (cxOf (L2.CX P w) P w K mg base N x sc (He.ga K x) cdv A outer s H E).A → ∀ (a0 : α0) (a1 : α1) (a2 : α2) (a3 : α3) (a4 : α4) (b : Bs), b.own = [] → JS (cxOf (L2.CX P w) P w K mg base N x sc (He.ga K x) cdv A outer s H E) K b ([.im (rp K a0), .im (rp K a1), .im (rp K a2), .im (rp K a3), .im (rp K a4)] ++ List.replicate (N.length - 5) .no) E body tlFn (f a0 a1 a2 a3 a4) (pRt K b)) : FnOk P w K mg base (L2.CX P w) (k + 1) (He.ga K x) fd [p0, p1, p2, p3, p4] (sp5 K f) := by
  refine F.ok S (fun vs H Q E hh => ?_) (fun cdv A outer s H vs Q E hr hh => ?_)
  · obtain ⟨a0, a1, a2, a3, a4, v0, v1, v2, v3, v4, Hi, rfl, _⟩ := hh
    rfl
  · obtain ⟨a0, a1, a2, a3, a4, v0, v1, v2, v3, v4, Hi, rfl, sm, r0, r1, r2, r3, r4, q⟩ := hh
    refine ⟨_, pss_wp, (h cdv A outer s H E hr a0 a1 a2 a3 a4 ⟨Hi, H, []⟩ rfl).go _ Hi H ?_ _ (fun σ' H' z => z) ?_⟩
    · exact EnvOk.start (ps := [rp K a0, rp K a1, rp K a2, rp K a3, rp K a4]) sm rfl (Paired.cons r0 (Paired.cons r1 (Paired.cons r2 (Paired.cons r3 (Paired.cons r4 Paired.nil)))))
    · exact PZ.of_fn q
theorem mkF5 {α0 α1 α2 α3 α4 ρ : Type} [Py α0] [Py α1] [Py α2] [Py α3] [Py α4] [Py ρ] {P : Program} {w : World} {K : Fg} {mg : Str → Option Value} {base : Heap} {x : Str} {N : List Str} {p0 p1 p2 p3 p4 : Str} {args : Arguments} {body : List Stmt} {sc : Scope} {k : Nat} {f : α0 → α1 → α2 → α3 → α4 → M ρ} (F : ∃ fd, FunD K x x args body sc [] [] (He.ga K x) fd) (g : mg x = some (.ref (He.ga K x))) (S : FnScope N [p0, p1, p2, p3, p4] sc)
    (hb : ∀ (kV doc pm : Value) (an : Option Addr) (cdv ct : Value) (us : List Value), us.length = [p0, p1, p2, p3, p4].length → bindArgs (PySem.W.fnOf x x args body sc .none kV doc pm an cdv ct) ⟨us, []⟩ = pure ([p0, p1, p2, p3, p4].zip us))
    (h : ∀ (cdv : Value) (A : Around) (outer : List Env) (s : Shared) (H : Hp) (E : XK), Room k (cxOf (L2.CX P w) P w K mg base N x sc (He.ga K x) cdv A outer s H E).A → ∀ (a0 : α0) (a1 : α1) (a2 : α2) (a3 : α3) (a4 : α4) (b : Bs), b.own = [] → JS (cxOf (L2.CX P w) P w K mg base N x sc (He.ga K x) cdv A outer s H E) K b ([.im (rp K a0), .im (rp K a1), .im (rp K a2), .im (rp K a3), .im (rp K a4)] ++ List.replicate (N.length - 5) .no) E body tlFn (f a0 a1 a2 a3 a4) (pRt K b)) : OkF P w K mg base x (k + 1) (sp5 K f) := by
  obtain ⟨fd, F⟩ := F
  exact ⟨_, fd, [p0, p1, p2, p3, p4], g, F.kp, mkC5 F S h, F.bindsN hb⟩
def sp6 (K : Fg) {α0 α1 α2 α3 α4 α5 ρ : Type} [Py α0] [Py α1] [Py α2] [Py α3] [Py α4] [Py α5] [Py ρ] (f : α0 → α1 → α2 → α3 → α4 → α5 → M ρ) : Sp := fun vs H Q E => ∃ (a0 : α0) (a1 : α1) (a2 : α2) (a3 : α3) (a4 : α4) (a5 : α5) (v0 v1 v2 v3 v4 v5 : V) (Hi : Hp), vs = [v0, v1, v2, v3, v4, v5] ∧ Same Hi H ∧ Py.rep K Hi a0 v0 ∧ Py.rep K Hi a1 v1 ∧ Py.rep K Hi a2 v2 ∧ Py.rep K Hi a3 v3 ∧ Py.rep K Hi a4 v4 ∧ Py.rep K Hi a5 v5 ∧ PV K E (f a0 a1 a2 a3 a4 a5) Hi H Q
theorem je_call6 {α0 α1 α2 α3 α4 α5 ρ : Type} [Py α0] [Py α1] [Py α2] [Py α3] [Py α4] [Py α5] [Py ρ] {X : Cx} {K : Fg} {b : Bs} {L : List En} {E : XK} {e0 e1 e2 e3 e4 e5 : Expr} {m0 : M α0} {m1 : M α1} {m2 : M α2} {m3 : M α3} {m4 : M α4} {m5 : M α5} {f : α0 → α1 → α2 → α3 → α4 → α5 → M ρ} {x : Str} {p pos : Pos} {k : Nat} (F : OkF X.prog X.w X.K X.mg X.base x k (sp6 K f)) (hr : Room k X.A) (hx : Passes (L2.CX X.prog X.w) X E) (h0 : JE X K b L E e0 m0) (h1 : JE X K b L E e1 m1) (h2 : JE X K b L E e2 m2) (h3 : JE X K b L E e3 m3) (h4 : JE X K b L E e4 m4) (h5 : JE X K b L E e5 m5) (hg : Gl X x := by rfl) (hdb : (x == ("__debug__" : Str)) = false := by decide) (s0 : starEach [e0, e1, e2, e3, e4, e5] X.env = (false, eval e0 X.env) :: starEach [e1, e2, e3, e4, e5] X.env := by rfl) (s1 : starEach [e1, e2, e3, e4, e5] X.env = (false, eval e1 X.env) :: starEach [e2, e3, e4, e5] X.env := by rfl) (s2 : starEach [e2, e3, e4, e5] X.env = (false, eval e2 X.env) :: starEach [e3, e4, e5] X.env := by rfl) (s3 : starEach [e3, e4, e5] X.env = (false, eval e3 X.env) :: starEach [e4, e5] X.env := by rfl) (s4 : starEach [e4, e5] X.env = (false, eval e4 X.env) :: starEach [e5] X.env := by rfl) (s5 : starEach [e5] X.env = (false, eval e5 X.env) :: starEach [] X.env := by rfl) (hpl : (backTo pos (starEach [e1, e2, e3, e4, e5] X.env)).any (·.1) = false := by rfl) : JE X K b L E (.Call (.Name x p) [e0, e1, e2, e3, e4, e5] [] pos) (m0 >>= fun a0 => m1 >>= fun a1 => m2 >>= fun a2 => m3 >>= fun a3 => m4 >>= fun a4 => m5 >>= fun a5 => f a0 a1 a2 a3 a4 a5) := by
  obtain ⟨fa, fd, ps, F1, F2, F3, F4⟩ := F.ex
  obtain ⟨t0, d0, q0⟩ := h0.ex
  obtain ⟨t1, d1, q1⟩ := h1.ex
  obtain ⟨t2, d2, q2⟩ := h2.ex
  obtain ⟨t3, d3, q3⟩ := h3.ex
  obtain ⟨t4, d4, q4⟩ := h4.ex
  obtain ⟨t5, d5, q5⟩ := h5.ex
  refine .of ⟨tCall (sp6 K f) [] E (tCons t0 (tCons t1 (tCons t2 (tCons t3 (tCons t4 (tCons t5 tNil)))))), pe_call F3 hr hg F1 F2 F4 .nil hx (pa_cons d0 (pa_cons d1 (pa_cons d2 (pa_cons d3 (pa_cons d4 (pa_cons d5 pa_nil s5) s4) s3) s2) s1) s0) hdb s0 hpl, fun σ Hi H en Q h => ?_⟩
  refine q0 σ Hi H en _ ((h).bind.imp fun a0 Hi1 H1 n1 k1 v0 r0 => ?_)
  refine q1 σ Hi1 H1 (en.nx n1) _ ((k1).bind.imp fun a1 Hi2 H2 n2 k2 v1 r1 => ?_)
  refine q2 σ Hi2 H2 ((en.nx n1).nx n2) _ ((k2).bind.imp fun a2 Hi3 H3 n3 k3 v2 r2 => ?_)
  refine q3 σ Hi3 H3 (((en.nx n1).nx n2).nx n3) _ ((k3).bind.imp fun a3 Hi4 H4 n4 k4 v3 r3 => ?_)
  refine q4 σ Hi4 H4 ((((en.nx n1).nx n2).nx n3).nx n4) _ ((k4).bind.imp fun a4 Hi5 H5 n5 k5 v4 r4 => ?_)
  refine q5 σ Hi5 H5 (((((en.nx n1).nx n2).nx n3).nx n4).nx n5) _ ((k5).bind.imp fun a5 Hi6 H6 n6 k6 v5 r5 => ?_)
  exact ⟨a0, a1, a2, a3, a4, a5, v0, v1, v2, v3, v4, v5, _, rfl, n6.sub, (Py.mono n6.im (Py.mono n5.im (Py.mono n4.im (Py.mono n3.im (Py.mono n2.im r0))))), (Py.mono n6.im (Py.mono n5.im (Py.mono n4.im (Py.mono n3.im r1)))), (Py.mono n6.im (Py.mono n5.im (Py.mono n4.im r2))), (Py.mono n6.im (Py.mono n5.im r3)), (Py.mono n6.im r4), r5, k6⟩
theorem mkC6 {α0 α1 α2 α3 α4 α5 ρ : Type} [Py α0] [Py α1] [Py α2] [Py α3] [Py α4] [Py α5] [Py ρ] {P : Program} {w : World} {K : Fg} {mg : Str → Option Value} {base : Heap} {x : Str} {N : List Str} {p0 p1 p2 p3 p4 p5 : Str} {args : Arguments} {body : List Stmt} {sc : Scope} {k : Nat} {f : α0 → α1 → α2 → α3 → α4 → α5 → M ρ} {fd : FuncData} (F : FunD K x x args body sc [] [] (He.ga K x) fd) (S : FnScope N [p0, p1, p2, p3, p4, p5] sc)
    (h : ∀ (cdv : Value) (A : Around) (outer : List Env) (s : Shared) (H : Hp) (E : XK), Room k (cxOf (L2.CX P w) P w K mg base N x sc (He.ga K x) cdv A outer s H E).A → ∀ (a0 : α0) (a1 : α1) (a2 : α2) (a3 : α3) (a4 : α4) (a5 : α5) (b : Bs), b.own = [] → JS (cxOf (L2.CX P w) P w K mg base N x sc (He.ga K x) cdv A outer s H E) K b ([.im (rp K a0), .im (rp K a1), .im (rp K a2), .im (rp K a3), .im (rp K a4), .im (rp K a5)] ++ List.replicate (N.length - 6) .no) E body tlFn (f a0 a1 a2 a3 a4 a5) (pRt K b)) : FnOk P w K mg base (L2.CX P w) (k + 1) (He.ga K x) fd [p0, p1, p2, p3, p4, p5] (sp6 K f) := by
  refine F.ok S (fun vs H Q E hh => ?_) (fun cdv A outer s H vs Q E hr hh => ?_)
  · obtain ⟨a0, a1, a2, a3, a4, a5, v0, v1, v2, v3, v4, v5, Hi, rfl, _⟩ := hh
    rfl
  · obtain ⟨a0, a1, a2, a3, a4, a5, v0, v1, v2, v3, v4, v5, Hi, rfl, sm, r0, r1, r2, r3, r4, r5, q⟩ := hh
    refine ⟨_, pss_wp, (h cdv A outer s H E hr a0 a1 a2 a3 a4 a5 ⟨Hi, H, []⟩ rfl).go _ Hi H ?_ _ (fun σ' H' z => z) ?_⟩
    · exact EnvOk.start (ps := [rp K a0, rp K a1, rp K a2, rp K a3, rp K a4, rp K a5]) sm rfl (Paired.cons r0 (Paired.cons r1 (Paired.cons r2 (Paired.cons r3 (Paired.cons r4 (Paired.cons r5 Paired.nil))))))
    · exact PZ.of_fn q
theorem mkF6 {α0 α1 α2 α3 α4 α5 ρ : Type} [Py α0] [Py α1] [Py α2] [Py α3] [Py α4] [Py α5] [Py ρ] {P : Program} {w : World} {K : Fg} {mg : Str → Option Value} {base : Heap} {x : Str} {N : List Str} {p0 p1 p2 p3 p4 p5 : Str} {args : Arguments} {body : List Stmt} {sc : Scope} {k : Nat} {f : α0 → α1 → α2 → α3 → α4 → α5 → M ρ} (F : ∃ fd, FunD K x x args body sc [] [] (He.ga K x) fd) (g : mg x = some (.ref (He.ga K x))) (S : FnScope N [p0, p1, p2, p3, p4, p5] sc)
    (hb : ∀ (kV doc pm : Value) (an : Option Addr) (cdv ct : Value) (us : List Value), us.length = [p0, p1, p2, p3, p4, p5].length → bindArgs (PySem.W.fnOf x x args body sc .none kV doc pm an cdv ct) ⟨us, []⟩ = pure ([p0, p1, p2, p3, p4, p5].zip us))
    (h : ∀ (cdv : Value) (A : Around) (outer : List Env) (s : Shared) (H : Hp) (E : XK), Room k (cxOf (L2.CX P w) P w K mg base N x sc (He.ga K x) cdv A outer s H E).A → ∀ (a0 : α0) (a1 : α1) (a2 : α2) (a3 : α3) (a4 : α4) (a5 : α5) (b : Bs), b.own = [] → JS (cxOf (L2.CX P w) P w K mg base N x sc (He.ga K x) cdv A outer s H E) K b ([.im (rp K a0), .im (rp K a1), .im (rp K a2), .im (rp K a3), .im (rp K a4), .im (rp K a5)] ++ List.replicate (N.length - 6) .no) E body tlFn (f a0 a1 a2 a3 a4 a5) (pRt K b)) : OkF P w K mg base x (k + 1) (sp6 K f) := by
  obtain ⟨fd, F⟩ := F
  exact ⟨_, fd, [p0, p1, p2, p3, p4, p5], g, F.kp, mkC6 F S h, F.bindsN hb⟩
end G

set_option Elab.async false
set_option linter.all false
set_option maxRecDepth 100000
set_option maxHeartbeats 2000000
namespace G
open PySem L2 TL

/-! ### heaps: floors, fresh objects -/
def Bs.fl (b : Bs) (F : Hp) : Bs := ⟨F, b.H, b.own⟩
section
variable {b : Bs} {L : List En} {σ : L2.St} {F Hi H Hi' H' H0 : Hp}
theorem Ok.up (o : Ok b Hi H) : Ok (b.fl Hi) Hi H := ⟨o.sub, Same.refl _, o.fr, o.keep, fun _ _ h => h⟩
theorem Ok.down (o : Ok b F H0) (o' : Ok (b.fl F) Hi H) : Ok b Hi H := ⟨o'.sub, o.base.trans o'.base, o'.fr, o'.keep, fun a h n => o'.cap a h (o.cap a h n)⟩
theorem EnvOk.up (e : EnvOk b L σ Hi H) : EnvOk (b.fl Hi) L σ Hi H := ⟨e.ok.up, e.len, e.im, e.mu, e.dis⟩
theorem EnvOk.down (o : Ok b F H0) (e : EnvOk (b.fl F) L σ Hi H) : EnvOk b L σ Hi H := ⟨o.down e.ok, e.len, e.im, e.mu, e.dis⟩
theorem EnvOk.to {L' : List En} (e : EnvOk b L σ Hi H) (h : L = L') : EnvOk b L' σ Hi H := h ▸ e
/-- a name comes to hold a fresh object alone -/
theorem EnvOk.setFresh {i : Nat} {c : Ct} {p : Addr} {o : HO} (e : EnvOk b L σ Hi H) (x : Nx Hi H Hi' H') (hp : H' p = some o) (hn : H p = none) (hpi : Hi' p = none) (r : c.r Hi' o) : EnvOk b (L.set i (.mu c)) (σ.set i (some (.ref p))) Hi' H' := by
  have e1 := e.nx x
  have hpb : b.H p = none := by
    cases q : b.H p with
    | none => rfl
    | some u => exact absurd hn (e.ok.keep p (by rw [q]; exact fun z => nomatch z))
  have old : ∀ {j : Nat} {d : Ct} {a : Addr}, L[j]? = some (.mu d) → σ[j]? = some (some (.ref a)) → a ≠ p := fun {j d a} h1 h2 z => by
    obtain ⟨a', o', g1, g2, _⟩ := e.mu j d h1
    rw [h2] at g1
    cases g1
    rw [z, hn] at g2
    cases g2
  have hi : ∀ {j : Nat}, i = j → ∀ {en : En}, (L.set i (En.mu c))[j]? = some en → en = .mu c ∧ i < L.length := fun {j} hj {en} h => by
    subst hj
    have hl : i < (L.set i (En.mu c)).length := (List.getElem?_eq_some_iff.mp h).1
    rw [List.length_set] at hl
    rw [List.getElem?_set_self hl] at h
    cases h
    exact ⟨rfl, hl⟩
  refine ⟨e1.ok, by rw [List.length_set, List.length_set]; exact e.len, fun j q h => ?_, fun j d h => ?_, fun j k d f a h1 h2 h3 h4 => ?_⟩
  · by_cases hj : i = j
    · exact nomatch (hi hj h).1
    · rw [List.getElem?_set_ne hj] at h ⊢
      exact e1.im j q h
  · by_cases hj : i = j
    · obtain ⟨h5, h6⟩ := hi hj h
      cases h5
      subst hj
      exact ⟨p, o, List.getElem?_set_self (by rw [e.len]; exact h6), hp, hpi, .inr hpb, r⟩
    · rw [List.getElem?_set_ne hj] at h ⊢
      exact e1.mu j d h
  · by_cases hj : i = j
    · by_cases hk : i = k
      · exact hj.symm.trans hk
      · obtain ⟨_, h6⟩ := hi hj h1
        subst hj
        rw [List.getElem?_set_self (by rw [e.len]; exact h6)] at h3
        cases h3
        rw [List.getElem?_set_ne hk] at h2 h4
        exact absurd rfl (old h2 h4)
    · by_cases hk : i = k
      · obtain ⟨_, h6⟩ := hi hk h2
        subst hk
        rw [List.getElem?_set_self (by rw [e.len]; exact h6)] at h4
        cases h4
        rw [List.getElem?_set_ne hj] at h1 h3
        exact absurd rfl (old h1 h3)
      · rw [List.getElem?_set_ne hj] at h1 h3
        rw [List.getElem?_set_ne hk] at h2 h4
        exact e.dis j k d f a h1 h2 h3 h4
end
/-- the content of a list that a name holds alone -/
def ctL (K : Fg) {α : Type} [Py α] (xs : List α) : Ct := ⟨fun H o => ∃ vs, o = .lst vs ∧ Rl K H xs vs, fun e ⟨vs, h1, h2⟩ => ⟨vs, h1, h2.mono e⟩⟩
/-- an expression that makes a fresh object -/
def PF (K : Fg) (E : XK) {α : Type} (c : α → Ct) (m : M α) (Hi H : Hp) (Q : VK) : Prop :=
  PX K E m Hi H fun a Hi' H' => ∀ p o, H' p = some o → H p = none → Hi' p = none → (c a).r Hi' o → Q (.ref p) H'
structure JF (X : Cx) (K : Fg) (b : Bs) (L : List En) (E : XK) (e : Expr) {α : Type} (c : α → Ct) (m : M α) : Prop where
  go : ∀ σ Hi H, EnvOk b L σ Hi H → ∀ Q : VK, PF K E c m Hi H Q → wpE X e σ H Q

section
variable {X : Cx} {K : Fg} {mg : Str → Option Value} {b : Bs} {L L' : List En} {E : XK} {e e1 e2 : Expr} {st : Stmt} {rest body a bb : List Stmt} {α β γ S R : Type} {pos p' p2 p3 : Pos} {tl : Ends → Prop} {post : α → Ends → Prop}
theorem js_cons {m1 : M S} {Lf : S → List En} {m2 : S → M α} (h1 : J1 X K b L E st m1 Lf) (h2 : ∀ s, JS X K b (Lf s) E rest tl (m2 s) post) : JS X K b L E (st :: rest) tl (m1 >>= fun s => m2 s) post :=
  ⟨fun σ Hi H en D htl hz => PSs.wp (pss_cons ps_wp pss_wp) (h1.go σ Hi H en _ (hz.bindz.imp fun s q σ' Hi' H' en' => (h2 s).go σ' Hi' H' en' D htl q))⟩
theorem js_nilP {Lf : S → List En} {s : S} (w : Wk L (Lf s)) : JS X K b L E [] tl (pure s) (pNx b Lf) :=
  ⟨fun σ Hi H en D _ hz => PSs.wp pss_nil (show D.nx σ H from hz σ Hi H (en.wk w))⟩
theorem js_nilF : JS X K b L E [] tlFn (pure () : M Unit) (pRt K b) :=
  ⟨fun σ Hi H en D ht hz => PSs.wp pss_nil (show D.nx σ H from ht σ H (hz .non Hi H en.ok rfl))⟩
theorem js_nilL [Py R] {Lf : S → List En} {s : S} (w : Wk L (Lf s)) : JS X K b L E [] tlLp (pure (.ct s) : M (Tl S R)) (pTl K b Lf) :=
  ⟨fun σ Hi H en D ht hz => PSs.wp pss_nil (show D.nx σ H from ht σ H ((show ∀ σ' Hi' H', EnvOk b (Lf s) σ' Hi' H' → D.ct σ' H' from hz) σ Hi H (en.wk w)))⟩
theorem PZ.ret [Py R] {m : M R} {D : Ends} {σ : L2.St} {Hi H : Hp} (en : EnvOk b L σ Hi H) (hz : PZ K E b m fun a => pRt K b a D) : PV K E m Hi H D.rt := by
  cases m with
  | ok a => exact fun Hi' H' x v r => hz v Hi' H' (en.nx x).ok r
  | error z =>
    cases z with
    | rs c => exact fun Hi' H' x => hz Hi' H' (en.nx x).ok
    | st => exact hz
theorem js_ret [Py R] {m : M R} (h : JE X K b L E e m) : JS X K b L E (.Return (some e) pos :: rest) tl m (pRt K b) :=
  ⟨fun σ Hi H en D _ hz => PSs.wp (pss_cons (ps_ret pe_wp) pss_wp) (h.go σ Hi H en D.rt (hz.ret en))⟩
theorem js_retL [Py R] {m : M R} {Lf : S → List En} (h : JE X K b L E e m) : JS X K b L E (.Return (some e) pos :: rest) tl (m >>= fun r => pure (.rt r) : M (Tl S R)) (pTl K b Lf) :=
  ⟨fun σ Hi H en D _ hz => PSs.wp (pss_cons (ps_ret pe_wp) pss_wp) (h.go σ Hi H en D.rt (PZ.ret en (hz.bindz.imp fun r q => q)))⟩
theorem js_retN : JS X K b L E (.Return none pos :: rest) tl (pure () : M Unit) (pRt K b) :=
  ⟨fun σ Hi H en D _ hz => PSs.wp (pss_cons ps_retN pss_wp) (show D.rt .non H from hz .non Hi H en.ok rfl)⟩
theorem js_brk [Py R] {Lf : S → List En} {s : S} (w : Wk L (Lf s)) : JS X K b L E (.Break pos :: rest) tl (pure (.bk s) : M (Tl S R)) (pTl K b Lf) :=
  ⟨fun σ Hi H en D _ hz => PSs.wp (pss_cons ps_break pss_wp) (show D.bk σ H from (show ∀ σ' Hi' H', EnvOk b (Lf s) σ' Hi' H' → D.bk σ' H' from hz) σ Hi H (en.wk w))⟩
theorem js_cnt [Py R] {Lf : S → List En} {s : S} (w : Wk L (Lf s)) : JS X K b L E (.Continue pos :: rest) tl (pure (.ct s) : M (Tl S R)) (pTl K b Lf) :=
  ⟨fun σ Hi H en D _ hz => PSs.wp (pss_cons ps_continue pss_wp) (show D.ct σ H from (show ∀ σ' Hi' H', EnvOk b (Lf s) σ' Hi' H' → D.ct σ' H' from hz) σ Hi H (en.wk w))⟩
theorem js_raise {c : Str} {m : Str} {j : Nat} {pp : Pos} (tk : Takes X (fun cls d _ H => E cls d H)) (hc : X.calm = true) (gC : X.mg c = some (.ref (He.ga X.K c))) (hx : (He.Fa.exc c).ok X.K = true) (hK : X.K = K := by rfl) (hg : Gl X c := by rfl) (hdb : (c == ("__debug__" : Str)) = false := by decide) :
    JS X K b L E (.Raise (some (.Call (.Name c pp) [.Constant (.str m) j p2] [] p3)) none pos :: rest) tl (raise c : M α) post := by
  obtain ⟨q1, q2, q3, q4⟩ := He.exc_ok hx
  subst hK
  exact ⟨fun σ Hi H en D _ hz => PSs.wp (pss_cons (ps_raise hc tk (pmk_own PySem.F.excBase_ValueError q1 gC q2 (raises_own q3 q4) hg hdb)) pss_wp) (show E (.ref (He.ga X.K c)) none H from (show ∀ Hi' H', Ok b Hi' H' → E (.ref (He.ga X.K c)) none H' from hz) Hi H en.ok)⟩
theorem js_if2 {c : Expr} {mc : M Bool} {ma mb : M α} (h : JT X K b L E c mc) (h1 : JS X K b L E a tl ma post) (h2 : JS X K b L E bb tl mb post) : JS X K b L E [.If c a bb pos] tl (mc >>= fun t => if t = true then ma else mb) post :=
  ⟨fun σ Hi H en D ht hz => PSs.wp (pss_one (ps_if pt_wp pss_wp pss_wp)) (h.go σ Hi H en _ ((PZ.bind en hz).imp fun t Hi' H' x q => by
    cases t with
    | true =>
      rw [if_pos rfl] at q ⊢
      exact h1.go σ Hi' H' (en.nx x) D ht q
    | false =>
      rw [if_neg Bool.false_ne_true] at q ⊢
      exact h2.go σ Hi' H' (en.nx x) D ht q))⟩
theorem js_if1 {c : Expr} {mc : M Bool} {ma mr : M α} (pi : PiOk post) (h : JT X K b L E c mc) (h1 : JS X K b L E a tlAny ma post) (h2 : JS X K b L E rest tl mr post) : JS X K b L E (.If c a [] pos :: rest) tl (mc >>= fun t => if t = true then ma else mr) post :=
  ⟨fun σ Hi H en D ht hz => PSs.wp (pss_cons (ps_if pt_wp pss_wp pss_nil) pss_wp) (h.go σ Hi H en _ ((PZ.bind en hz).imp fun t Hi' H' x q => by
    cases t with
    | true =>
      rw [if_pos rfl] at q ⊢
      exact h1.go σ Hi' H' (en.nx x) _ trivial (q.imp fun a h => pi a D _ h)
    | false =>
      rw [if_neg Bool.false_ne_true] at q ⊢
      exact h2.go σ Hi' H' (en.nx x) D ht q))⟩
/-- the first branch ends, the other one goes on -/
theorem js_if1E {c : Expr} {mc : M Bool} {ma : M α} {mb : M S} {Lf : S → List En} {mr : S → M α} (pi : PiOk post) (h : JT X K b L E c mc) (h1 : JS X K b L E a tlAny ma post) (h3 : JS X K b L E bb tlAny mb (pNx b Lf)) (h2 : ∀ s, JS X K b (Lf s) E rest tl (mr s) post) :
    JS X K b L E (.If c a bb pos :: rest) tl (mc >>= fun t => if t = true then ma else (mb >>= fun s => mr s)) post :=
  ⟨fun σ Hi H en D ht hz => PSs.wp (pss_cons (ps_if pt_wp pss_wp pss_wp) pss_wp) (h.go σ Hi H en _ ((PZ.bind en hz).imp fun t Hi' H' x q => by
    cases t with
    | true =>
      rw [if_pos rfl] at q ⊢
      exact h1.go σ Hi' H' (en.nx x) _ trivial (q.imp fun a h => pi a D _ h)
    | false =>
      rw [if_neg Bool.false_ne_true] at q ⊢
      exact h3.go σ Hi' H' (en.nx x) _ trivial (q.bindz.imp fun s z σ2 Hi2 H2 en2 => (h2 s).go σ2 Hi2 H2 en2 D ht z)))⟩
theorem js_if1F {c : Expr} {mc : M Bool} {ma : M α} {mb : M S} {Lf : S → List En} {mr : S → M α} (pi : PiOk post) (h : JT X K b L E c mc) (h1 : JS X K b L E bb tlAny ma post) (h3 : JS X K b L E a tlAny mb (pNx b Lf)) (h2 : ∀ s, JS X K b (Lf s) E rest tl (mr s) post) :
    JS X K b L E (.If c a bb pos :: rest) tl (mc >>= fun t => if t = true then (mb >>= fun s => mr s) else ma) post :=
  ⟨fun σ Hi H en D ht hz => PSs.wp (pss_cons (ps_if pt_wp pss_wp pss_wp) pss_wp) (h.go σ Hi H en _ ((PZ.bind en hz).imp fun t Hi' H' x q => by
    cases t with
    | false =>
      rw [if_neg Bool.false_ne_true] at q ⊢
      exact h1.go σ Hi' H' (en.nx x) _ trivial (q.imp fun a h => pi a D _ h)
    | true =>
      rw [if_pos rfl] at q ⊢
      exact h3.go σ Hi' H' (en.nx x) _ trivial (q.bindz.imp fun s z σ2 Hi2 H2 en2 => (h2 s).go σ2 Hi2 H2 en2 D ht z)))⟩
theorem j1_if {c : Expr} {mc : M Bool} {ma mb : M S} {Lf : S → List En} (h : JT X K b L E c mc) (h1 : JS X K b L E a tlAny ma (pNx b Lf)) (h2 : JS X K b L E bb tlAny mb (pNx b Lf)) : J1 X K b L E (.If c a bb pos) (mc >>= fun t => if t = true then ma else mb) Lf :=
  ⟨fun σ Hi H en D hz => PS.wp (ps_if pt_wp pss_wp pss_wp) (h.go σ Hi H en _ ((PZ.bind en hz).imp fun t Hi' H' x q => by
    cases t with
    | true =>
      rw [if_pos rfl] at q ⊢
      exact h1.go σ Hi' H' (en.nx x) D trivial q
    | false =>
      rw [if_neg Bool.false_ne_true] at q ⊢
      exact h2.go σ Hi' H' (en.nx x) D trivial q))⟩
theorem js_wk {m : M α} (w : Wk L L') (h : JS X K b L' E rest tl m post) : JS X K b L E rest tl m post := ⟨fun σ Hi H en D ht hz => h.go σ Hi H (en.wk w) D ht hz⟩
theorem j1_pass : J1 X K b L E (.Pass pos) (pure ()) (fun _ => L) := ⟨fun σ Hi H en D hz => PS.wp ps_pass (show D.nx σ H from hz σ Hi H en)⟩

/-! assignments -/
theorem j1_set [Py α] {m : M α} (i : Nat) {x : Str} (h : JE X K b L E e m) (hN : X.N.Nodup) (hi : X.N[i]? = some x := by rfl) (hx : Loc X.env.scope x := by first | exact Or.inl rfl | exact Or.inr rfl) (hs : swapsWith e (some (.Name x p')) pos.line X.env = pure false := by rfl)
    (hf : X.fn x = true ∨ X.env.scope.names.lookup x = some .local := by first | exact .inl rfl | exact .inr rfl) : J1 X K b L E (.Assign [.Name x p'] e pos) m (fun a => L.set i (.im (rp K a))) :=
  ⟨fun σ Hi H en D hz => PS.wp (ps_set hN hi hx pe_wp hs hf) (h.go σ Hi H en _ ((PZ.px en hz).imp fun a Hi' H' x q v r => q _ Hi' H' ((en.nx x).set (p := rp K a) r)))⟩
theorem j1_setF {m : M α} {c : α → Ct} (i : Nat) {x : Str} (h : JF X K b L E e c m) (hN : X.N.Nodup) (hi : X.N[i]? = some x := by rfl) (hx : Loc X.env.scope x := by first | exact Or.inl rfl | exact Or.inr rfl) (hs : swapsWith e (some (.Name x p')) pos.line X.env = pure false := by rfl)
    (hf : X.fn x = true ∨ X.env.scope.names.lookup x = some .local := by first | exact .inl rfl | exact .inr rfl) : J1 X K b L E (.Assign [.Name x p'] e pos) m (fun a => L.set i (.mu (c a))) :=
  ⟨fun σ Hi H en D hz => PS.wp (ps_set hN hi hx pe_wp hs hf) (h.go σ Hi H en _ ((PZ.px en hz).imp fun a Hi' H' x q p o h1 h2 h3 h4 => q _ Hi' H' (en.setFresh x h1 h2 h3 h4)))⟩
theorem j1_drop [Py α] {m : M α} (h : JE X K b L E e m) (hs : swapsWith e none pos.line X.env = pure false := by rfl) : J1 X K b L E (.Expr e pos) (m >>= fun _ => pure ()) (fun _ => L) :=
  ⟨fun σ Hi H en D hz => PS.wp (ps_expr pe_wp hs) (h.go σ Hi H en _ ((PZ.bind en hz).imp fun a Hi' H' x q v r => (show ∀ σ' Hi' H', EnvOk b L σ' Hi' H' → D.nx σ' H' from q) _ Hi' H' (en.nx x)))⟩
theorem jf_lst [Py α] {es : List Expr} {m : M (List α)} (h : JL X K b L E es m) (hl : es.length ≤ 1000 := by decide) : JF X K b L E (.List es pos) (ctL K) m :=
  ⟨fun σ Hi H en Q hq => PE.wp (pe_lst pa_wp) (h.go σ Hi H en _ (by
    have l := h.len
    cases m with
    | error z => cases z with
      | rs c => exact hq
      | st => exact hq
    | ok xs =>
      refine fun Hi1 H1 n1 vs rvs => ⟨?_, fun q hq1 => ?_⟩
      · rw [← rvs.length, l xs rfl]
        exact Nat.le_trans hl (by decide)
      · have nq : H q = none := by
          cases z : H q with
          | none => rfl
          | some u => rw [n1.al q u z] at hq1; cases hq1
        exact (PX.go (a := xs) hq (n1.trans (Nx.temp n1.sub hq1))) q _ upd_same nq (hi_none n1.sub hq1) ⟨vs, rfl, rvs⟩))⟩
/-- told for good -/
theorem js_frz [Py α] {β : Type} {m : M β} {post : β → Ends → Prop} (i : Nat) {xs : List α} (h : JS X K b (L.set i (.im (rp K xs))) E rest tl m post) (hn : b.own = []) (hL : L[i]? = some (.mu (ctL K xs)) := by rfl) : JS X K b L E rest tl m post :=
  ⟨fun σ Hi H en D ht hz => by
    obtain ⟨Hi', en'⟩ := en.frz (p := rp K xs) hL hn (fun a Hi' o sm hr ha => by
      obtain ⟨vs, rfl, r⟩ := hr
      exact ⟨a, vs, rfl, .of ha, r.mono sm⟩)
    exact h.go σ Hi' H en' D ht hz⟩
theorem EnvOk.muL [Py α] {σ : L2.St} {Hi H : Hp} {i : Nat} {xs : List α} (en : EnvOk b L σ Hi H) (hL : L[i]? = some (.mu (ctL K xs))) : ∃ p vs, σ[i]? = some (some (V.ref p)) ∧ H p = some (.lst vs) ∧ Rl K Hi xs vs := by
  obtain ⟨p, o, h1, h2, _, _, vs, rfl, r⟩ := en.mu i _ hL
  exact ⟨p, vs, h1, h2, r⟩
theorem j1_append [Py α] {m : M α} (i : Nat) {x : Str} {xs : List α} {apos : Pos} {pn : Pos} (h : JE X K b L E e m) (hL : L[i]? = some (.mu (ctL K xs)) := by rfl) (hN : X.N[i]? = some x := by rfl) (hv : Vis X.env.scope x := by first | exact Or.inl rfl | exact Or.inr (Or.inl rfl) | exact Or.inr (Or.inr rfl))
    (hd : (x == ("__debug__" : Str)) = false := by decide) (hcd : (x == ("__classdict__" : Str)) = false := by decide) (hs1 : starEach [e] X.env = (false, eval e X.env) :: starEach [] X.env := by rfl)
    (hbase : attributeBase (.Name x pn) "append" X.env (eval (.Name x pn) X.env) = eval (.Name x pn) X.env := by rfl)
    (hfew : ((backTo p2 (starEach [e] X.env)).all (fun x => !x.1) && (backToKw p2 (keywordEach [] X.env)).all (fun x => x.1.isSome) && decide ([e].length + ([] : List Keyword).length + (if ([] : List Keyword).isEmpty then 0 else 1) < 30)) = true := by rfl)
    (hline : (apos.endLine == p2.line) = true := by rfl) (hplain : (backTo p2 (starEach [] X.env)).any (·.1) = false := by rfl)
    (hs : swapsWith (.Call (.Attribute (.Name x pn) "append" apos) [e] [] p2) none pos.line X.env = pure false := by rfl) :
    J1 X K b L E (.Expr (.Call (.Attribute (.Name x pn) "append" apos) [e] [] p2) pos) (m >>= fun a => chk (xs.length < SZ) >>= fun _ => pure a) (fun a => L.set i (.mu (ctL K (xs ++ [a])))) :=
  ⟨fun σ Hi H en D hz => by
    obtain ⟨p, vs, h1, h2, r⟩ := en.muL hL
    refine PS.wp (ps_expr (pe_bm PySem.F.plainAttrs_list PySem.F.slot_list_append PySem.F.type_list_append mt_append (pe_var hN hv hd hcd) (pa_cons pe_wp pa_nil hs1) hbase hfew hline hs1 hplain) hs) ?_
    refine ⟨_, h1, .inl ⟨rfl, _, SqL.of h2⟩, h.go σ Hi H en _ ((PZ.bind en hz).imp fun a Hi' H' y q v rv => ?_)⟩
    obtain ⟨c, q⟩ := PZ.chk q
    have en' := en.nx y
    refine ⟨p, vs, v, rfl, rfl, y.al _ _ h2, ?_, ?_⟩
    · rw [← r.length]; exact c
    · exact (show ∀ σ' Hi' H', EnvOk b (L.set i (.mu (ctL K (xs ++ [a])))) σ' Hi' H' → D.nx σ' H' from q) _ Hi' _ (en'.mut (c' := ctL K (xs ++ [a])) hL h1 ⟨_, rfl, (r.mono y.im).app (.cons rv .nil)⟩)⟩
theorem j1_setIx [Py α] {m : M α} {mi : M Int} (i : Nat) {x : Str} {xs : List α} {pn : Pos} (h : JE X K b L E e m) (hj : JE X K b L E e1 mi) (hL : L[i]? = some (.mu (ctL K xs)) := by rfl) (hN : X.N[i]? = some x := by rfl) (hv : Vis X.env.scope x := by first | exact Or.inl rfl | exact Or.inr (Or.inl rfl) | exact Or.inr (Or.inr rfl))
    (hd : (x == ("__debug__" : Str)) = false := by decide) (hcd : (x == ("__classdict__" : Str)) = false := by decide) (hs : swapsWithSole [.Subscript (.Name x pn) e1 p'] e pos.line X.env = pure false := by rfl) (hw : swappedStores [.Subscript (.Name x pn) e1 p'] e X.env = pure none := by rfl)
    (hset : ∀ v, assign (.Subscript (.Name x pn) e1 p') X.env v = (do
      let ov ← holding [v] (eval (.Name x pn) X.env)
      let iv ← holding [v, ov] (eval e1 X.env)
      standAt p'
      holding [v, ov, iv] (setItem ov iv v)
      release [v, ov, iv] []) := by intro _; rfl) :
    J1 X K b L E (.Assign [.Subscript (.Name x pn) e1 p'] e pos) (m >>= fun a => mi >>= fun k => ofO (ixN xs.length k) >>= fun j => pure (xs.set j a)) (fun ys => L.set i (.mu (ctL K ys))) :=
  ⟨fun σ Hi H en D hz => by
    obtain ⟨p, vs, h1, h2, r⟩ := en.muL hL
    refine PS.wp (ps_asg pe_wp (pg_sub (pe_var hN hv hd hcd) pe_wp set_list hset) hs hw) ?_
    refine h.go σ Hi H en _ ((PZ.bind en hz).imp fun a Hi1 H1 y1 q1 v rv => ?_)
    refine ⟨_, h1, hj.go σ Hi1 H1 (en.nx y1) _ ((PZ.bind (en.nx y1) q1).imp fun k Hi2 H2 y2 q2 w rw => ?_)⟩
    have en' := (en.nx y1).nx y2
    have hr := r.length
    cases z : ixN xs.length k with
    | none => rw [z] at q2; exact q2.elim
    | some j =>
      rw [z] at q2
      refine ⟨p, vs, k, j, rfl, rw, y2.al _ _ (y1.al _ _ h2), by rw [← hr]; exact z, ?_⟩
      exact (show ∀ σ' Hi' H', EnvOk b (L.set i (.mu (ctL K (xs.set j a)))) σ' Hi' H' → D.nx σ' H' from q2) _ Hi2 _ (en'.mut (c' := ctL K (xs.set j a)) hL h1 ⟨_, rfl, Rl.set (Py.mono y2.im rv) j (r.mono (y1.im.trans y2.im))⟩)⟩
/-- a name op= e -/
theorem j1_aug [Py α] [Py β] [Py γ] {m : M β} {op : Operator} {r : R2} {f : α → β → M γ} (i : Nat) {x : Str} {x0 : α} (ho : OpR X (inplaceOp op) r) (hr : RO K E r f) (h : JE X K b L E e m) (hN : X.N.Nodup) (hL : L[i]? = some (.im (rp K x0)) := by rfl) (hi : X.N[i]? = some x := by rfl)
    (hx : Loc X.env.scope x := by first | exact Or.inl rfl | exact Or.inr rfl) (hf : X.fn x = true ∨ X.env.scope.names.lookup x = some .local := by first | exact .inl rfl | exact .inr rfl) :
    J1 X K b L E (.AugAssign (.Name x p') op e pos) (m >>= fun y => f x0 y) (fun z => L.set i (.im (rp K z))) :=
  ⟨fun σ Hi H en D hz => by
    obtain ⟨v, h1, h2⟩ := en.im i _ hL
    refine PS.wp (ps_aug hN hi hx pe_wp (show PIp X op r from ho) hf) ⟨v, h1, h.go σ Hi H en _ ((PZ.bind en hz).imp fun y Hi' H' n q w rw => ?_)⟩
    exact hr x0 y v w Hi' H' _ n.sub (Py.mono n.im h2) rw ((PZ.px (en.nx n) q).imp fun z Hi2 H2 n2 q2 u ru => q2 _ Hi2 H2 (((en.nx n).nx n2).set (p := rp K z) ru))⟩
/-- len of a list that a name holds alone -/
theorem je_lenM [Py α] (i : Nat) {x : Str} {xs : List α} {pn : Pos} (hm : mg "len" = none) (hL : L[i]? = some (.mu (ctL K xs)) := by rfl) (hN : X.N[i]? = some x := by rfl) (hv : Vis X.env.scope x := by first | exact Or.inl rfl | exact Or.inr (Or.inl rfl) | exact Or.inr (Or.inr rfl))
    (hd : (x == ("__debug__" : Str)) = false := by decide) (hcd : (x == ("__classdict__" : Str)) = false := by decide) (hM : X.mg = mg := by rfl) (hg : Gl X "len" := by rfl) (he : starEach [.Name x pn] X.env = (false, eval (.Name x pn) X.env) :: starEach [] X.env := by rfl) (hpl : (backTo pos (starEach [] X.env)).any (·.1) = false := by rfl) :
    JE X K b L E (.Call (.Name "len" p2) [.Name x pn] [] pos) (pure (xs.length : Int) : M Int) :=
  ⟨fun σ Hi H en Q h => by
    obtain ⟨p, vs, h1, h2, r⟩ := en.muL hL
    refine PE.wp (pe_callB call_len_seq hg (by rw [hM]; exact hm) PySem.boot_len (pa_cons (pe_var hN hv hd hcd) pa_nil he) (by decide) (by decide) he hpl) ⟨_, h1, p, vs, rfl, .inl (SqL.of h2), ?_⟩
    exact h.here en.sub _ (by rw [r.length]; rfl)⟩
/-- an item of it -/
theorem je_ixM [Py α] {mi : M Int} (i : Nat) {x : Str} {xs : List α} {pn : Pos} (hj : JE X K b L E e mi) (hL : L[i]? = some (.mu (ctL K xs)) := by rfl) (hN : X.N[i]? = some x := by rfl) (hv : Vis X.env.scope x := by first | exact Or.inl rfl | exact Or.inr (Or.inl rfl) | exact Or.inr (Or.inr rfl))
    (hd : (x == ("__debug__" : Str)) = false := by decide) (hcd : (x == ("__classdict__" : Str)) = false := by decide) (hs : PlainIx e := by exact fun _ _ => rfl) :
    JE X K b L E (.Subscript (.Name x pn) e pos) (mi >>= fun k => atL xs k) :=
  ⟨fun σ Hi H en Q h => by
    obtain ⟨p, vs, h1, h2, r⟩ := en.muL hL
    refine PE.wp (pe_ix ix_list (pe_var hN hv hd hcd) pe_wp hs) ⟨_, h1, hj.go σ Hi H en _ (h.bind.imp fun k Hi1 H1 n1 q w rw => ?_)⟩
    obtain ⟨a, e0, q⟩ := PX.ofO1 q
    obtain ⟨u, e1, ru⟩ := (r.mono n1.im).atI e0
    exact ⟨p, vs, k, u, rfl, rw, SqL.of (n1.al _ _ h2), e1, q.here n1.sub _ ru⟩⟩

/-! ### walks -/
variable {tg : Expr}
theorem ji_list [Py α] {m : M (List α)} (h : JE X K b L E e m) (hK : X.K = K := by rfl) : JI X K b L E tg e m := by
  subst hK
  refine .of ⟨_, pi_list pe_wp, fun σ Hi H en R hq => h.go σ Hi H en _ (hq.imp fun xs Hi1 H1 n1 q v rv => ?_)⟩
  obtain ⟨p, vs, rfl, g1, g2⟩ := rv
  refine ⟨p, rfl, ⟨vs, Same.seq n1.sub g1⟩, q _ ⟨fun i y Hi2 H2 s1 s2 hy => ?_, fun i Hi2 H2 s1 s2 hi => ?_⟩⟩
  · obtain ⟨u, e1, r⟩ := g2.at hy
    have g3 := Same.seq (s1.trans s2) g1
    exact ⟨⟨vs, u, g3, e1⟩, fun x H' ⟨e2, e3⟩ => by
      subst e2
      have := e3 vs g3
      rw [e1] at this
      cases this
      exact ⟨Hi2, Nx.refl s2, Py.mono s1 r⟩⟩
  · exact ⟨vs, Same.seq (s1.trans s2) g1, by rw [← g2.length]; exact hi⟩
theorem ji_tup [Py α] {m : M (Tup α)} (h : JE X K b L E e m) (hK : X.K = K := by rfl) : JI X K b L E (α := α) tg e m := by
  subst hK
  refine .of ⟨_, pi_tup pe_wp, fun σ Hi H en R hq => h.go σ Hi H en _ (PX.imp hq fun xs Hi1 H1 n1 q v rv => ?_)⟩
  obtain ⟨p, vs, rfl, g1, g2⟩ := rv
  refine ⟨p, rfl, ⟨vs, sqt_mono n1.sub g1⟩, q _ ⟨fun i y Hi2 H2 s1 s2 hy => ?_, fun i Hi2 H2 s1 s2 hi => ?_⟩⟩
  · obtain ⟨u, e1, r⟩ := g2.at hy
    have g3 := sqt_mono (s1.trans s2) g1
    exact ⟨⟨vs, u, g3, e1⟩, fun x H' ⟨e2, e3⟩ => by
      subst e2
      have := e3 vs g3
      rw [e1] at this
      cases this
      exact ⟨Hi2, Nx.refl s2, Py.mono s1 r⟩⟩
  · exact ⟨vs, sqt_mono (s1.trans s2) g1, by rw [← g2.length]; exact hi⟩
def signs (x : Tx) : List Tx := x.map fun c => [c]
theorem ji_str {m : M Tx} (h : JE X K b L E e m) : JI X K b L E tg e (m >>= fun x => pure (signs x)) := by
  refine .of ⟨_, pi_str pe_wp, fun σ Hi H en R hq => h.go σ Hi H en _ (hq.bind.imp fun x Hi1 H1 n1 q v rv => ⟨S x, rv, (q.here n1.sub) _ ⟨fun i y Hi2 H2 s1 s2 hy => ?_, fun i Hi2 H2 s1 s2 hi => ?_⟩⟩)⟩
  · unfold signs at hy
    rw [List.getElem?_map] at hy
    cases z : x[i]? with
    | none => rw [z] at hy; cases hy
    | some c =>
      rw [z] at hy
      cases hy
      have hl : i < x.length := (List.getElem?_eq_some_iff.mp z).1
      have hz : (S x).cps[i]? = some c := by
        show x.toArray[i]? = some c
        rw [List.getElem?_toArray]; exact z
      refine ⟨by show i < x.toArray.size; rw [List.size_toArray]; exact hl, fun v' H' ⟨e1, c', e2, e3⟩ => ?_⟩
      subst e1
      rw [hz] at e2
      cases e2
      exact ⟨Hi2, Nx.refl s2, e3⟩
  · show x.toArray.size ≤ i
    unfold signs at hi
    rw [List.length_map] at hi
    rw [List.size_toArray]; exact hi
def rangeL (lo : Int) (n : Nat) : List Int := (List.range n).map fun i : Nat => lo + (i : Int)
theorem itr_ok {lo : Int} {n : Nat} {Hi0 : Hp} : ItOk K (Itr lo n) Hi0 (rangeL lo n) := by
  refine ⟨fun i y Hi2 H2 s1 s2 hy => ?_, fun i Hi2 H2 s1 s2 hi => ?_⟩
  · unfold rangeL at hy
    rw [List.getElem?_map] at hy
    by_cases hl : i < n
    · rw [List.getElem?_range hl] at hy
      cases hy
      exact ⟨hl, fun v H' ⟨e1, e2⟩ => by subst e1; exact ⟨Hi2, Nx.refl s2, e2⟩⟩
    · rw [List.getElem?_eq_none (by rw [List.length_range]; omega)] at hy
      cases hy
  · unfold rangeL at hi
    rw [List.length_map, List.length_range] at hi
    exact hi
def range1 (n : Int) : M (List Int) := chk (-(2 ^ 62) ≤ n ∧ n < 2 ^ 62) >>= fun _ => pure (rangeL 0 n.toNat)
def range2 (lo n : Int) : M (List Int) := chk (-(2 ^ 62) ≤ lo ∧ lo < 2 ^ 62 ∧ -(2 ^ 62) ≤ n ∧ n < 2 ^ 62) >>= fun _ => pure (rangeL lo (n - lo).toNat)
theorem ji_range1 {m : M Int} {p : Pos} (hm : mg "range" = none) (h : JE X K b L E e m) (hM : X.mg = mg := by rfl) (hg : Gl X "range" := by rfl) (hs : starEach [e] X.env = [(false, eval e X.env)] := by rfl) (he : starEach [e] X.env = (false, eval e X.env) :: starEach [] X.env := by rfl) :
    JI X K b L E tg (.Call (.Name "range" p) [e] [] pos) (m >>= fun n => range1 n) := by
  refine .of ⟨_, pi_range1 hg (by rw [hM]; exact hm) (pa_cons pe_wp pa_nil he) hs, fun σ Hi H en R hq => h.go σ Hi H en _ (hq.bind.imp fun n Hi1 H1 n1 q v rv => ?_)⟩
  obtain ⟨c, q⟩ := PX.chk q
  subst rv
  exact ⟨n, rfl, c.1, c.2, q.here n1.sub _ itr_ok⟩
theorem ji_range2 {m m2 : M Int} {p : Pos} (hm : mg "range" = none) (h : JE X K b L E e m) (h2 : JE X K b L E e1 m2) (hM : X.mg = mg := by rfl) (hg : Gl X "range" := by rfl) (hs : starEach [e, e1] X.env = [(false, eval e X.env), (false, eval e1 X.env)] := by rfl) (hs2 : starEach [e1] X.env = [(false, eval e1 X.env)] := by rfl)
    (he : starEach [e, e1] X.env = (false, eval e X.env) :: starEach [e1] X.env := by rfl) (he2 : starEach [e1] X.env = (false, eval e1 X.env) :: starEach [] X.env := by rfl) :
    JI X K b L E tg (.Call (.Name "range" p) [e, e1] [] pos) (m >>= fun lo => m2 >>= fun n => range2 lo n) := by
  refine .of ⟨_, pi_range2 hg (by rw [hM]; exact hm) (pa_cons pe_wp (pa_cons pe_wp pa_nil he2) he) hs hs2, fun σ Hi H en R hq => h.go σ Hi H en _ (hq.bind.imp fun lo Hi1 H1 n1 q v rv => h2.go σ Hi1 H1 (en.nx n1) _ (q.bind.imp fun n Hi2 H2 n2 q2 w rw => ?_))⟩
  obtain ⟨c, q2⟩ := PX.chk q2
  subst rv; subst rw
  exact ⟨lo, n, rfl, ⟨c.1, c.2.1, c.2.2.1, c.2.2.2⟩, q2.here n2.sub _ itr_ok⟩

/-! targets: sl the slots that they store -/
theorem wipe_idem {σ : L2.St} : ∀ vs : List Nat, wipe (wipe σ vs) vs = wipe σ vs := by
  have key : ∀ (vs us : List Nat), (∀ v ∈ vs, v ∈ us) → wipe (wipe σ us) vs = wipe σ us := by
    intro vs
    induction vs with
    | nil => intro us _; rfl
    | cons v vs ih =>
      intro us hu
      show (wipe (wipe σ us) vs).set v none = wipe σ us
      rw [ih us fun x hx => hu x (List.mem_cons_of_mem _ hx)]
      have hv := hu v (List.mem_cons_self ..)
      have : ∀ us : List Nat, v ∈ us → (wipe σ us).set v none = wipe σ us := by
        intro us
        induction us with
        | nil => intro h; cases h
        | cons u us ih2 =>
          intro h
          show ((wipe σ us).set u none).set v none = (wipe σ us).set u none
          by_cases e : u = v
          · subst e; rw [List.set_set]
          · rw [List.set_comm _ _ e]
            rcases List.mem_cons.mp h with z | z
            · exact absurd z.symm e
            · rw [ih2 z]
      exact this us hv
  exact fun vs => key vs vs fun _ h => h
end
end G

set_option Elab.async false
set_option linter.all false
set_option maxRecDepth 100000
set_option maxHeartbeats 2000000
namespace G
open PySem L2 TL

/-! ### comprehensions -/
def mapE {α β : Type} (f : α → M β) : List α → M (List β)
  | [] => pure []
  | x :: xs => f x >>= fun y => mapE f xs >>= fun ys => pure (y :: ys)
def filE {α β : Type} (t : α → M Bool) (f : α → M β) : List α → M (List β)
  | [] => pure []
  | x :: xs => t x >>= fun c => if c = true then f x >>= fun y => filE t f xs >>= fun ys => pure (y :: ys) else filE t f xs
theorem mapE_fil {α β : Type} (f : α → M β) : ∀ xs : List α, mapE f xs = filE (fun _ => pure true) f xs
  | [] => rfl
  | x :: xs => by
    show (f x >>= fun y => mapE f xs >>= fun ys => pure (y :: ys)) = (f x >>= fun y => filE (fun _ => pure true) f xs >>= fun ys => pure (y :: ys))
    rw [mapE_fil f xs]
/-- [f x for x in xs], [f x for x in xs if t x]: no raise is let out -/
def lc {α β : Type} (f : α → M β) (xs : List α) : M (List β) := chk (xs.length ≤ SZ) >>= fun _ => nr (mapE f xs)
def lf {α β : Type} (t : α → M Bool) (f : α → M β) (xs : List α) : M (List β) := chk (xs.length ≤ SZ) >>= fun _ => nr (filE t f xs)
def wipeL (L : List En) : List Nat → List En
  | [] => L
  | v :: vs => (wipeL L vs).set v .no
section
variable {b : Bs} {L : List En} {σ : L2.St} {Hi H : Hp}
theorem EnvOk.unset {i : Nat} (e : EnvOk b L σ Hi H) : EnvOk b (L.set i .no) (σ.set i none) Hi H := by
  have hi : ∀ {j : Nat} {en : En}, i = j → (L.set i En.no)[j]? = some en → en = .no := fun {j en} hj h => by
    subst hj
    have hl : i < (L.set i En.no).length := (List.getElem?_eq_some_iff.mp h).1
    rw [List.length_set] at hl
    rw [List.getElem?_set_self hl] at h
    cases h
    rfl
  refine ⟨e.ok, by rw [List.length_set, List.length_set]; exact e.len, fun j p h => ?_, fun j c h => ?_, fun j k c d a h1 h2 h3 h4 => ?_⟩
  · have hj : i ≠ j := fun z => nomatch hi z h
    rw [List.getElem?_set_ne hj] at h ⊢
    exact e.im j p h
  · have hj : i ≠ j := fun z => nomatch hi z h
    rw [List.getElem?_set_ne hj] at h ⊢
    exact e.mu j c h
  · have hj : i ≠ j := fun z => nomatch hi z h1
    have hk : i ≠ k := fun z => nomatch hi z h2
    rw [List.getElem?_set_ne hj] at h1 h3
    rw [List.getElem?_set_ne hk] at h2 h4
    exact e.dis j k c d a h1 h2 h3 h4
theorem EnvOk.wipe (e : EnvOk b L σ Hi H) : ∀ vs : List Nat, EnvOk b (wipeL L vs) (L2.wipe σ vs) Hi H
  | [] => e
  | v :: vs => (e.wipe vs).unset
end
theorem same_ne {A B : Hp} (s : Same A B) {D : Addr} {o : HO} (h : A D = none) : Same A (upd B D o) := fun a u e => by
  rw [upd_ne (ne_of_none e h)]
  exact s a u e

section
variable {X : Cx} {K : Fg} {b : Bs} {L : List En} {E : XK} {α β : Type} [Py α] [Py β]
theorem lc_core {mi : M (List α)} {t : α → M Bool} {f : α → M β} {u : α → List En → List En} {wi : TI} {g : TG} {tt : TT} {te : TE} {sl : List Nat}
    (hi : ∀ σ Hi H, EnvOk b L σ Hi H → ∀ R : It → Hp → Prop, PX K E mi Hi H (fun xs Hi' H' => ∀ J, ItOk K J Hi' xs → R J H') → wi σ H R)
    (hg : ∀ (L : List En) (σ : L2.St) (Hi H : Hp) (y : α) (x : V) (Q : L2.St → Hp → Prop), EnvOk b L σ Hi H → Py.rep K Hi y x → (∀ σ', EnvOk b (u y L) σ' Hi H → wipe σ' sl = wipe σ sl → Q σ' H) → g x σ H Q)
    (ht : ∀ (x : α) σ Hi H, EnvOk b (u x (wipeL L sl)) σ Hi H → ∀ Q : Bool → Hp → Prop, PX K E0 (t x) Hi H (fun a _ H' => Q a H') → tt σ H Q)
    (he : ∀ (x : α) σ Hi H, EnvOk b (u x (wipeL L sl)) σ Hi H → ∀ Q : VK, PV K E0 (f x) Hi H Q → te σ H Q) :
    ∀ σ Hi H, EnvOk b L σ Hi H → ∀ Q : VK, PF K E (ctL K) (mi >>= fun xs => lf t f xs) Hi H Q → tLc wi g tt te sl σ H Q := by
  intro σ Hi H en Q h
  refine hi σ Hi H en _ (h.bind.imp fun xs Hi1 H1 n1 q J it D hD => ?_)
  obtain ⟨hsz, q⟩ := PX.chk q
  cases hys : filE t f xs with
  | error z => rw [hys] at q; exact q.elim
  | ok ys =>
    rw [hys] at q
    have en1 := en.nx n1
    have nD : H D = none := by
      cases z : H D with
      | none => rfl
      | some u => rw [n1.al D u z] at hD; cases hD
    refine ⟨fun i m H2 => m = xs.length - i ∧ i ≤ xs.length ∧ ∃ (Hi2 : Hp) (acc : List V) (pr r : List β), Nx Hi1 H1 Hi2 H2 ∧ H2 D = some (.lst acc) ∧ Hi2 D = none ∧ filE t f (xs.drop i) = .ok r ∧ ys = pr ++ r ∧ Rl K Hi2 pr acc ∧ pr.length ≤ i,
      ⟨_, rfl, Nat.zero_le _, Hi1, [], [], ys, Nx.temp n1.sub hD, upd_same, hi_none n1.sub hD, by rw [List.drop_zero]; exact hys, rfl, .nil, Nat.le_refl _⟩, ?_⟩
    rintro i m H2 ⟨rfl, hil, Hi2, acc, pr, r, n2, hacc, hD2, hr, hyr, ra, hpl⟩
    by_cases hlt : i < xs.length
    · refine .inr ?_
      obtain ⟨y, hy⟩ : ∃ y, xs[i]? = some y := ⟨xs[i], List.getElem?_eq_getElem hlt⟩
      have hdr : xs.drop i = y :: xs.drop (i + 1) := by
        rw [List.drop_eq_getElem_cons hlt]
        congr 1
        exact Option.some.inj ((List.getElem?_eq_getElem hlt).symm.trans hy)
      obtain ⟨go, yl⟩ := it.go i y Hi2 H2 n2.im n2.sub hy
      refine ⟨go, fun H' => (i + 1 ≤ xs.length ∧ ∃ (Hi2 : Hp) (acc : List V) (pr r : List β), Nx Hi1 H1 Hi2 H' ∧ H' D = some (.lst acc) ∧ Hi2 D = none ∧ filE t f (xs.drop (i + 1)) = .ok r ∧ ys = pr ++ r ∧ Rl K Hi2 pr acc ∧ pr.length ≤ i + 1),
        fun H' w => ⟨xs.length - (i + 1), by omega, rfl, w⟩, fun x H3 hx => ?_⟩
      obtain ⟨Hi3, n3, rx⟩ := yl x H3 hx
      have en3 : EnvOk b (wipeL L sl) (wipe σ sl) Hi3 H3 := ((en1.nx n2).nx n3).wipe sl
      have hD3 : Hi3 D = none := n3.cap D (by rw [hacc]; exact fun z => nomatch z) hD2
      refine hg _ _ Hi3 H3 y x _ en3 rx fun σ2 en4 hw => ⟨by rw [hw, wipe_idem], ?_⟩
      rw [hdr] at hr
      have hr' : (t y >>= fun c => if c = true then f y >>= fun z => filE t f (xs.drop (i + 1)) >>= fun zs => pure (z :: zs) else filE t f (xs.drop (i + 1))) = .ok r := hr
      cases hty : t y with
      | error z => rw [hty] at hr'; cases hr'
      | ok c =>
        rw [hty] at hr'
        have hr2 : (if c = true then f y >>= fun z => filE t f (xs.drop (i + 1)) >>= fun zs => pure (z :: zs) else filE t f (xs.drop (i + 1))) = .ok r := hr'
        refine ht y σ2 Hi3 H3 en4 _ ?_
        rw [hty]
        intro Hi4 H4 n4
        have hD4 : Hi4 D = none := n4.cap D (by rw [n3.al _ _ hacc]; exact fun z => nomatch z) hD3
        cases c with
        | false =>
          rw [if_neg Bool.false_ne_true] at hr2
          show (if false = true then _ else _)
          rw [if_neg Bool.false_ne_true]
          exact ⟨hlt, Hi4, acc, pr, r, (n2.trans n3).trans n4, n4.al _ _ (n3.al _ _ hacc), hD4, hr2, hyr, ra.mono (n3.im.trans n4.im), Nat.le_succ_of_le hpl⟩
        | true =>
          rw [if_pos rfl] at hr2
          show (if true = true then _ else _)
          rw [if_pos rfl]
          refine he y σ2 Hi4 H4 (en4.nx n4) _ ?_
          cases hfy : f y with
          | error z => rw [hfy] at hr2; cases hr2
          | ok z =>
            rw [hfy] at hr2
            cases hzs : filE t f (xs.drop (i + 1)) with
            | error z2 => rw [hzs] at hr2; cases hr2
            | ok zs =>
              rw [hzs] at hr2
              have er : z :: zs = r := by cases hr2; rfl
              intro Hi5 H5 n5 v rv
              have hD5 : Hi5 D = none := n5.cap D (by rw [n4.al _ _ (n3.al _ _ hacc)]; exact fun z => nomatch z) hD4
              have n15 : Nx Hi1 H1 Hi5 H5 := ((n2.trans n3).trans n4).trans n5
              refine ⟨acc, n5.al _ _ (n4.al _ _ (n3.al _ _ hacc)), ?_, hlt, Hi5, acc ++ [v], pr ++ [z], zs, ⟨n15.im, same_ne n15.al hD, same_ne n15.sub hD5, n15.cap⟩, upd_same, hD5, rfl, ?_, (ra.mono ((n3.im.trans n4.im).trans n5.im)).app (.cons rv .nil), ?_⟩
              · have := ra.length
                exact Nat.lt_of_lt_of_le (by omega) hsz
              · rw [hyr, ← er, List.append_assoc]; rfl
              · rw [List.length_append]; exact Nat.succ_le_succ hpl
    · have e : i = xs.length := by omega
      subst e
      refine .inl ⟨it.stop _ Hi2 H2 n2.im n2.sub (Nat.le_refl _), ?_⟩
      rw [List.drop_eq_nil_of_le (Nat.le_refl _)] at hr
      have er : ([] : List β) = r := by cases hr; rfl
      rw [← er, List.append_nil] at hyr
      subst hyr
      exact (PX.go (a := ys) q n2) D _ hacc nD hD2 ⟨acc, rfl, ra⟩
theorem lf_lc {f : α → M β} (xs : List α) : lf (fun _ => pure true) f xs = lc f xs := by
  unfold lf lc
  rw [mapE_fil]
theorem je_jf {e : Expr} {m : M (List α)} (h : JF X K b L E e (ctL K) m) : JE X K b L E e m :=
  ⟨fun σ Hi H en Q hq => h.go σ Hi H en Q (by
    cases m with
    | error z => cases z with
      | rs c => exact hq
      | st => exact hq
    | ok xs =>
      intro Hi' H' x p o h1 h2 h3 h4
      obtain ⟨vs, rfl, r⟩ := h4
      have sm : Same Hi' (upd Hi' p (.lst vs)) := same_new h3
      have x2 : Nx Hi H (upd Hi' p (.lst vs)) H' := ⟨x.im.trans sm, x.al, fun a u e => by
        by_cases ha : a = p
        · subst ha; rw [upd_same] at e; cases e; exact h1
        · rw [upd_ne ha] at e; exact x.sub a u e, fun a ha hn => by
        rw [upd_ne (fun z => ha (by rw [z]; exact h2))]
        exact x.cap a ha hn⟩
      exact (show ∀ Hi' H', Nx Hi H Hi' H' → ∀ v, Py.rep K Hi' xs v → Q v H' from hq) _ _ x2 _ ⟨p, vs, rfl, .of upd_same, r.mono sm⟩)⟩
abbrev Bk : Type := Shared × Hp × Addr × List (Str × Addr) × List Addr
abbrev blkX (X : Cx) (scope : Scope) (p : Bk) : Cx := X.blk p.1 p.2.1 scope (compEnvC scope p.2.2.2.1 p.2.2.1 X.env) p.2.2.2.2
variable {tg iter elt c : Expr} {scope : Scope} {pos pos' py spos : Pos} {own : List (Str × Nat)} {u : α → List En → List En} {mi : M (List α)} {t : α → M Bool} {f : α → M β}
theorem jf_lf (hi : JI X K b L E tg iter mi) (hg : JG (blkX X scope) K tg (own.map (·.2)) u) (ht : ∀ (p : Bk) (x : α), JT (blkX X scope p) K b (u x (wipeL L (own.map (·.2)))) E0 c (t x)) (he : ∀ (p : Bk) (x : α), JE (blkX X scope p) K b (u x (wipeL L (own.map (·.2)))) E0 elt (f x))
    (hN : X.N.Nodup) (ok : BlkOk X.N X.env.scope scope own) (hc : X.calm = true := by rfl) (hs : ∀ x, foldedSetIterable iter X.env x = pure x := by intro _; rfl) : JF X K b L E (.ListComp elt [⟨tg, iter, [c], 0⟩] scope pos) (ctL K) (mi >>= fun xs => lf t f xs) := by
  obtain ⟨g, dg, pg⟩ := hg.ex
  refine ⟨fun σ Hi H en Q hq => PE.wp (pe_lc (tt := fun σ H Q => ∀ p : Bk, wpT (blkX X scope p) c σ H Q) (te := fun σ H Q => ∀ p : Bk, wpE (blkX X scope p) elt σ H Q) hc hN pi_wp ok (fun s H C cl fp => dg (s, H, C, cl, fp)) (fun s H C cl fp => pts_one ⟨fun pins s' σ' H' Q' I h => h (s, H, C, cl, fp) pins s' I⟩)
    (fun s H C cl fp => ⟨fun pins s' σ' H' Q' I h => h (s, H, C, cl, fp) pins s' I⟩) hs) (lc_core (u := u) hi.go (fun L => pg b L) (fun x σ Hi H en Q h p => (ht p x).go σ Hi H en Q h) (fun x σ Hi H en Q h p => (he p x).go σ Hi H en Q h) σ Hi H en Q hq)⟩
theorem jf_lc (hi : JI X K b L E tg iter mi) (hg : JG (blkX X scope) K tg (own.map (·.2)) u) (he : ∀ (p : Bk) (x : α), JE (blkX X scope p) K b (u x (wipeL L (own.map (·.2)))) E0 elt (f x))
    (hN : X.N.Nodup) (ok : BlkOk X.N X.env.scope scope own) (hc : X.calm = true := by rfl) (hs : ∀ x, foldedSetIterable iter X.env x = pure x := by intro _; rfl) : JF X K b L E (.ListComp elt [⟨tg, iter, [], 0⟩] scope pos) (ctL K) (mi >>= fun xs => lc f xs) := by
  obtain ⟨g, dg, pg⟩ := hg.ex
  refine ⟨fun σ Hi H en Q hq => PE.wp (pe_lc (tt := tYes) (te := fun σ H Q => ∀ p : Bk, wpE (blkX X scope p) elt σ H Q) hc hN pi_wp ok (fun s H C cl fp => dg (s, H, C, cl, fp)) (fun _ _ _ _ _ => pts_nil)
    (fun s H C cl fp => ⟨fun pins s' σ' H' Q' I h => h (s, H, C, cl, fp) pins s' I⟩) hs) (lc_core (u := u) (t := fun _ => pure true) hi.go (fun L => pg b L) (fun x σ Hi H en Q h => h.here en.sub) (fun x σ Hi H en Q h p => (he p x).go σ Hi H en Q h) σ Hi H en Q ?_)⟩
  have e : (fun xs => lf (fun _ => pure true) f xs) = fun xs => lc f xs := funext lf_lc
  rw [e]
  exact hq
/-! x = [..] where the store is made within -/
theorem j1_setLc0 {m : M (List β)} {te : TE} {mk : TE → Prop} (i : Nat) {y : Str} (d : PS X (.Assign [.Name y py] elt spos) (tAsg te (gName i))) (h : ∀ σ Hi H, EnvOk b L σ Hi H → ∀ Q : VK, PF K E (ctL K) m Hi H Q → te σ H Q) : J1 X K b L E (.Assign [.Name y py] elt spos) m (fun a => L.set i (.mu (ctL K a))) :=
  ⟨fun σ Hi H en D hz => PS.wp d (h σ Hi H en _ ((PZ.px en hz).imp fun a Hi' H' x q p o h1 h2 h3 h4 => q _ Hi' H' (en.setFresh x h1 h2 h3 h4)))⟩
theorem j1_setLf (i : Nat) {y : Str} (hi : JI X K b L E tg iter mi) (hg : JG (blkX X scope) K tg (own.map (·.2)) u) (ht : ∀ (p : Bk) (x : α), JT (blkX X scope p) K b (u x (wipeL L (own.map (·.2)))) E0 c (t x)) (he : ∀ (p : Bk) (x : α), JE (blkX X scope p) K b (u x (wipeL L (own.map (·.2)))) E0 elt (f x))
    (hN : X.N.Nodup) (ok : BlkOk X.N X.env.scope scope own) (hy : X.N[i]? = some y := by rfl) (hyl : X.env.scope.names.lookup y = some .local := by rfl) (hc : X.calm = true := by rfl) (hs : ∀ x, foldedSetIterable iter X.env x = pure x := by intro _; rfl)
    (hsw : swapsWith (.ListComp elt [⟨tg, iter, [c], 0⟩] scope pos) (some (.Name y py)) spos.line X.env = pure true := by exact sw_true rfl rfl rfl (by decide +kernel)) :
    J1 X K b L E (.Assign [.Name y py] (.ListComp elt [⟨tg, iter, [c], 0⟩] scope pos) spos) (mi >>= fun xs => lf t f xs) (fun a => L.set i (.mu (ctL K a))) := by
  obtain ⟨g, dg, pg⟩ := hg.ex
  exact j1_setLc0 (mk := fun _ => True) i (ps_setLc (tt := fun σ H Q => ∀ p : Bk, wpT (blkX X scope p) c σ H Q) (te := fun σ H Q => ∀ p : Bk, wpE (blkX X scope p) elt σ H Q) hc hN hy hyl hsw pi_wp ok (fun s H C cl fp => dg (s, H, C, cl, fp)) (fun s H C cl fp => pts_one ⟨fun pins s' σ' H' Q' I h => h (s, H, C, cl, fp) pins s' I⟩)
    (fun s H C cl fp => ⟨fun pins s' σ' H' Q' I h => h (s, H, C, cl, fp) pins s' I⟩) hs) (lc_core (u := u) hi.go (fun L => pg b L) (fun x σ Hi H en Q h p => (ht p x).go σ Hi H en Q h) (fun x σ Hi H en Q h p => (he p x).go σ Hi H en Q h))
theorem j1_setLc (i : Nat) {y : Str} (hi : JI X K b L E tg iter mi) (hg : JG (blkX X scope) K tg (own.map (·.2)) u) (he : ∀ (p : Bk) (x : α), JE (blkX X scope p) K b (u x (wipeL L (own.map (·.2)))) E0 elt (f x))
    (hN : X.N.Nodup) (ok : BlkOk X.N X.env.scope scope own) (hy : X.N[i]? = some y := by rfl) (hyl : X.env.scope.names.lookup y = some .local := by rfl) (hc : X.calm = true := by rfl) (hs : ∀ x, foldedSetIterable iter X.env x = pure x := by intro _; rfl)
    (hsw : swapsWith (.ListComp elt [⟨tg, iter, [], 0⟩] scope pos) (some (.Name y py)) spos.line X.env = pure true := by exact sw_true rfl rfl rfl (by decide +kernel)) :
    J1 X K b L E (.Assign [.Name y py] (.ListComp elt [⟨tg, iter, [], 0⟩] scope pos) spos) (mi >>= fun xs => lc f xs) (fun a => L.set i (.mu (ctL K a))) := by
  obtain ⟨g, dg, pg⟩ := hg.ex
  refine j1_setLc0 (mk := fun _ => True) i (ps_setLc (tt := tYes) (te := fun σ H Q => ∀ p : Bk, wpE (blkX X scope p) elt σ H Q) hc hN hy hyl hsw pi_wp ok (fun s H C cl fp => dg (s, H, C, cl, fp)) (fun _ _ _ _ _ => pts_nil)
    (fun s H C cl fp => ⟨fun pins s' σ' H' Q' I h => h (s, H, C, cl, fp) pins s' I⟩) hs) (fun σ Hi H en Q hq => lc_core (u := u) (t := fun _ => pure true) hi.go (fun L => pg b L) (fun x σ Hi H en Q h => h.here en.sub) (fun x σ Hi H en Q h p => (he p x).go σ Hi H en Q h) σ Hi H en Q ?_)
  have e : (fun xs => lf (fun _ => pure true) f xs) = fun xs => lc f xs := funext lf_lc
  rw [e]
  exact hq
end
/-! targets -/
theorem jg_name {ι : Type} {X : ι → Cx} {K : Fg} {α : Type} [Py α] (i : Nat) {x : Str} {pos : Pos} (hN : ∀ j, (X j).N.Nodup) (hi : ∀ j, (X j).N[i]? = some x := by intro _; rfl) (hx : ∀ j, Loc (X j).env.scope x := by intro _; first | exact Or.inl rfl | exact Or.inr rfl)
    (hf : ∀ j, (X j).fn x = true ∨ (X j).env.scope.names.lookup x = some .local := by intro _; first | exact .inl rfl | exact .inr rfl) : JG X K (.Name x pos) [i] (fun (y : α) L => L.set i (.im (rp K y))) :=
  ⟨⟨gName i, fun j => pg_name (hN j) (hi j) (hx j) (hf j), fun b L σ Hi H y v Q en r k => k _ (en.set (p := rp K y) r) (by show (σ.set i (some v)).set i none = σ.set i none; rw [List.set_set])⟩⟩
theorem jg_pair {ι : Type} {X : ι → Cx} {K : Fg} {α β : Type} [Py α] [Py β] (i j : Nat) {x y : Str} {pos px py : Pos} {kx : Nat} (hN : ∀ k, (X k).N.Nodup) (hi : ∀ k, (X k).N[i]? = some x := by intro _; rfl) (hj : ∀ k, (X k).N[j]? = some y := by intro _; rfl)
    (hx : ∀ j, Loc (X j).env.scope x := by intro _; first | exact Or.inl rfl | exact Or.inr rfl) (hy : ∀ j, Loc (X j).env.scope y := by intro _; first | exact Or.inl rfl | exact Or.inr rfl)
    (hf : ∀ j, (X j).fn x = true ∨ (X j).env.scope.names.lookup x = some .local := by intro _; first | exact .inl rfl | exact .inr rfl) (hf2 : ∀ j, (X j).fn y = true ∨ (X j).env.scope.names.lookup y = some .local := by intro _; first | exact .inl rfl | exact .inr rfl)
    (hc : ∀ j, (X j).calm = true := by intro _; rfl) (hK : ∀ j, (X j).K = K := by intro _; rfl) : JG X K (.Tuple [.Name x px, .Name y py] kx pos) [i, j] (fun (p : α × β) L => (L.set i (.im (rp K p.1))).set j (.im (rp K p.2))) :=
  ⟨⟨gTup K 2 (gCons (gName i) (gCons (gName j) gNil)), fun k => by
    have := pg_tup (k := kx) (pos := pos) (n := 2) (hc k) (pgs_cons (pg_name (pos := px) (hN k) (hi k) (hx k) (hf k)) (pgs_cons (pg_name (pos := py) (hN k) (hj k) (hy k) (hf2 k)) pgs_nil))
    rw [hK k] at this
    exact this, fun b L σ Hi H p v Q en r k => by
    obtain ⟨q, v1, v2, rfl, g1, g2, g3⟩ := r
    refine ⟨q, [v1, v2], rfl, sqt_mono en.sub g1, rfl, v1, [v2], rfl, v2, [], rfl, rfl, k _ ((en.set (p := rp K p.1) g2).set (p := rp K p.2) g3) ?_⟩
    show ((((σ.set i (some v1)).set j (some v2)).set j none).set i none) = (σ.set j none).set i none
    rw [List.set_set]
    by_cases e : i = j
    · subst e; simp [List.set_set]
    · rw [List.set_comm _ _ e, List.set_set, List.set_comm _ _ (Ne.symm e)]⟩⟩

/-! ### loops -/
def forT {α S R : Type} (f : S → α → M (Tl S R)) (s : S) : List α → M (S ⊕ R)
  | [] => pure (.inl s)
  | x :: xs => f s x >>= fun t => match t with
    | .ct s' => forT f s' xs
    | .bk s' => pure (.inl s')
    | .rt r => pure (.inr r)
/-- a loop that only goes on, a loop without a return -/
def forP {α S : Type} (f : S → α → M S) (s : S) : List α → M S
  | [] => pure s
  | x :: xs => f s x >>= fun s' => forP f s' xs
inductive No
instance : Py No := ⟨fun _ _ e _ => (nomatch e), by intro K H H' a v; exact nomatch a⟩
def forB {α S : Type} (f : S → α → M (Tl S No)) (s : S) : List α → M S
  | [] => pure s
  | x :: xs => f s x >>= fun t => match t with
    | .ct s' => forB f s' xs
    | .bk s' => pure s'
/-- behind a loop that may return -/
def thenT {S R β : Type} (mr : S → M β) (wr : R → β) : S ⊕ R → M β
  | .inl s => mr s
  | .inr r => pure (wr r)
def whT {S R : Type} (c : S → M Bool) (f : S → M (Tl S R)) : Nat → S → M (S ⊕ R)
  | 0, _ => stuck
  | n + 1, s => c s >>= fun t => if t = true then f s >>= fun t => (match t with
    | .ct s' => whT c f n s'
    | .bk s' => pure (.inl s')
    | .rt r => pure (.inr r)) else pure (.inl s)
def whP {S : Type} (c : S → M Bool) (f : S → M S) : Nat → S → M S
  | 0, _ => stuck
  | n + 1, s => c s >>= fun t => if t = true then f s >>= fun s' => whP c f n s' else pure s
def whB {S : Type} (c : S → M Bool) (f : S → M (Tl S No)) : Nat → S → M S
  | 0, _ => stuck
  | n + 1, s => c s >>= fun t => if t = true then f s >>= fun t => (match t with
    | .ct s' => whB c f n s'
    | .bk s' => pure s') else pure s
def outT {S R : Type} (f : S → R) : S ⊕ No → R
  | .inl s => f s
theorem bcong {α β : Type} {m : M α} {f g : α → M β} (h : ∀ a, f a = g a) : (m >>= f) = (m >>= g) := by rw [funext h]
theorem forP_T {α S R : Type} (f : S → α → M S) : ∀ (xs : List α) (s : S), forT (R := R) (fun s x => f s x >>= fun s' => pure (.ct s')) s xs = (forP f s xs >>= fun s => pure (.inl s))
  | [], s => rfl
  | x :: xs, s => by
    show ((f s x >>= fun s' => pure (Tl.ct s')) >>= _) = ((f s x >>= fun s' => forP f s' xs) >>= _)
    rw [bind_assoc, bind_assoc]
    refine bcong fun s' => ?_
    exact forP_T f xs s'
theorem forB_T {α S R : Type} (f : S → α → M (Tl S No)) : ∀ (xs : List α) (s : S), (forT f s xs >>= fun z => pure (outT id z)) = forB f s xs
  | [], s => rfl
  | x :: xs, s => by
    show ((f s x >>= _) >>= _) = (f s x >>= _)
    rw [bind_assoc]
    refine bcong fun t => ?_
    cases t with
    | ct s' => exact forB_T (R := R) f xs s'
    | bk s' => rfl
    | rt r => exact nomatch r
theorem whP_T {S R : Type} (c : S → M Bool) (f : S → M S) : ∀ (n : Nat) (s : S), whT (R := R) c (fun s => f s >>= fun s' => pure (.ct s')) n s = (whP c f n s >>= fun s => pure (.inl s))
  | 0, s => rfl
  | n + 1, s => by
    unfold whT whP
    refine Eq.trans (bcong fun t => ?_) (bind_assoc _ _ _).symm
    cases t with
    | false => rfl
    | true =>
      rw [if_pos rfl, if_pos rfl, bind_assoc, bind_assoc]
      refine bcong fun s' => ?_
      exact whP_T c f n s'
theorem whB_T {S : Type} (c : S → M Bool) (f : S → M (Tl S No)) : ∀ (n : Nat) (s : S), (whT c f n s >>= fun z => pure (outT id z)) = whB c f n s
  | 0, s => rfl
  | n + 1, s => by
    show ((c s >>= _) >>= _) = (c s >>= _)
    rw [bind_assoc]
    refine bcong fun t => ?_
    cases t with
    | false => rfl
    | true =>
      show ((f s >>= _) >>= _) = (f s >>= _)
      rw [bind_assoc]
      refine bcong fun t => ?_
      cases t with
      | ct s' => exact whB_T c f n s'
      | bk s' => rfl
      | rt r => exact nomatch r

section
variable {X : Cx} {K : Fg} {b : Bs} {L : List En} {E : XK} {α S R : Type} [Py α] [Py R]
theorem PZ.up {β : Type} {m : M β} {F H0 : Hp} {post : β → Prop} (o : Ok b F H0) (h : PZ K E b m post) : PZ K E (b.fl F) m post := by
  cases m with
  | ok a => exact h
  | error z => cases z with
    | rs c => exact fun Hi H o' => h Hi H (o.down o')
    | st => exact h
/-- what a loop's end is -/
def pEnd (K : Fg) (b : Bs) (Lf : S → List En) (z : S ⊕ R) (D : Ends) : Prop := match z with
  | .inl s => pNx b Lf s D
  | .inr r => pRt K b r D
theorem tl_up {Lf : S → List En} {F H0 : Hp} {t : Tl S R} {D : Ends} (o : Ok b F H0) (h : pTl K b Lf t D) : pTl K (b.fl F) Lf t D := by
  cases t with
  | ct s => exact fun σ Hi H en => h σ Hi H (EnvOk.down o en)
  | bk s => exact fun σ Hi H en => h σ Hi H (EnvOk.down o en)
  | rt r => exact fun v Hi H o' rv => h v Hi H (o.down o') rv
theorem for_core {Lf : S → List En} {f : S → α → M (Tl S R)} {xs : List α} {s0 : S} {u : α → List En → List En} {g : TG} {tb : TS} {D : Ends} {J : It} {σ0 : L2.St} {Hi0 H0 : Hp} {sl : List Nat}
    (it : ItOk K J Hi0 xs) (en0 : EnvOk b (Lf s0) σ0 Hi0 H0)
    (hg : ∀ (b : Bs) (L : List En) (σ : L2.St) (Hi H : Hp) (y : α) (x : V) (Q : L2.St → Hp → Prop), EnvOk b L σ Hi H → Py.rep K Hi y x → (∀ σ', EnvOk b (u y L) σ' Hi H → wipe σ' sl = wipe σ sl → Q σ' H) → g x σ H Q)
    (hb : ∀ (F : Hp) (s : S) (x : α) σ Hi H, EnvOk (b.fl F) (u x (Lf s)) σ Hi H → ∀ D : Ends, D.nx = D.ct → PZ K E (b.fl F) (f s x) (fun t => pTl K (b.fl F) Lf t D) → tb D σ H)
    (hz : PZ K E b (forT f s0 xs) (fun z => pEnd K b Lf z D)) :
    ∃ W : Nat → Nat → L2.St → Hp → Prop, (∃ m, W 0 m σ0 H0) ∧ ∀ i m σ H, W i m σ H →
      (J.stop i H ∧ D.nx σ H) ∨ (J.go i H ∧ ∃ N : L2.St → Hp → Prop, (∀ σ' H', N σ' H' → ∃ m', m' < m ∧ W (i + 1) m' σ' H') ∧ ∀ x H', J.yld i H x H' → g x σ H' fun σ2 H2 => tb { D with nx := N, ct := N, bk := D.nx } σ2 H2) := by
  have o0 := en0.ok
  refine ⟨fun i m σ H => ∃ (s : S) (Hi : Hp), m = xs.length - i ∧ i ≤ xs.length ∧ EnvOk (b.fl Hi0) (Lf s) σ Hi H ∧ PZ K E b (forT f s (xs.drop i)) (fun z => pEnd K b Lf z D), ⟨_, s0, Hi0, rfl, Nat.zero_le _, en0.up, hz⟩, ?_⟩
  rintro i m σ H ⟨s, Hi, rfl, hil, en, hq⟩
  have sm0 : Same Hi0 Hi := en.ok.base
  by_cases hlt : i < xs.length
  · refine .inr ?_
    obtain ⟨y, hy⟩ : ∃ y, xs[i]? = some y := ⟨xs[i], List.getElem?_eq_getElem hlt⟩
    have hdr : xs.drop i = y :: xs.drop (i + 1) := by
      rw [List.drop_eq_getElem_cons hlt]
      congr 1
      exact Option.some.inj ((List.getElem?_eq_getElem hlt).symm.trans hy)
    rw [hdr] at hq
    obtain ⟨go, yl⟩ := it.go i y Hi H sm0 en.sub hy
    refine ⟨go, fun σ' H' => ∃ (s : S) (Hi : Hp), i + 1 ≤ xs.length ∧ EnvOk (b.fl Hi0) (Lf s) σ' Hi H' ∧ PZ K E b (forT f s (xs.drop (i + 1))) (fun z => pEnd K b Lf z D), fun σ' H' ⟨s', Hi', w1, w2, w3⟩ => ⟨xs.length - (i + 1), by omega, s', Hi', rfl, w1, w2, w3⟩, fun x H1 hx => ?_⟩
    obtain ⟨Hi1, n1, rx⟩ := yl x H1 hx
    refine hg _ _ _ Hi1 H1 y x _ (en.nx n1) rx fun σ2 en2 _ => ?_
    refine hb Hi0 s y σ2 Hi1 H1 en2 _ rfl (PZ.up o0 ((PZ.bindz hq).imp fun t q => ?_))
    cases t with
    | ct s' => exact fun σ3 Hi3 H3 en3 => ⟨s', Hi3, hlt, en3, q⟩
    | bk s' => exact fun σ3 Hi3 H3 en3 => (show pNx b Lf s' D from q) σ3 Hi3 H3 (EnvOk.down o0 en3)
    | rt r => exact fun v Hi3 H3 o3 rv => (show pRt K b r D from q) v Hi3 H3 (o0.down o3) rv
  · have e : i = xs.length := by omega
    subst e
    refine .inl ⟨it.stop _ Hi H sm0 en.sub (Nat.le_refl _), ?_⟩
    rw [List.drop_eq_nil_of_le (Nat.le_refl _)] at hq
    exact (show pNx b Lf s D from hq) σ Hi H (EnvOk.down o0 en)
variable {tg iter : Expr} {body rest : List Stmt} {pos : Pos} {mi : M (List α)} {u : α → List En → List En} {Lf : S → List En} {s0 : S} {sl : List Nat}
/-- a loop that may return -/
theorem js_forR {β : Type} {post : β → Ends → Prop} {tl : Ends → Prop} {f : S → α → M (Tl S R)} {mr : S → M β} (wr : R → β) (hw : ∀ r D, post (wr r) D → pRt K b r D) (hi : JI X K b L E tg iter mi) (hg : JG (fun _ : Unit => X) K tg sl u) (w : Wk L (Lf s0))
    (hb : ∀ (F : Hp) (s : S) (x : α), JS X K (b.fl F) (u x (Lf s)) E body tlLp (f s x) (pTl K (b.fl F) Lf)) (hr : ∀ s, JS X K b (Lf s) E rest tl (mr s) post) (hp : PassesOwn (model X.prog X.w) X.A X.env X.xe) (hc : X.calm = true := by rfl) (hs : ∀ x, foldedSetIterable iter X.env x = pure x := by intro _; rfl) :
    JS X K b L E (.For tg iter body [] pos :: rest) tl (mi >>= fun xs => forT f s0 xs >>= thenT mr wr) post := by
  obtain ⟨g, dg, pg⟩ := hg.ex
  refine ⟨fun σ Hi H en D ht hz => PSs.wp (pss_cons (ps_for hp hc pi_wp (dg ()) pss_wp hs) pss_wp) ?_⟩
  refine hi.go σ Hi H en _ ((PZ.bind en hz).imp fun xs Hi1 H1 n1 q J it => ?_)
  refine for_core (f := f) (s0 := s0) (Lf := Lf) (u := u) it ((en.nx n1).wk w) pg (fun F s x σ Hi H en D hD hz => (hb F s x).go σ Hi H en D (fun σ H h => by rw [hD]; exact h) hz) (q.bindz.imp fun z hz2 => ?_)
  cases z with
  | inl s => exact fun σ' Hi' H' en' => (hr s).go σ' Hi' H' en' D ht hz2
  | inr r => exact hw r D hz2
theorem j1_forB {f : S → α → M (Tl S No)} (hi : JI X K b L E tg iter mi) (hg : JG (fun _ : Unit => X) K tg sl u) (w : Wk L (Lf s0))
    (hb : ∀ (F : Hp) (s : S) (x : α), JS X K (b.fl F) (u x (Lf s)) E body tlLp (f s x) (pTl K (b.fl F) Lf)) (hp : PassesOwn (model X.prog X.w) X.A X.env X.xe) (hc : X.calm = true := by rfl) (hs : ∀ x, foldedSetIterable iter X.env x = pure x := by intro _; rfl) :
    J1 X K b L E (.For tg iter body [] pos) (mi >>= fun xs => forB f s0 xs) Lf := by
  obtain ⟨g, dg, pg⟩ := hg.ex
  refine ⟨fun σ Hi H en D hz => PS.wp (ps_for hp hc pi_wp (dg ()) pss_wp hs) ?_⟩
  refine hi.go σ Hi H en _ ((PZ.bind en hz).imp fun xs Hi1 H1 n1 q J it => ?_)
  rw [← forB_T (R := No)] at q
  refine for_core (f := f) (s0 := s0) (Lf := Lf) (u := u) it ((en.nx n1).wk w) pg (fun F s x σ Hi H en D hD hz => (hb F s x).go σ Hi H en D (fun σ H h => by rw [hD]; exact h) hz) (q.bindz.imp fun z hz2 => ?_)
  cases z with
  | inl s => exact hz2
  | inr r => exact nomatch r
theorem j1_forP {f : S → α → M S} (hi : JI X K b L E tg iter mi) (hg : JG (fun _ : Unit => X) K tg sl u) (w : Wk L (Lf s0))
    (hb : ∀ (F : Hp) (s : S) (x : α), JS X K (b.fl F) (u x (Lf s)) E body tlAny (f s x) (pNx (b.fl F) Lf)) (hp : PassesOwn (model X.prog X.w) X.A X.env X.xe) (hc : X.calm = true := by rfl) (hs : ∀ x, foldedSetIterable iter X.env x = pure x := by intro _; rfl) :
    J1 X K b L E (.For tg iter body [] pos) (mi >>= fun xs => forP f s0 xs) Lf := by
  obtain ⟨g, dg, pg⟩ := hg.ex
  refine ⟨fun σ Hi H en D hz => PS.wp (ps_for hp hc pi_wp (dg ()) pss_wp hs) ?_⟩
  refine hi.go σ Hi H en _ ((PZ.bind en hz).imp fun xs Hi1 H1 n1 q J it => ?_)
  refine for_core (R := No) (f := fun s x => f s x >>= fun s' => pure (.ct s')) (s0 := s0) (Lf := Lf) (u := u) it ((en.nx n1).wk w) pg (fun F s x σ Hi H en D hD hz => (hb F s x).go σ Hi H en D trivial (hz.bindz.imp fun s' h σ2 Hi2 H2 en2 => ?_)) ?_
  · rw [hD]; exact (show ∀ σ' Hi' H', EnvOk (b.fl F) (Lf s') σ' Hi' H' → D.ct σ' H' from h) σ2 Hi2 H2 en2
  · rw [forP_T]
    cases hm : forP f s0 xs with
    | ok a => rw [hm] at q; exact q
    | error z => rw [hm] at q; cases z <;> exact q

theorem wh_core {c : S → M Bool} {f : S → M (Tl S R)} {tc : TT} {tb : TS} {D : Ends} {σ0 : L2.St} {Hi0 H0 : Hp} {n : Nat} (en0 : EnvOk b (Lf s0) σ0 Hi0 H0)
    (hc : ∀ (s : S) σ Hi H, EnvOk b (Lf s) σ Hi H → ∀ Q : Bool → Hp → Prop, PX K E (c s) Hi H (fun a _ H' => Q a H') → tc σ H Q)
    (hb : ∀ (s : S) σ Hi H, EnvOk b (Lf s) σ Hi H → ∀ D : Ends, D.nx = D.ct → PZ K E b (f s) (fun t => pTl K b Lf t D) → tb D σ H)
    (hz : PZ K E b (whT c f n s0) (fun z => pEnd K b Lf z D)) : tWhile tc tb D σ0 H0 := by
  refine ⟨fun m σ H => ∃ (s : S) (Hi : Hp), EnvOk b (Lf s) σ Hi H ∧ PZ K E b (whT c f m s) (fun z => pEnd K b Lf z D), ⟨n, s0, Hi0, en0, hz⟩, ?_⟩
  rintro m σ H ⟨s, Hi, en, hq⟩
  cases m with
  | zero => exact hq.elim
  | succ m =>
    refine hc s σ Hi H en _ ((PZ.bind en hq).imp fun t Hi1 H1 n1 q => ?_)
    cases t with
    | false =>
      rw [if_neg Bool.false_ne_true] at q ⊢
      exact (show pNx b Lf s D from q) σ Hi1 H1 (en.nx n1)
    | true =>
      rw [if_pos rfl] at q ⊢
      refine ⟨fun σ' H' => ∃ (s : S) (Hi : Hp), EnvOk b (Lf s) σ' Hi H' ∧ PZ K E b (whT c f m s) (fun z => pEnd K b Lf z D), fun σ' H' w => ⟨m, Nat.lt_succ_self _, w⟩, ?_⟩
      refine hb s σ Hi1 H1 (en.nx n1) _ rfl (q.bindz.imp fun t q2 => ?_)
      cases t with
      | ct s' => exact fun σ3 Hi3 H3 en3 => ⟨s', Hi3, en3, q2⟩
      | bk s' => exact q2
      | rt r => exact q2
variable {c : Expr} {mc : S → M Bool}
theorem js_whR {β : Type} {post : β → Ends → Prop} {tl : Ends → Prop} {f : S → M (Tl S R)} {mr : S → M β} (n : Nat) (wr : R → β) (hw : ∀ r D, post (wr r) D → pRt K b r D) (w : Wk L (Lf s0)) (hc : ∀ s, JT X K b (Lf s) E c (mc s))
    (hb : ∀ (s : S), JS X K b (Lf s) E body tlLp (f s) (pTl K b Lf)) (hr : ∀ s, JS X K b (Lf s) E rest tl (mr s) post) (hp : PassesOwn (model X.prog X.w) X.A X.env X.xe) :
    JS X K b L E (.While c body [] pos :: rest) tl (whT mc f n s0 >>= thenT mr wr) post := by
  refine ⟨fun σ Hi H en D ht hz => PSs.wp (pss_cons (ps_while hp pt_wp pss_wp) pss_wp) ?_⟩
  refine wh_core (c := mc) (f := f) (n := n) (en.wk w) (fun s => (hc s).go) (fun s σ Hi H en D hD hz => (hb s).go σ Hi H en D (fun σ H h => by rw [hD]; exact h) hz) (hz.bindz.imp fun z hz2 => ?_)
  cases z with
  | inl s => exact fun σ' Hi' H' en' => (hr s).go σ' Hi' H' en' D ht hz2
  | inr r => exact hw r D hz2
theorem j1_whB {f : S → M (Tl S No)} (n : Nat) (w : Wk L (Lf s0)) (hc : ∀ s, JT X K b (Lf s) E c (mc s)) (hb : ∀ (s : S), JS X K b (Lf s) E body tlLp (f s) (pTl K b Lf)) (hp : PassesOwn (model X.prog X.w) X.A X.env X.xe) : J1 X K b L E (.While c body [] pos) (whB mc f n s0) Lf := by
  refine ⟨fun σ Hi H en D hz => PS.wp (ps_while hp pt_wp pss_wp) ?_⟩
  rw [← whB_T] at hz
  refine wh_core (c := mc) (f := f) (n := n) (en.wk w) (fun s => (hc s).go) (fun s σ Hi H en D hD hz => (hb s).go σ Hi H en D (fun σ H h => by rw [hD]; exact h) hz) (hz.bindz.imp fun z hz2 => ?_)
  cases z with
  | inl s => exact hz2
  | inr r => exact nomatch r
theorem j1_whP {f : S → M S} (n : Nat) (w : Wk L (Lf s0)) (hc : ∀ s, JT X K b (Lf s) E c (mc s)) (hb : ∀ (s : S), JS X K b (Lf s) E body tlAny (f s) (pNx b Lf)) (hp : PassesOwn (model X.prog X.w) X.A X.env X.xe) : J1 X K b L E (.While c body [] pos) (whP mc f n s0) Lf := by
  refine ⟨fun σ Hi H en D hz => PS.wp (ps_while hp pt_wp pss_wp) ?_⟩
  refine wh_core (R := No) (c := mc) (f := fun s => f s >>= fun s' => pure (.ct s')) (n := n) (en.wk w) (fun s => (hc s).go) (fun s σ Hi H en D hD hz => (hb s).go σ Hi H en D trivial (hz.bindz.imp fun s' h σ2 Hi2 H2 en2 => ?_)) ?_
  · rw [hD]; exact (show ∀ σ' Hi' H', EnvOk b (Lf s') σ' Hi' H' → D.ct σ' H' from h) σ2 Hi2 H2 en2
  · rw [whP_T]
    cases hm : whP mc f n s0 with
    | ok a => rw [hm] at hz; exact hz
    | error z => rw [hm] at hz; cases z <;> exact hz
end
end G

set_option Elab.async false
set_option linter.all false
set_option maxRecDepth 100000
set_option maxHeartbeats 2000000
namespace G
open PySem L2 TL
abbrev FUEL : Nat := 1000000000000
theorem bt_len : bootBuiltins "len" = some (.builtin "len") := by decide +kernel
theorem bt_isinstance : bootBuiltins "isinstance" = some (.builtin "isinstance") := by decide +kernel
theorem bt_sorted : bootBuiltins "sorted" = some (.builtin "sorted") := by decide +kernel
theorem bt_max : bootBuiltins "max" = some (.builtin "max") := by decide +kernel
theorem bt_min : bootBuiltins "min" = some (.builtin "min") := by decide +kernel
theorem bt_sum : bootBuiltins "sum" = some (.builtin "sum") := by decide +kernel
theorem bt_all : bootBuiltins "all" = some (.builtin "all") := by decide +kernel
theorem bt_any : bootBuiltins "any" = some (.builtin "any") := by decide +kernel
theorem bt_abs : bootBuiltins "abs" = some (.builtin "abs") := by decide +kernel
theorem bt_bool : bootBuiltins "bool" = some (.type "bool") := by decide +kernel
theorem bt_int : bootBuiltins "int" = some (.type "int") := by decide +kernel
theorem bt_str : bootBuiltins "str" = some (.type "str") := by decide +kernel
theorem bt_list : bootBuiltins "list" = some (.type "list") := by decide +kernel
theorem bt_tuple : bootBuiltins "tuple" = some (.type "tuple") := by decide +kernel
theorem bt_dict : bootBuiltins "dict" = some (.type "dict") := by decide +kernel
theorem bt_set : bootBuiltins "set" = some (.type "set") := by decide +kernel
theorem bt_range : bootBuiltins "range" = some (.type "range") := by decide +kernel
theorem bt_enumerate : bootBuiltins "enumerate" = some (.type "enumerate") := by decide +kernel
theorem bt_zip : bootBuiltins "zip" = some (.type "zip") := by decide +kernel
theorem bt_reversed : bootBuiltins "reversed" = some (.type "reversed") := by decide +kernel
section
variable {P : Program} {w : World} {K : Fg} {mg : Str → Option Value} {base : Heap} {N : List Str} {qual : Str} {sc : Scope} {f : Addr} {cdv : Value} {A : Around} {outer : List Env} {s : Shared} {H : Hp} {E : XK}
theorem takF : Takes (cxOf (L2.CX P w) P w K mg base N qual sc f cdv A outer s H E) (fun cls d _ H => E cls d H) := takes_of rfl rfl rfl rfl
theorem pasF : Passes (L2.CX P w) (cxOf (L2.CX P w) P w K mg base N qual sc f cdv A outer s H E) E := passes_call takF (fun _ _ _ _ h => h)
theorem pasO : PassesOwn (model P w) (cxOf (L2.CX P w) P w K mg base N qual sc f cdv A outer s H E).A (cxOf (L2.CX P w) P w K mg base N qual sc f cdv A outer s H E).env (cxOf (L2.CX P w) P w K mg base N qual sc f cdv A outer s H E).xe := passes_of rfl
end
theorem cx_false {P : Program} {w : World} {l : List Env} {H : Hp} {s : Shared} {e : Value} {s' : Shared} (h : L2.CX P w l H s (fun _ _ _ => False) e s') : False := by
  obtain ⟨_, _, _, _, _, _, _, _, _, _, _, _, z⟩ := h
  exact z
theorem walkE {l : PySem.W.OpenLaw} {n k : Nat} {q : Program} {loose : List Str} {XP : (Str → Option Value) → Heap → Prop} {YP : World → Heap → Prop} {d : DefRec} {CX : World → CXT} {x : Str}
    (hn : l.most = some n) (hn2 : n ≤ sizeLine) (hdf : d.params.defaults = []) (hr : Room k callerA)
    (F : ∀ (w : World) (mg : Str → Option Value) (fa : Addr) (h : Heap), YP w h → h.Ns mainGlobals mg → mg d.name = some (.ref fa) →
      ∃ (K : PySem.W.Frag) (fd : FuncData) (sp : Sp), K.In h ∧ (∀ (s : Shared) (u : Value), BindsTo s fd ⟨[u], []⟩ [(x, u)]) ∧
        (∀ (H : Hp) (a : Addr) (ns : List Int), ns.length ≤ n → Only H → SqL K H a (ns.map V.int) → sp [.ref a] H (fun v _ => v = .bl true) fun _ _ _ => False) ∧
        ∀ base : Heap, K.In base → base.Ns mainGlobals mg → FnOk l.prog w K mg base (CX w) k fa fd [x] sp)
    (hCX : ∀ (w : World) (H : Hp) (s : Shared) (e : Value) (s' : Shared), CX w [] H s (fun _ _ _ => False) e s' → False) :
    PySem.W.WalkO q loose XP YP l.row.toRowW d [] (fun f vs => PySem.call f vs) := by
  refine Att.attach_call hn hdf fun w s₀ s₁ mg mb fa o pm cd doc a vs ns G Y ho hd hcd hmg hobj hints hlen hg => ?_
  obtain ⟨K, fd, sp, KX, hb, hsp, hF⟩ := F w mg fa _ Y G.T.g hmg
  exact law_call KX G.T.g G.T.b G.T.builtins G.T.nolimit hg hobj hints (Nat.le_trans hlen hn2) hr hF hb (fun H hO hS => hsp H a ns hlen hO hS) fun H e s' => hCX w H s₁ e s'
theorem fnok_same {P : Program} {w : World} {K : Fg} {mg : Str → Option Value} {base : Heap} {CX : CXT} {k : Nat} {f : Addr} {fd fd' : FuncData} {ps ps' : List Str} {sp : Sp} {x qual : Str} {params : Arguments} {body : List Stmt} {scope : Scope} {dvs : List V} {kws : List (Str × V)}
    (F : FunD K x qual params body scope dvs kws f fd) (g : FnOk P w K mg base CX k f fd' ps' sp) : FnOk P w K mg base CX k f fd' ps' sp := g
section
variable {X : Cx} {K : Fg} {mg : Str → Option Value} {b : Bs} {L : List En} {E : XK} {e : Expr} {rest : List Stmt} {α β γ : Type} {pos p2 p3 p4 : Pos} {tl : Ends → Prop} {post : α → Ends → Prop}
theorem js_stuck : JS X K b L E rest tl (stuck : M α) post := ⟨fun _ _ _ _ _ _ h => h.elim⟩
/-- isinstance of a value whose type is known, a built-in class -/
def TyxOk (K : Fg) (α : Type) [Py α] (tn : String) : Prop := ∀ (H : Hp) (a : α) (v : V), Py.rep K H a v → TyX K H v (.type tn)
theorem tyx_bool : TyxOk K Bool "bool" := fun _ _ _ h => h ▸ .base (.bl _)
theorem tyx_int : TyxOk K Int "int" := fun _ _ _ h => h ▸ .base (.int _)
theorem tyx_str : TyxOk K Tx "str" := fun _ _ _ h => h ▸ .base (.str _)
theorem tyx_sql {H : Hp} {p : Addr} {vs : List V} (h : SqL K H p vs) : TyX K H (.ref p) (.type "list") := by
  rcases h with (h | ⟨o, h⟩) | ⟨o, its, n, h1, h2, _⟩
  · exact .base (.lst h)
  · exact .base (.frz h)
  · exact .kList h1 h2
theorem tyx_sqt {H : Hp} {p : Addr} {vs : List V} (h : SqT K H p vs) : TyX K H (.ref p) (.type "tuple") := by
  rcases h with (h | ⟨o, h⟩) | ⟨o, its, n, h1, h2, _⟩
  · exact .base (.tup h)
  · exact .fTuple h
  · exact .kTuple h1 h2
theorem tyx_L [Py α] : TyxOk K (List α) "list" := fun _ _ _ h => by
  obtain ⟨p, vs, rfl, h, _⟩ := h
  exact tyx_sql h
theorem tyx_U [Py α] : TyxOk K (Tup α) "tuple" := fun _ _ _ h => by
  obtain ⟨p, vs, rfl, h, _⟩ := h
  exact tyx_sqt h
theorem tyx_P [Py α] [Py β] : TyxOk K (α × β) "tuple" := fun _ _ _ h => by
  obtain ⟨p, _, _, rfl, h, _⟩ := h
  exact tyx_sqt h
theorem tyx_T3 [Py α] [Py β] [Py γ] : TyxOk K (T3 α β γ) "tuple" := fun _ _ _ h => by
  obtain ⟨p, _, _, _, rfl, h, _⟩ := h
  exact tyx_sqt h
theorem je_isiB [Py α] {m : M α} {tn T : String} {r : Bool} (ht : TyxOk K α tn) (hk : kitB tn T = some r) (hm : mg "isinstance" = none) (hm2 : mg (Str.ofString T) = none) (hv : bootBuiltins (Str.ofString T) = some (.type T)) (h : JE X K b L E e m)
    (hK : X.K = K := by rfl) (hM : X.mg = mg := by rfl) (hg : Gl X "isinstance" := by rfl) (hg2 : Gl X (Str.ofString T) := by rfl) (hn : Str.ofString T ≠ "__name__" := by decide) (hd : (Str.ofString T == ("__debug__" : Str)) = false := by decide)
    (he : starEach [e, .Name (Str.ofString T) p2] X.env = (false, eval e X.env) :: starEach [.Name (Str.ofString T) p2] X.env := by rfl) (he2 : starEach [.Name (Str.ofString T) p2] X.env = (false, eval (.Name (Str.ofString T) p2) X.env) :: starEach [] X.env := by rfl)
    (hpl : (backTo pos (starEach [.Name (Str.ofString T) p2] X.env)).any (·.1) = false := by rfl) : JE X K b L E (.Call (.Name "isinstance" p3) [e, .Name (Str.ofString T) p2] [] pos) (m >>= fun _ => (pure r : M Bool)) := by
  subst hK
  refine .of ⟨_, pe_callB call_isi hg (by rw [hM]; exact hm) bt_isinstance (pa_cons pe_wp (pa_cons (pe_bltn (v := .ty T) hg2 (by rw [hM]; exact hm2) hv rfl hn hd) pa_nil he2) he) (by decide) (by decide) he hpl, fun σ Hi H en Q hq => h.go σ Hi H en _ (hq.bind.imp fun a Hi1 H1 n1 q v rv => ?_)⟩
  exact ⟨v, .ty T, .type tn, .type T, r, rfl, .ty T, ht H1 a v (Py.mono n1.sub rv), kit_ty hk, q.here n1.sub _ rfl⟩
end
end G

set_option Elab.async false
set_option linter.all false
set_option maxRecDepth 100000
set_option maxHeartbeats 2000000
namespace G
open PySem L2 TL

/-! ### == of data -/
class PyE (α : Type) [Py α] [DecidableEq α] where
  dep : Nat
  inj : ∀ {X : Cx} {pins : List (Addr × Obj)} {σ : L2.St} {H : Hp} {s : Shared}, Inv X pins σ H s → ∀ {a b : α} {x : V}, Py.rep X.K H a x → Py.rep X.K H b x → a = b
  eq : ∀ {X : Cx} {pins : List (Addr × Obj)} {σ : L2.St} {H : Hp} {s : Shared}, Inv X pins σ H s → ∀ (A : Around) (a b : α) (x y : V) (v u : Value), A.units + dep < cLine → Py.rep X.K H a x → Py.rep X.K H b y → RelV x v → RelV y u → SeqAt.EqAt A s v u (decide (a = b))
  rc : ∀ {X : Cx} {pins : List (Addr × Obj)} {σ : L2.St} {H : Hp} {s : Shared}, Inv X pins σ H s → ∀ (A : Around) (a b : α) (x y : V) (v u : Value), A.units + dep < cLine → Py.rep X.K H a x → Py.rep X.K H b y → RelV x v → RelV y u → SeqAt.RcAt A s v u (decide (a = b))
  ne : ∀ {X : Cx} {pins : List (Addr × Obj)} {σ : L2.St} {H : Hp} {s : Shared}, Inv X pins σ H s → ∀ (A : Around) (a b : α) (x y : V) (v u : Value), A.units + dep < cLine → Py.rep X.K H a x → Py.rep X.K H b y → RelV x v → RelV y u → SeqAt.RcNeAt A s v u (!decide (a = b))
theorem dec_S' (a b : Tx) : (S a == S b) = decide (a = b) := by
  by_cases h : a = b
  · subst h; simp
  · rw [decide_eq_false h]
    exact beq_eq_false_iff_ne.mpr fun z => h (S_inj z)
instance : PyE Int where
  dep := 0
  inj := fun {X pins σ H s} _ {a b x} h1 h2 => V.int.inj (h1.symm.trans h2)
  eq := fun _ A a b x y v u _ r1 r2 q1 q2 => by
    have e1 : x = .int a := r1
    have e2 : y = .int b := r2
    subst e1 e2
    obtain ⟨t, rfl⟩ := q1
    obtain ⟨t', rfl⟩ := q2
    exact SeqAt.EqAt.int_int a t b t'
  rc := fun _ A a b x y v u _ r1 r2 q1 q2 => by
    have e1 : x = .int a := r1
    have e2 : y = .int b := r2
    subst e1 e2
    obtain ⟨t, rfl⟩ := q1
    obtain ⟨t', rfl⟩ := q2
    exact SeqAt.RcAt.int_int a t b t'
  ne := fun _ A a b x y v u _ r1 r2 q1 q2 => by
    have e1 : x = .int a := r1
    have e2 : y = .int b := r2
    subst e1 e2
    obtain ⟨t, rfl⟩ := q1
    obtain ⟨t', rfl⟩ := q2
    exact SeqAt.RcNeAt.int_int a t b t'
instance : PyE Bool where
  dep := 0
  inj := fun {X pins σ H s} _ {a b x} h1 h2 => V.bl.inj (h1.symm.trans h2)
  eq := fun _ A a b x y v u _ r1 r2 q1 q2 => by
    have e1 : x = .bl a := r1
    have e2 : y = .bl b := r2
    subst e1 e2
    cases q1
    cases q2
    have := SeqAt.EqAt.bool_bool (A := A) (s := by assumption) a b
    rw [Bool.beq_eq_decide_eq] at this
    exact this
  rc := fun _ A a b x y v u _ r1 r2 q1 q2 => by
    have e1 : x = .bl a := r1
    have e2 : y = .bl b := r2
    subst e1 e2
    cases q1
    cases q2
    have := SeqAt.RcAt.bool_bool (A := A) (s := by assumption) a b
    rw [Bool.beq_eq_decide_eq] at this
    exact this
  ne := fun _ A a b x y v u _ r1 r2 q1 q2 => by
    have e1 : x = .bl a := r1
    have e2 : y = .bl b := r2
    subst e1 e2
    cases q1
    cases q2
    have := SeqAt.RcNeAt.bool_bool (A := A) (s := by assumption) a b
    have e : (!(a == b)) = !decide (a = b) := by cases a <;> cases b <;> rfl
    rw [e] at this
    exact this
instance instPyETx : PyE Tx where
  dep := 0
  inj := fun {X pins σ H s} _ {a b x} h1 h2 => S_inj (V.str.inj (h1.symm.trans h2))
  eq := fun _ A a b x y v u _ r1 r2 q1 q2 => by
    have e1 : x = .str (S a) := r1
    have e2 : y = .str (S b) := r2
    subst e1 e2
    obtain ⟨t, rfl⟩ := q1
    obtain ⟨t', rfl⟩ := q2
    rw [← dec_S']
    exact SeqAt.EqAt.str_str _ t _ t'
  rc := fun _ A a b x y v u _ r1 r2 q1 q2 => by
    have e1 : x = .str (S a) := r1
    have e2 : y = .str (S b) := r2
    subst e1 e2
    obtain ⟨t, rfl⟩ := q1
    obtain ⟨t', rfl⟩ := q2
    rw [← dec_S']
    exact SeqAt.RcAt.str_str _ t _ t'
  ne := fun _ A a b x y v u _ r1 r2 q1 q2 => by
    have e1 : x = .str (S a) := r1
    have e2 : y = .str (S b) := r2
    subst e1 e2
    obtain ⟨t, rfl⟩ := q1
    obtain ⟨t', rfl⟩ := q2
    rw [← dec_S']
    exact SeqAt.RcNeAt.str_str _ t _ t'
section
variable {α β γ δ : Type} [Py α] [DecidableEq α] [PyE α] [Py β] [DecidableEq β] [PyE β] [Py γ] [DecidableEq γ] [PyE γ] [Py δ] [DecidableEq δ] [PyE δ] {X : Cx} {pins : List (Addr × Obj)} {σ : L2.St} {H : Hp} {s : Shared}
theorem rl_inj (I : Inv X pins σ H s) : ∀ {xs ys : List α} {vs : List V}, Rl X.K H xs vs → Rl X.K H ys vs → xs = ys
  | _, _, _, .nil, .nil => rfl
  | _, _, _, .cons r t, .cons r' t' => by rw [PyE.inj I r r', rl_inj I t t']
def eAt (xs ys : List α) (j : Nat) : Bool := match xs[j]?, ys[j]? with
  | some a, some b => decide (a = b)
  | _, _ => false
theorem items_eq (I : Inv X pins σ H s) (A : Around) (hu : A.units + PyE.dep (α := α) < cLine) : ∀ {xs ys : List α} {vs ws : List V} {us ts : List Value}, Rl X.K H xs vs → Rl X.K H ys ws → Vals vs us → Vals ws ts →
    ∀ j (h1 : j < us.length) (h2 : j < ts.length), SeqAt.EqAt A s us[j] ts[j] (eAt xs ys j)
  | _, _, _, _, _, _, .nil, _, .nil, _, j, h1, _ => absurd h1 (Nat.not_lt_zero _)
  | _, _, _, _, _, _, .cons _ _, .nil, .cons _ _, .nil, j, _, h2 => absurd h2 (Nat.not_lt_zero _)
  | _, _, _, _, _, _, .cons r t, .cons r' t', .cons q k, .cons q' k', 0, _, _ => PyE.eq I A _ _ _ _ _ _ hu r r' q q'
  | _, _, _, _, _, _, .cons r t, .cons r' t', .cons q k, .cons q' k', j + 1, h1, h2 => items_eq I A hu t t' k k' j (Nat.lt_of_succ_lt_succ h1) (Nat.lt_of_succ_lt_succ h2)
theorem all_range_succ (n : Nat) (e : Nat → Bool) : (List.range (n + 1)).all e = (e 0 && (List.range n).all fun j => e (j + 1)) := by
  rw [List.range_succ_eq_map, List.all_cons, List.all_map]
  rfl
theorem eAt_all : ∀ xs ys : List α, xs.length = ys.length → (List.range xs.length).all (eAt xs ys) = decide (xs = ys)
  | [], [], _ => by simp
  | [], _ :: _, h => nomatch h
  | _ :: _, [], h => nomatch h
  | x :: xs, y :: ys, h => by
    rw [List.length_cons, all_range_succ]
    have ih := eAt_all xs ys (by simpa using h)
    have e1 : (fun j => eAt (x :: xs) (y :: ys) (j + 1)) = eAt xs ys := funext fun j => rfl
    rw [e1, ih]
    show (decide (x = y) && decide (xs = ys)) = decide (x :: xs = y :: ys)
    by_cases h1 : x = y <;> by_cases h2 : xs = ys <;> simp [h1, h2]
theorem eAt_allT (xs ys : List α) : ((List.range (min xs.length ys.length)).all (eAt xs ys) && xs.length == ys.length) = decide (xs = ys) := by
  by_cases h : xs.length = ys.length
  · rw [h, Nat.min_self, ← h, eAt_all xs ys h]
    simp
  · have : xs ≠ ys := fun e => h (by rw [e])
    rw [decide_eq_false this, beq_eq_false_iff_ne.mpr h, Bool.and_false]
instance instPyEList : PyE (List α) where
  dep := PyE.dep (α := α) + 1
  inj := fun {X pins σ H s} I {a b x} h1 h2 => by
    obtain ⟨p, vs, rfl, g1, g2⟩ := h1
    obtain ⟨p', vs', e, k1, k2⟩ := h2
    cases e
    have := I.list_inj g1 k1
    subst this
    exact rl_inj I g2 k2
  eq := fun {X pins σ H s} I A a b x y v u hu h1 h2 q1 q2 => by
    obtain ⟨p, vs, rfl, g1, g2⟩ := h1
    obtain ⟨p', vs', rfl, k1, k2⟩ := h2
    cases q1
    cases q2
    by_cases hp : p = p'
    · subst hp
      have := I.list_inj g1 k1
      subst this
      have := rl_inj I g2 k2
      subst this
      rw [decide_eq_true rfl]
      exact SeqAt.EqAt.same _
    · obtain ⟨us, r1, pl1, _⟩ := I.list g1
      obtain ⟨ts, r2, pl2, _⟩ := I.list k1
      have l1 : us.toArray.size = a.length := by rw [List.size_toArray, ← r1.length, g2.length]
      have l2 : ts.toArray.size = b.length := by rw [List.size_toArray, ← r2.length, k2.length]
      by_cases hsz : a.length = b.length
      · have := SeqAt.RcAt.lists (A := A) (e := eAt a b) pl1.isList pl2.isList (by rw [l1, l2, hsz]) (by omega) (fun j j1 j2 => by
          have := items_eq I A.in1 (by show A.units + 1 + _ < cLine; omega) g2 k2 r1 r2 j (by simpa using j1) (by simpa using j2)
          simpa using this)
        rw [l1, eAt_all a b hsz] at this
        exact SeqAt.EqAt.of_refs hp this
      · rw [decide_eq_false (fun e => hsz (by rw [e]))]
        exact SeqAt.EqAt.of_refs hp (SeqAt.RcAt.lists_lengths pl1.isList pl2.isList (by rw [l1, l2]; simpa using hsz) (by omega))
  rc := fun {X pins σ H s} I A a b x y v u hu h1 h2 q1 q2 => by
    obtain ⟨p, vs, rfl, g1, g2⟩ := h1
    obtain ⟨p', vs', rfl, k1, k2⟩ := h2
    cases q1
    cases q2
    obtain ⟨us, r1, pl1, _⟩ := I.list g1
    obtain ⟨ts, r2, pl2, _⟩ := I.list k1
    have l1 : us.toArray.size = a.length := by rw [List.size_toArray, ← r1.length, g2.length]
    have l2 : ts.toArray.size = b.length := by rw [List.size_toArray, ← r2.length, k2.length]
    by_cases hsz : a.length = b.length
    · have := SeqAt.RcAt.lists (A := A) (e := eAt a b) pl1.isList pl2.isList (by rw [l1, l2, hsz]) (by omega) (fun j j1 j2 => by
        have := items_eq I A.in1 (by show A.units + 1 + _ < cLine; omega) g2 k2 r1 r2 j (by simpa using j1) (by simpa using j2)
        simpa using this)
      rw [l1, eAt_all a b hsz] at this
      exact this
    · rw [decide_eq_false (fun e => hsz (by rw [e]))]
      exact SeqAt.RcAt.lists_lengths pl1.isList pl2.isList (by rw [l1, l2]; simpa using hsz) (by omega)
  ne := fun {X pins σ H s} I A a b x y v u hu h1 h2 q1 q2 => by
    obtain ⟨p, vs, rfl, g1, g2⟩ := h1
    obtain ⟨p', vs', rfl, k1, k2⟩ := h2
    cases q1
    cases q2
    obtain ⟨us, r1, pl1, _⟩ := I.list g1
    obtain ⟨ts, r2, pl2, _⟩ := I.list k1
    have l1 : us.toArray.size = a.length := by rw [List.size_toArray, ← r1.length, g2.length]
    have l2 : ts.toArray.size = b.length := by rw [List.size_toArray, ← r2.length, k2.length]
    by_cases hsz : a.length = b.length
    · have := SeqAt.RcNeAt.lists (A := A) (e := eAt a b) pl1.isList pl2.isList (by rw [l1, l2, hsz]) (by omega) (fun j j1 j2 => by
        have := items_eq I A.in1 (by show A.units + 1 + _ < cLine; omega) g2 k2 r1 r2 j (by simpa using j1) (by simpa using j2)
        simpa using this)
      rw [l1, eAt_all a b hsz] at this
      exact this
    · rw [decide_eq_false (fun e => hsz (by rw [e]))]
      exact SeqAt.RcNeAt.lists_lengths pl1.isList pl2.isList (by rw [l1, l2]; simpa using hsz) (by omega)
theorem tu_rc (I : Inv X pins σ H s) {A : Around} {xs ys : List α} {p p' : Addr} {vs vs' : List V} (g1 : SqT X.K H p vs) (g2 : Rl X.K H xs vs) (k1 : SqT X.K H p' vs') (k2 : Rl X.K H ys vs') (hu : A.units + (PyE.dep (α := α) + 1) < cLine) : SeqAt.RcAt A s (.ref p) (.ref p') (decide (xs = ys)) := by
  obtain ⟨us, r1, pl1, _⟩ := I.tuple g1
  obtain ⟨ts, r2, pl2, _⟩ := I.tuple k1
  have l1 : us.toArray.size = xs.length := by rw [List.size_toArray, ← r1.length, g2.length]
  have l2 : ts.toArray.size = ys.length := by rw [List.size_toArray, ← r2.length, k2.length]
  have := SeqAt.RcAt.tuples (A := A) (e := eAt xs ys) (show s.heap.IsTuple p us.toArray from pl1) (show s.heap.IsTuple p' ts.toArray from pl2) (by omega) (fun j j1 j2 => by
      have := items_eq I A.in1 (by show A.units + 1 + _ < cLine; omega) g2 k2 r1 r2 j (by simpa using j1) (by simpa using j2)
      simpa using this)
  rw [l1, l2, eAt_allT] at this
  exact this
theorem tu_ne (I : Inv X pins σ H s) {A : Around} {xs ys : List α} {p p' : Addr} {vs vs' : List V} (g1 : SqT X.K H p vs) (g2 : Rl X.K H xs vs) (k1 : SqT X.K H p' vs') (k2 : Rl X.K H ys vs') (hu : A.units + (PyE.dep (α := α) + 1) < cLine) : SeqAt.RcNeAt A s (.ref p) (.ref p') (!decide (xs = ys)) := by
  obtain ⟨us, r1, pl1, _⟩ := I.tuple g1
  obtain ⟨ts, r2, pl2, _⟩ := I.tuple k1
  have l1 : us.toArray.size = xs.length := by rw [List.size_toArray, ← r1.length, g2.length]
  have l2 : ts.toArray.size = ys.length := by rw [List.size_toArray, ← r2.length, k2.length]
  have := SeqAt.RcNeAt.tuples (A := A) (e := eAt xs ys) (show s.heap.IsTuple p us.toArray from pl1) (show s.heap.IsTuple p' ts.toArray from pl2) (by omega) (fun j j1 j2 => by
      have := items_eq I A.in1 (by show A.units + 1 + _ < cLine; omega) g2 k2 r1 r2 j (by simpa using j1) (by simpa using j2)
      simpa using this)
  rw [l1, l2, eAt_allT] at this
  exact this
theorem tu_eq (I : Inv X pins σ H s) {A : Around} {xs ys : List α} {p p' : Addr} {vs vs' : List V} (g1 : SqT X.K H p vs) (g2 : Rl X.K H xs vs) (k1 : SqT X.K H p' vs') (k2 : Rl X.K H ys vs') (hu : A.units + (PyE.dep (α := α) + 1) < cLine) : SeqAt.EqAt A s (.ref p) (.ref p') (decide (xs = ys)) := by
  by_cases hp : p = p'
  · subst hp
    have := I.tuple_inj g1 k1
    subst this
    have := rl_inj I g2 k2
    subst this
    rw [decide_eq_true rfl]
    exact SeqAt.EqAt.same _
  · exact SeqAt.EqAt.of_refs hp (tu_rc I g1 g2 k1 k2 hu)
instance instDecTup {α : Type} [h : DecidableEq α] : DecidableEq (Tup α) := (inferInstance : DecidableEq (List α))
instance instPyETup : PyE (Tup α) where
  dep := PyE.dep (α := α) + 1
  inj := fun {X pins σ H s} I {a b x} h1 h2 => by
    obtain ⟨p, vs, rfl, g1, g2⟩ := h1
    obtain ⟨p', vs', e, k1, k2⟩ := h2
    cases e
    have := I.tuple_inj g1 k1
    subst this
    exact rl_inj I g2 k2
  eq := fun {X pins σ H s} I A a b x y v u hu h1 h2 q1 q2 => by
    obtain ⟨p, vs, rfl, g1, g2⟩ := h1
    obtain ⟨p', vs', rfl, k1, k2⟩ := h2
    cases q1
    cases q2
    exact tu_eq I g1 g2 k1 k2 hu
  rc := fun {X pins σ H s} I A a b x y v u hu h1 h2 q1 q2 => by
    obtain ⟨p, vs, rfl, g1, g2⟩ := h1
    obtain ⟨p', vs', rfl, k1, k2⟩ := h2
    cases q1
    cases q2
    exact tu_rc I g1 g2 k1 k2 hu
  ne := fun {X pins σ H s} I A a b x y v u hu h1 h2 q1 q2 => by
    obtain ⟨p, vs, rfl, g1, g2⟩ := h1
    obtain ⟨p', vs', rfl, k1, k2⟩ := h2
    cases q1
    cases q2
    exact tu_ne I g1 g2 k1 k2 hu
/-- tuples of a written number of items -/
def FixEq (X : Cx) (H : Hp) (s : Shared) (n d : Nat) (vs ws : List V) (e : Nat → Bool) : Prop :=
  vs.length = n ∧ ws.length = n ∧ ∀ (A : Around), A.units + d < cLine → ∀ us ts, Vals vs us → Vals ws ts → ∀ j (h1 : j < us.length) (h2 : j < ts.length), SeqAt.EqAt A s us[j] ts[j] (e j)
theorem fix_rc (I : Inv X pins σ H s) {n d : Nat} {vs ws : List V} {e : Nat → Bool} {p p' : Addr} {A : Around} (f : FixEq X H s n d vs ws e) (g1 : SqT X.K H p vs) (k1 : SqT X.K H p' ws) (hu : A.units + (d + 1) < cLine) : SeqAt.RcAt A s (.ref p) (.ref p') ((List.range n).all e) := by
  obtain ⟨us, r1, pl1, _⟩ := I.tuple g1
  obtain ⟨ts, r2, pl2, _⟩ := I.tuple k1
  have l1 : us.toArray.size = n := by rw [List.size_toArray, ← r1.length, f.1]
  have l2 : ts.toArray.size = n := by rw [List.size_toArray, ← r2.length, f.2.1]
  have := SeqAt.RcAt.tuples (A := A) (e := e) (show s.heap.IsTuple p us.toArray from pl1) (show s.heap.IsTuple p' ts.toArray from pl2) (by omega) (fun j j1 j2 => by
      have := f.2.2 A.in1 (by show A.units + 1 + _ < cLine; omega) us ts r1 r2 j (by simpa using j1) (by simpa using j2)
      simpa using this)
  rw [l1, l2, Nat.min_self, beq_self_eq_true, Bool.and_true] at this
  exact this
theorem fix_ne (I : Inv X pins σ H s) {n d : Nat} {vs ws : List V} {e : Nat → Bool} {p p' : Addr} {A : Around} (f : FixEq X H s n d vs ws e) (g1 : SqT X.K H p vs) (k1 : SqT X.K H p' ws) (hu : A.units + (d + 1) < cLine) : SeqAt.RcNeAt A s (.ref p) (.ref p') (!(List.range n).all e) := by
  obtain ⟨us, r1, pl1, _⟩ := I.tuple g1
  obtain ⟨ts, r2, pl2, _⟩ := I.tuple k1
  have l1 : us.toArray.size = n := by rw [List.size_toArray, ← r1.length, f.1]
  have l2 : ts.toArray.size = n := by rw [List.size_toArray, ← r2.length, f.2.1]
  have := SeqAt.RcNeAt.tuples (A := A) (e := e) (show s.heap.IsTuple p us.toArray from pl1) (show s.heap.IsTuple p' ts.toArray from pl2) (by omega) (fun j j1 j2 => by
      have := f.2.2 A.in1 (by show A.units + 1 + _ < cLine; omega) us ts r1 r2 j (by simpa using j1) (by simpa using j2)
      simpa using this)
  rw [l1, l2, Nat.min_self, beq_self_eq_true, Bool.and_true] at this
  exact this
theorem fix_nil : FixEq X H s 0 0 [] [] (fun _ => false) := ⟨rfl, rfl, fun _ _ us ts r1 _ j h1 _ => by cases r1; exact absurd h1 (Nat.not_lt_zero _)⟩
theorem fix_cons (I : Inv X pins σ H s) {n d : Nat} {vs ws : List V} {e : Nat → Bool} {a b : α} {x y : V} (r1 : Py.rep X.K H a x) (r2 : Py.rep X.K H b y) (f : FixEq X H s n d vs ws e) : FixEq X H s (n + 1) (max (PyE.dep (α := α)) d) (x :: vs) (y :: ws) (fun j => match j with
    | 0 => decide (a = b)
    | j + 1 => e j) := by
  refine ⟨by rw [List.length_cons, f.1], by rw [List.length_cons, f.2.1], fun A hu us ts q1 q2 j h1 h2 => ?_⟩
  cases q1 with
  | cons s1 t1 =>
    cases q2 with
    | cons s2 t2 =>
      cases j with
      | zero => exact PyE.eq I A _ _ _ _ _ _ (by omega) r1 r2 s1 s2
      | succ j => exact f.2.2 A (by omega) _ _ t1 t2 j (Nat.lt_of_succ_lt_succ h1) (Nat.lt_of_succ_lt_succ h2)
theorem fix2 (I : Inv X pins σ H s) {a a' : α} {b b' : β} {x y x' y' : V} (h1 : Py.rep X.K H a x) (h2 : Py.rep X.K H b y) (h1' : Py.rep X.K H a' x') (h2' : Py.rep X.K H b' y') :
    ∃ e, FixEq X H s 2 (max (PyE.dep (α := α)) (max (PyE.dep (α := β)) 0)) [x, y] [x', y'] e ∧ (List.range 2).all e = decide ((a, b) = (a', b')) := by
  refine ⟨_, fix_cons I h1 h1' (fix_cons I h2 h2' fix_nil), ?_⟩
  show (decide (a = a') && (decide (b = b') && true)) = _
  by_cases e1 : a = a' <;> by_cases e2 : b = b' <;> simp [e1, e2]
theorem fix3 (I : Inv X pins σ H s) {a a' : α} {b b' : β} {c c' : γ} {x y z x' y' z' : V} (h1 : Py.rep X.K H a x) (h2 : Py.rep X.K H b y) (h3 : Py.rep X.K H c z) (h1' : Py.rep X.K H a' x') (h2' : Py.rep X.K H b' y') (h3' : Py.rep X.K H c' z') :
    ∃ e, FixEq X H s 3 (max (PyE.dep (α := α)) (max (PyE.dep (α := β)) (max (PyE.dep (α := γ)) 0))) [x, y, z] [x', y', z'] e ∧ (List.range 3).all e = decide ((T3.mk a b c) = (T3.mk a' b' c')) := by
  refine ⟨_, fix_cons I h1 h1' (fix_cons I h2 h2' (fix_cons I h3 h3' fix_nil)), ?_⟩
  show (decide (a = a') && (decide (b = b') && (decide (c = c') && true))) = _
  by_cases e1 : a = a' <;> by_cases e2 : b = b' <;> by_cases e3 : c = c' <;> simp [e1, e2, e3]
theorem fix4 (I : Inv X pins σ H s) {a a' : α} {b b' : β} {c c' : γ} {d d' : δ} {x y z w x' y' z' w' : V} (h1 : Py.rep X.K H a x) (h2 : Py.rep X.K H b y) (h3 : Py.rep X.K H c z) (h4 : Py.rep X.K H d w) (h1' : Py.rep X.K H a' x') (h2' : Py.rep X.K H b' y') (h3' : Py.rep X.K H c' z') (h4' : Py.rep X.K H d' w') :
    ∃ e, FixEq X H s 4 (max (PyE.dep (α := α)) (max (PyE.dep (α := β)) (max (PyE.dep (α := γ)) (max (PyE.dep (α := δ)) 0)))) [x, y, z, w] [x', y', z', w'] e ∧ (List.range 4).all e = decide ((T4.mk a b c d) = (T4.mk a' b' c' d')) := by
  refine ⟨_, fix_cons I h1 h1' (fix_cons I h2 h2' (fix_cons I h3 h3' (fix_cons I h4 h4' fix_nil))), ?_⟩
  show (decide (a = a') && (decide (b = b') && (decide (c = c') && (decide (d = d') && true)))) = _
  by_cases e1 : a = a' <;> by_cases e2 : b = b' <;> by_cases e3 : c = c' <;> by_cases e4 : d = d' <;> simp [e1, e2, e3, e4]
instance instPyEProd : PyE (α × β) where
  dep := max (PyE.dep (α := α)) (max (PyE.dep (α := β)) 0) + 1
  inj := fun {X pins σ H s} I {a b x} h1 h2 => by
    obtain ⟨p, v1, v2, rfl, g1, g2, g3⟩ := h1
    obtain ⟨p', w1, w2, e, k1, k2, k3⟩ := h2
    cases e
    have := I.tuple_inj g1 k1
    cases this
    exact Prod.ext (PyE.inj I g2 k2) (PyE.inj I g3 k3)
  eq := fun {X pins σ H s} I A a b x y v u hu h1 h2 q1 q2 => by
    obtain ⟨p, v1, v2, rfl, g1, g2, g3⟩ := h1
    obtain ⟨p', w1, w2, rfl, k1, k2, k3⟩ := h2
    cases q1
    cases q2
    obtain ⟨e, f, hf⟩ := fix2 I g2 g3 k2 k3
    by_cases hp : p = p'
    · subst hp
      have := I.tuple_inj g1 k1
      cases this
      have : a = b := Prod.ext (PyE.inj I g2 k2) (PyE.inj I g3 k3)
      subst this
      rw [decide_eq_true rfl]
      exact SeqAt.EqAt.same _
    · exact SeqAt.EqAt.of_refs hp ((show SeqAt.RcAt A s (.ref p) (.ref p') (decide (a = b)) from hf ▸ fix_rc I f g1 k1 hu))
  rc := fun {X pins σ H s} I A a b x y v u hu h1 h2 q1 q2 => by
    obtain ⟨p, v1, v2, rfl, g1, g2, g3⟩ := h1
    obtain ⟨p', w1, w2, rfl, k1, k2, k3⟩ := h2
    cases q1
    cases q2
    obtain ⟨e, f, hf⟩ := fix2 I g2 g3 k2 k3
    exact (show SeqAt.RcAt A s (.ref p) (.ref p') (decide (a = b)) from hf ▸ fix_rc I f g1 k1 hu)
  ne := fun {X pins σ H s} I A a b x y v u hu h1 h2 q1 q2 => by
    obtain ⟨p, v1, v2, rfl, g1, g2, g3⟩ := h1
    obtain ⟨p', w1, w2, rfl, k1, k2, k3⟩ := h2
    cases q1
    cases q2
    obtain ⟨e, f, hf⟩ := fix2 I g2 g3 k2 k3
    exact (show SeqAt.RcNeAt A s (.ref p) (.ref p') (!decide (a = b)) from hf ▸ fix_ne I f g1 k1 hu)
theorem T3.ext' {a b : T3 α β γ} (h1 : a.a = b.a) (h2 : a.b = b.b) (h3 : a.c = b.c) : a = b := by cases a; cases b; cases h1; cases h2; cases h3; rfl
theorem T4.ext' {a b : T4 α β γ δ} (h1 : a.a = b.a) (h2 : a.b = b.b) (h3 : a.c = b.c) (h4 : a.d = b.d) : a = b := by cases a; cases b; cases h1; cases h2; cases h3; cases h4; rfl
instance instPyET3 : PyE (T3 α β γ) where
  dep := max (PyE.dep (α := α)) (max (PyE.dep (α := β)) (max (PyE.dep (α := γ)) 0)) + 1
  inj := fun {X pins σ H s} I {a b x} h1 h2 => by
    obtain ⟨p, v1, v2, v3, rfl, g1, g2, g3, g4⟩ := h1
    obtain ⟨p', w1, w2, w3, e, k1, k2, k3, k4⟩ := h2
    cases e
    have := I.tuple_inj g1 k1
    cases this
    exact T3.ext' (PyE.inj I g2 k2) (PyE.inj I g3 k3) (PyE.inj I g4 k4)
  eq := fun {X pins σ H s} I A a b x y v u hu h1 h2 q1 q2 => by
    obtain ⟨p, v1, v2, v3, rfl, g1, g2, g3, g4⟩ := h1
    obtain ⟨p', w1, w2, w3, rfl, k1, k2, k3, k4⟩ := h2
    cases q1
    cases q2
    obtain ⟨e, f, hf⟩ := fix3 I g2 g3 g4 k2 k3 k4
    by_cases hp : p = p'
    · subst hp
      have := I.tuple_inj g1 k1
      cases this
      have : a = b := T3.ext' (PyE.inj I g2 k2) (PyE.inj I g3 k3) (PyE.inj I g4 k4)
      subst this
      rw [decide_eq_true rfl]
      exact SeqAt.EqAt.same _
    · exact SeqAt.EqAt.of_refs hp ((show SeqAt.RcAt A s (.ref p) (.ref p') (decide (a = b)) from hf ▸ fix_rc I f g1 k1 hu))
  rc := fun {X pins σ H s} I A a b x y v u hu h1 h2 q1 q2 => by
    obtain ⟨p, v1, v2, v3, rfl, g1, g2, g3, g4⟩ := h1
    obtain ⟨p', w1, w2, w3, rfl, k1, k2, k3, k4⟩ := h2
    cases q1
    cases q2
    obtain ⟨e, f, hf⟩ := fix3 I g2 g3 g4 k2 k3 k4
    exact (show SeqAt.RcAt A s (.ref p) (.ref p') (decide (a = b)) from hf ▸ fix_rc I f g1 k1 hu)
  ne := fun {X pins σ H s} I A a b x y v u hu h1 h2 q1 q2 => by
    obtain ⟨p, v1, v2, v3, rfl, g1, g2, g3, g4⟩ := h1
    obtain ⟨p', w1, w2, w3, rfl, k1, k2, k3, k4⟩ := h2
    cases q1
    cases q2
    obtain ⟨e, f, hf⟩ := fix3 I g2 g3 g4 k2 k3 k4
    exact (show SeqAt.RcNeAt A s (.ref p) (.ref p') (!decide (a = b)) from hf ▸ fix_ne I f g1 k1 hu)
instance instPyET4 : PyE (T4 α β γ δ) where
  dep := max (PyE.dep (α := α)) (max (PyE.dep (α := β)) (max (PyE.dep (α := γ)) (max (PyE.dep (α := δ)) 0))) + 1
  inj := fun {X pins σ H s} I {a b x} h1 h2 => by
    obtain ⟨p, v1, v2, v3, v4, rfl, g1, g2, g3, g4, g5⟩ := h1
    obtain ⟨p', w1, w2, w3, w4, e, k1, k2, k3, k4, k5⟩ := h2
    cases e
    have := I.tuple_inj g1 k1
    cases this
    exact T4.ext' (PyE.inj I g2 k2) (PyE.inj I g3 k3) (PyE.inj I g4 k4) (PyE.inj I g5 k5)
  eq := fun {X pins σ H s} I A a b x y v u hu h1 h2 q1 q2 => by
    obtain ⟨p, v1, v2, v3, v4, rfl, g1, g2, g3, g4, g5⟩ := h1
    obtain ⟨p', w1, w2, w3, w4, rfl, k1, k2, k3, k4, k5⟩ := h2
    cases q1
    cases q2
    obtain ⟨e, f, hf⟩ := fix4 I g2 g3 g4 g5 k2 k3 k4 k5
    by_cases hp : p = p'
    · subst hp
      have := I.tuple_inj g1 k1
      cases this
      have : a = b := T4.ext' (PyE.inj I g2 k2) (PyE.inj I g3 k3) (PyE.inj I g4 k4) (PyE.inj I g5 k5)
      subst this
      rw [decide_eq_true rfl]
      exact SeqAt.EqAt.same _
    · exact SeqAt.EqAt.of_refs hp ((show SeqAt.RcAt A s (.ref p) (.ref p') (decide (a = b)) from hf ▸ fix_rc I f g1 k1 hu))
  rc := fun {X pins σ H s} I A a b x y v u hu h1 h2 q1 q2 => by
    obtain ⟨p, v1, v2, v3, v4, rfl, g1, g2, g3, g4, g5⟩ := h1
    obtain ⟨p', w1, w2, w3, w4, rfl, k1, k2, k3, k4, k5⟩ := h2
    cases q1
    cases q2
    obtain ⟨e, f, hf⟩ := fix4 I g2 g3 g4 g5 k2 k3 k4 k5
    exact (show SeqAt.RcAt A s (.ref p) (.ref p') (decide (a = b)) from hf ▸ fix_rc I f g1 k1 hu)
  ne := fun {X pins σ H s} I A a b x y v u hu h1 h2 q1 q2 => by
    obtain ⟨p, v1, v2, v3, v4, rfl, g1, g2, g3, g4, g5⟩ := h1
    obtain ⟨p', w1, w2, w3, w4, rfl, k1, k2, k3, k4, k5⟩ := h2
    cases q1
    cases q2
    obtain ⟨e, f, hf⟩ := fix4 I g2 g3 g4 g5 k2 k3 k4 k5
    exact (show SeqAt.RcNeAt A s (.ref p) (.ref p') (!decide (a = b)) from hf ▸ fix_ne I f g1 k1 hu)
/-- the operators -/
def rEqA (α : Type) [Py α] [DecidableEq α] (K : Fg) : R2 := fun x y H Q => ∃ a b : α, Py.rep K H a x ∧ Py.rep K H b y ∧ Q (.bl (decide (a = b))) H
def rNeA (α : Type) [Py α] [DecidableEq α] (K : Fg) : R2 := fun x y H Q => ∃ a b : α, Py.rep K H a x ∧ Py.rep K H b y ∧ Q (.bl (!decide (a = b))) H
theorem op_eqA (hu : X.A.units + 64 < cLine) (hd : PyE.dep (α := α) ≤ 60 := by decide) : OpR X (compareOp .Eq) (rEqA α X.K) := by
  intro pins s σ H x y v u Q I rx ry h
  obtain ⟨a, b, r1, r2, q⟩ := h
  exact PyE.rc I X.A a b x y v u (by omega) r1 r2 rx ry X.prog X.w _ _ ⟨.bl _, H, I, rfl, q⟩
theorem op_neA (hu : X.A.units + 64 < cLine) (hd : PyE.dep (α := α) ≤ 60 := by decide) : OpR X (compareOp .NotEq) (rNeA α X.K) := by
  intro pins s σ H x y v u Q I rx ry h
  obtain ⟨a, b, r1, r2, q⟩ := h
  exact PyE.ne I X.A a b x y v u (by omega) r1 r2 rx ry X.prog X.w _ _ ⟨.bl _, H, I, rfl, q⟩
theorem ro_eqA {K : Fg} {E : XK} : RO K E (rEqA α K) (fun a b : α => (pure (decide (a = b)) : M Bool)) := by
  rintro a b v w Hi H Q s r1 r2 h
  exact ⟨a, b, Py.mono s r1, Py.mono s r2, h.here s _ rfl⟩
theorem ro_neA {K : Fg} {E : XK} : RO K E (rNeA α K) (fun a b : α => (pure (!decide (a = b)) : M Bool)) := by
  rintro a b v w Hi H Q s r1 r2 h
  exact ⟨a, b, Py.mono s r1, Py.mono s r2, h.here s _ rfl⟩
end
end G

set_option Elab.async false
set_option linter.all false
set_option maxRecDepth 100000
set_option maxHeartbeats 2000000
namespace G
open PySem L2 TL
/-! list + list, whoever holds them -/
def rCatQ (K : Fg) : R2 := fun x y H Q => ∃ a b xs ys, x = .ref a ∧ y = .ref b ∧ SqL K H a xs ∧ SqL K H b ys ∧ xs.length + ys.length ≤ sizeLine ∧ ∀ p, H p = none → Q (.ref p) (upd H p (.lst (xs ++ ys)))
theorem op_catQ {X : Cx} {K : Fg} (hK : X.K = K := by rfl) : OpR X (binaryOp .Add) (rCatQ K) := by
  subst hK
  intro pins s σ H x y v u Q I rx ry h
  obtain ⟨a, b, xs, ys, rfl, rfl, hx, hy, hz, q⟩ := h
  cases rx
  cases ry
  obtain ⟨its, r, pl, _⟩ := I.list hx
  obtain ⟨its2, r2, pl2, _⟩ := I.list hy
  obtain ⟨⟨cls, dd, data, sl⟩, ho, hc, n, hd⟩ := pl.isList
  obtain ⟨⟨cls2, dd2, data2, sl2⟩, ho2, hc2, n2, hd2⟩ := pl2.isList
  simp only at hc hd hc2 hd2
  subst hc hd hc2 hd2
  refine PySem.concat_meets ⟨_, ho, rfl⟩ ⟨_, ho2, rfl⟩ noFill_list_add seq_list_add PySem.F.slot_list_add PySem.F.entry_list_add (PySem.F.args_list_add_2 _ _) (PyProof.Rows.list_addW a b its.toArray its2.toArray n n2 dd dd2 sl sl2 (by rw [List.size_toArray, List.size_toArray, ← r.length, ← r2.length]; exact hz)) ⟨ho, ho2, ?_⟩
  have ea : its.toArray ++ its2.toArray = (its ++ its2).toArray := by simp
  rw [ea]
  exact ⟨.ref _, _, I.lnew (t' := s.toks) (r.append r2) (by rw [List.length_append]; exact hz), rfl, q _ I.fresh⟩
def catM {α : Type} (xs ys : List α) : M (List α) := chk (xs.length + ys.length ≤ SZ) >>= fun _ => pure (xs ++ ys)
section
variable {X : Cx} {K : Fg} {mg : Str → Option Value} {b : Bs} {L L' : List En} {E : XK} {e e1 e2 : Expr} {st : Stmt} {rest body a bb : List Stmt} {α β γ S R : Type} {pos p' p2 p3 : Pos} {tl : Ends → Prop} {post : α → Ends → Prop}
theorem ro_catL [Py α] : RO K E (rCatQ K) (fun xs ys : List α => catM xs ys) := by
  rintro xs ys v w Hi H Q s ⟨p, vs, rfl, h1, h2⟩ ⟨q, ws, rfl, g1, g2⟩ h
  obtain ⟨c, h⟩ := PX.chk h
  refine ⟨p, q, vs, ws, rfl, rfl, Same.seq s h1, Same.seq s g1, by rw [← h2.length, ← g2.length]; exact c, fun r hr => h.go (Nx.new s hr) _ ⟨r, _, rfl, .of upd_same, ?_⟩⟩
  exact (h2.app g2).mono (same_new (hi_none s hr))
theorem jf_cat [Py α] {m1 m2 : M (List α)} (h1 : JE X K b L E e1 m1) (h2 : JE X K b L E e2 m2) (hK : X.K = K := by rfl) : JF X K b L E (.BinOp e1 .Add e2 pos) (ctL K) (m1 >>= fun x => m2 >>= fun y => catM x y) :=
  ⟨fun σ Hi H en Q hq => PE.wp (pe_op (op_catQ hK) pe_wp pe_wp) (h1.go σ Hi H en _ (PX.bind hq |>.imp fun xs Hi1 H1 n1 k v rv => h2.go σ Hi1 H1 (en.nx n1) _ (PX.bind k |>.imp fun ys Hi2 H2 n2 k2 w rw => by
    obtain ⟨p, vs, rfl, h1, h2⟩ := Py.mono n2.im rv
    obtain ⟨q, ws, rfl, g1, g2⟩ := rw
    obtain ⟨c, k2⟩ := PX.chk k2
    refine ⟨p, q, vs, ws, rfl, rfl, Same.seq n2.sub h1, Same.seq n2.sub g1, by rw [← h2.length, ← g2.length]; exact c, fun r hr => ?_⟩
    have nr : H r = none := by
      cases z : H r with
      | none => rfl
      | some u => rw [(n1.al.trans n2.al) r u z] at hr; cases hr
    exact (PX.go (a := xs ++ ys) k2 (Nx.temp n2.sub hr)) r _ upd_same nr (hi_none n2.sub hr) ⟨_, rfl, h2.app g2⟩)))⟩
/-- tuple(list) -/
theorem ra_tupL [Py α] (hK : X.K = K := by rfl) : RA1 K E (fun xs H Q => ∃ p ys, xs = [.ref p] ∧ ((SqL X.K H p ys ∧ ∀ l, H l = none → Q (.ref l) (upd H l (.tup ys))) ∨ (SqT X.K H p ys ∧ Q (.ref p) H))) (fun xs : List α => (pure xs : M (Tup α))) := by
  subst hK
  rintro xs v Hi H Q s ⟨p, vs, rfl, h1, h2⟩ h
  exact ⟨p, vs, rfl, .inl ⟨Same.seq s h1, fun r hr => PX.go (α := Tup α) (a := xs) h (Nx.new s hr) _ ⟨r, _, rfl, .of upd_same, h2.mono (same_new (hi_none s hr))⟩⟩⟩
/-- list(xs), a value -/
theorem ra_lstL [Py α] (hK : X.K = K := by rfl) : RA1 K E (fun xs H Q => ∃ p ys, xs = [.ref p] ∧ (SqL X.K H p ys ∨ SqT X.K H p ys) ∧ ∀ l, H l = none → Q (.ref l) (upd H l (.lst ys))) (fun xs : List α => (pure xs : M (List α))) := by
  subst hK
  rintro xs v Hi H Q s ⟨p, vs, rfl, h1, h2⟩ h
  exact ⟨p, vs, rfl, .inl (Same.seq s h1), fun r hr => PX.go (a := xs) h (Nx.new s hr) _ ⟨r, _, rfl, .of upd_same, h2.mono (same_new (hi_none s hr))⟩⟩
theorem ra_lstU [Py α] (hK : X.K = K := by rfl) : RA1 K E (fun xs H Q => ∃ p ys, xs = [.ref p] ∧ (SqL X.K H p ys ∨ SqT X.K H p ys) ∧ ∀ l, H l = none → Q (.ref l) (upd H l (.lst ys))) (fun xs : Tup α => (pure xs : M (List α))) := by
  subst hK
  rintro xs v Hi H Q s ⟨p, vs, rfl, h1, h2⟩ h
  exact ⟨p, vs, rfl, .inr (sqt_mono s h1), fun r hr => PX.go (α := List α) (a := xs) h (Nx.new s hr) _ ⟨r, _, rfl, .of upd_same, h2.mono (same_new (hi_none s hr))⟩⟩
theorem ra_lenP [Py α] [Py β] : RA1 K E (fun xs H Q => ∃ p ys, xs = [.ref p] ∧ (SqL K H p ys ∨ SqT K H p ys) ∧ Q (.int ys.length) H) (fun _ : α × β => (pure 2 : M Int)) := by
  rintro xs v Hi H Q s ⟨p, v1, v2, rfl, h1, h2⟩ h
  exact ⟨p, _, rfl, .inr (sqt_mono s h1), h.here s _ rfl⟩
theorem ra_lenT3 [Py α] [Py β] [Py γ] : RA1 K E (fun xs H Q => ∃ p ys, xs = [.ref p] ∧ (SqL K H p ys ∨ SqT K H p ys) ∧ Q (.int ys.length) H) (fun _ : T3 α β γ => (pure 3 : M Int)) := by
  rintro xs v Hi H Q s ⟨p, v1, v2, v3, rfl, h1, h2⟩ h
  exact ⟨p, _, rfl, .inr (sqt_mono s h1), h.here s _ rfl⟩
/-- a value, or nothing -/
theorem je_some [Py α] {m : M α} (h : JE X K b L E e m) : JE X K b L E e (m >>= fun x => (pure (some x) : M (Option α))) :=
  ⟨fun σ Hi H en Q hq => h.go σ Hi H en Q ((PX.bind hq).imp fun x Hi1 H1 n1 k v rv => PX.here (a := some x) k n1.sub v rv)⟩
/-- list(xs), held -/
theorem jf_list [Py α] {m : M (List α)} (hm : mg "list" = none) (h : JE X K b L E e m) (hK : X.K = K := by rfl) (hM : X.mg = mg := by rfl)
    (hg : Gl X "list" := by rfl) (he : starEach [e] X.env = (false, eval e X.env) :: starEach [] X.env := by rfl) (hpl : (backTo pos (starEach [] X.env)).any (·.1) = false := by rfl) : JF X K b L E (.Call (.Name "list" p2) [e] [] pos) (ctL K) (m >>= fun xs => (pure xs : M (List α))) := by
  subst hK
  exact ⟨fun σ Hi H en Q hq => PE.wp (pe_callTy call_list_of hg (by rw [hM]; exact hm) bt_list (pa_cons pe_wp pa_nil he) (by decide) (by decide) he hpl) (h.go σ Hi H en _ ((PX.bind hq).imp fun xs Hi1 H1 n1 k v rv => by
    obtain ⟨p, vs, rfl, h1, h2⟩ := rv
    refine ⟨p, vs, rfl, .inl (Same.seq n1.sub h1), fun r hr => ?_⟩
    have nr : H r = none := by
      cases z : H r with
      | none => rfl
      | some u => rw [n1.al r u z] at hr; cases hr
    exact (PX.go (a := xs) k (Nx.temp n1.sub hr)) r _ upd_same nr (hi_none n1.sub hr) ⟨_, rfl, h2⟩))⟩
end
end G

set_option Elab.async false
set_option linter.all false
set_option maxRecDepth 100000
set_option maxHeartbeats 2000000
namespace G
open PySem L2 TL
/-! ### own classes: an instance is a class by its place among cs, and its fields by name; it is not changed once made -/
class PyR (α : Type) where
  prl : Fg → α → List Pr
instance : PyR Unit := ⟨fun _ _ => []⟩
instance instPyRP {α β : Type} [Py α] [PyR β] : PyR (α × β) := ⟨fun K x => rp K x.1 :: PyR.prl K x.2⟩
structure Ins (cs fs : List Str) (α : Type) where
  c : Nat
  f : α
def FvOk (H : Hp) (l : List (Str × Pr)) (kvs : List (Str × V)) : Prop := Paired (fun (q : Str × Pr) (kv : Str × V) => kv.1 = q.1 ∧ q.2.r H kv.2) l kvs
theorem FvOk.mono {H H' : Hp} {l : List (Str × Pr)} {kvs : List (Str × V)} (e : Same H H') (h : FvOk H l kvs) : FvOk H' l kvs := Paired.mapP h fun q _ r => ⟨r.1, q.2.m e r.2⟩
theorem FvOk.at {H : Hp} : ∀ {l : List (Str × Pr)} {kvs : List (Str × V)} (_ : FvOk H l kvs) {i : Nat} {f : Str} {p : Pr}, l[i]? = some (f, p) → ∃ v, kvs[i]? = some (f, v) ∧ p.r H v
  | _, _, .nil, i, f, p, e => by simp at e
  | _, kv :: _, .cons r _, 0, f, p, e => by
    simp at e; subst e
    exact ⟨kv.2, (congrArg some (Prod.ext r.1 rfl) : some kv = some (f, kv.2)), r.2⟩
  | _, _, .cons _ t, i + 1, f, p, e => by
    obtain ⟨v, h1, h2⟩ := FvOk.at t (i := i) (f := f) (p := p) (by simpa using e)
    exact ⟨v, by simpa using h1, h2⟩
theorem FvOk.keys {H : Hp} : ∀ {l : List (Str × Pr)} {kvs : List (Str × V)} (_ : FvOk H l kvs), kvs.map (·.1) = l.map (·.1)
  | _, _, .nil => rfl
  | _, _, .cons r t => by rw [List.map_cons, List.map_cons, r.1, FvOk.keys t]
theorem FvOk.length {H : Hp} {l : List (Str × Pr)} {kvs : List (Str × V)} (h : FvOk H l kvs) : l.length = kvs.length := Paired.length h
theorem lookup_at : ∀ {kvs : List (Str × V)}, (kvs.map (·.1)).Nodup → ∀ {i : Nat} {f : Str} {v : V}, kvs[i]? = some (f, v) → kvs.lookup f = some v
  | [], _, i, f, v, e => by simp at e
  | (g, x) :: r, hn, 0, f, v, e => by
    simp at e
    obtain ⟨rfl, rfl⟩ := e
    simp [List.lookup]
  | (g, x) :: r, hn, i + 1, f, v, e => by
    have hn' : g ∉ r.map (·.1) ∧ (r.map (·.1)).Nodup := List.nodup_cons.mp hn
    have e' : r[i]? = some (f, v) := by simpa using e
    have hf : f ∈ r.map (·.1) := List.mem_map.mpr ⟨(f, v), List.mem_of_getElem? e', rfl⟩
    have hne : ¬ f = g := fun z => hn'.1 (z ▸ hf)
    have hb : (f == g) = false := beq_eq_false_iff_ne.mpr hne
    simp only [List.lookup, hb]
    exact lookup_at hn'.2 e'
theorem lookup_no : ∀ {kvs : List (Str × V)} {f : Str}, f ∉ kvs.map (·.1) → kvs.lookup f = none
  | [], f, _ => rfl
  | (g, x) :: r, f, h => by
    have h1 : ¬ f = g := fun z => h (by rw [z]; exact List.mem_cons_self ..)
    have hb : (f == g) = false := beq_eq_false_iff_ne.mpr h1
    simp only [List.lookup, hb]
    exact lookup_no fun z => h (List.mem_cons_of_mem _ z)
theorem putF_new : ∀ {kvs : List (Str × V)} {f : Str} {v : V}, f ∉ kvs.map (·.1) → putF f v kvs = kvs ++ [(f, v)]
  | [], f, v, _ => rfl
  | (g, x) :: r, f, v, h => by
    have h1 : ¬ g = f := fun z => h (by rw [← z]; exact List.mem_cons_self ..)
    show (if g = f then _ else (g, x) :: putF f v r) = _
    rw [if_neg h1, putF_new fun z => h (List.mem_cons_of_mem _ z)]
    rfl
instance instPyIns {cs fs : List Str} {α : Type} [PyR α] : Py (Ins cs fs α) := ⟨fun K H x v => ∃ p nm dx kvs, v = .ref p ∧ cs[x.c]? = some nm ∧ H p = some (.ins (He.ga K nm) dx kvs) ∧ FvOk H (fs.zip (PyR.prl K x.f)) kvs,
  fun e ⟨p, nm, dx, kvs, h1, h2, h3, h4⟩ => ⟨p, nm, dx, kvs, h1, h2, e _ _ h3, h4.mono e⟩⟩
/-- an instance under way -/
def ctO (C : Addr) (l : List (Str × Pr)) : Ct := ⟨fun H o => ∃ dx kvs, o = .ins C dx kvs ∧ FvOk H l kvs, fun e ⟨dx, kvs, h1, h2⟩ => ⟨dx, kvs, h1, h2.mono e⟩⟩
/-- what the top has told of the classes -/
structure ClsF (K : Fg) (cs fs : List Str) : Prop where
  cl : ∀ nm ∈ cs, Cls K (He.ga K nm)
  no : ∀ nm ∈ cs, ∀ f ∈ fs, NoAttr K (He.ga K nm) f
structure OkM (P : Program) (w : World) (K : Fg) (mg : Str → Option Value) (base : Heap) (C : Addr) (m : Str) (k : Nat) (sp : Sp) : Prop where
  ex : ∃ f fd ps, Meth K C m f ∧ FnOk P w K mg base (L2.CX P w) k f fd ps sp ∧ Binds K fd ps []
structure OkN (P : Program) (w : World) (K : Fg) (mg : Str → Option Value) (base : Heap) (x : Str) (k : Nat) (sp : Sp) : Prop where
  g : mg x = some (.ref (He.ga K x))
  ex : ∃ f fd ps, Mk K (He.ga K x) f ∧ FnOk P w K mg base (L2.CX P w) k f fd ps sp ∧ Binds K fd ps []
def noMu' (L : List En) : Prop := ∀ (i : Nat) (c : Ct), L[i]? ≠ some (.mu c)
theorem OkM.mono {P : Program} {w : World} {K : Fg} {mg : Str → Option Value} {base : Heap} {C : Addr} {m : Str} {j k : Nat} {sp : Sp} (F : OkM P w K mg base C m j sp) (h : j ≤ k) : OkM P w K mg base C m k sp :=
  let ⟨f, fd, ps, a, b, c⟩ := F.ex
  ⟨f, fd, ps, a, b.mono h, c⟩
theorem noMu_nil : noMu' [] := fun i c h => by simp at h
theorem noMu_im {p : Pr} {L : List En} (h : noMu' L) : noMu' (.im p :: L) := fun i c e => by
  cases i with
  | zero => simp at e
  | succ i => exact h i c (by simpa using e)
theorem noMu_no {L : List En} (h : noMu' L) : noMu' (.no :: L) := fun i c e => by
  cases i with
  | zero => simp at e
  | succ i => exact h i c (by simpa using e)
/-- isinstance of own classes -/
structure InsF (K : Fg) (x y : Str) (b : Bool) : Prop where
  ha : PySem.W.findIn K (.ref (He.ga K x)) "__class__" = some (some (.builtin "object.__class__"))
  hn : PySem.W.specialIn K (.builtin "object.__class__") "__get__" = some (some (.builtin "getset_descriptor.__get__"))
  htk : PySem.W.takesIn K (.builtin "object.__class__") = some true
  hm : PySem.W.mroIn K (He.ga K x) (.type "object") = some true
  me : PySem.W.kitOne K (.ref (He.ga K x)) (.ref (He.ga K y)) = some b
theorem insB_ok {K : Fg} {x y : Str} {b : Bool} (h : insB K x y b = true) : InsF K x y b := by
  unfold insB at h
  simp only [Bool.and_eq_true, decide_eq_true_eq] at h
  exact ⟨h.1, h.2.1, h.2.2.1, h.2.2.2.1, h.2.2.2.2⟩
/-! the Hook, widened by facts of one's own -/
theorem fx_at {fx : List (Fg → Bool)} {K : Fg} (h : (fx.all fun f => f K) = true) (i : Nat) {f : Fg → Bool} (e : fx[i]? = some f := by rfl) : f K = true := List.all_eq_true.mp h f (List.mem_of_getElem? e)

section
variable {X : Cx} {K : Fg} {mg : Str → Option Value} {b : Bs} {L : List En} {E : XK} {e : Expr} {st : Stmt} {cs fs : List Str} {α β : Type} [PyR α] [Py β] {pos p2 p3 p' : Pos} {f x : Str}
theorem je_fld {m : M (Ins cs fs α)} (i : Nat) {g : α → β} (c : ClsF K cs fs) (h : JE X K b L E e m) (hi : ∀ a, (fs.zip (PyR.prl K a))[i]? = some (f, rp K (g a)) := by intro _; rfl) (hf : f ∈ fs := by decide +kernel) (hn : fs.Nodup := by decide +kernel)
    (hl : ∀ a, (fs.zip (PyR.prl K (α := α) a)).map (·.1) = fs := by intro _; rfl) (hK : X.K = K := by rfl) (hb : attributeBase e f X.env (eval e X.env) = eval e X.env := by rfl) : JE X K b L E (.Attribute e f pos) (m >>= fun x => pure (g x.f)) := by
  subst hK
  refine .of ⟨_, pe_fld pe_wp hb, fun σ Hi H en Q h1 => h.go σ Hi H en _ (h1.bind.imp fun y Hi1 H1 n1 k v rv => ?_)⟩
  obtain ⟨p, nm, dx, kvs, rfl, h2, h3, h4⟩ := rv
  have hnm := List.mem_of_getElem? h2
  obtain ⟨u, g1, g2⟩ := h4.at (hi y.f)
  exact ⟨p, _, dx, kvs, u, rfl, n1.sub _ _ h3, c.cl nm hnm, c.no nm hnm f hf, lookup_at (by rw [h4.keys, hl]; exact hn) g1, k.here n1.sub _ g2⟩
/-! in __init__: the instance at p is under way, nothing else of the caller's is touched -/
def BsI (b : Bs) (p C : Addr) (l : List (Str × Pr)) : Prop := b.own = [] ∧ ∃ dx kvs, b.H p = some (.ins C dx kvs) ∧ FvOk b.Hi l kvs
def prR (p : Addr) : Pr := ⟨fun _ v => v = .ref p, fun _ h => h⟩
abbrev noMu (L : List En) : Prop := noMu' L
structure JN (X : Cx) (K : Fg) (p C : Addr) (L : List En) (l : List (Str × Pr)) (E : XK) (ss : List Stmt) {ρ : Type} (m : M ρ) (fin : ρ → List (Str × Pr)) : Prop where
  go : ∀ σ b, EnvOk b L σ b.Hi b.H → BsI b p C l → b.Hi p = none → ∀ D : Ends, PZ K E ⟨b.Hi, b.H, [p]⟩ m (fun r => ∀ σ' Hi' H' o', Ok ⟨b.Hi, b.H, [p]⟩ Hi' H' → H' p = some o' → Hi' p = none → (ctO C (fin r)).r Hi' o' → D.nx σ' H') → wpB X ss D σ b.H
theorem EnvOk.rebase {σ : L2.St} {b : Bs} {Hi H : Hp} (en : EnvOk b L σ Hi H) (hm : noMu L) {H2 : Hp} (sm : Same Hi H2) : EnvOk ⟨Hi, H2, []⟩ L σ Hi H2 :=
  ⟨⟨sm, Same.refl _, fun _ _ _ h => h, fun _ h => h, fun _ _ h => h⟩, en.len, en.im, fun i c h => absurd h (hm i c), fun i _ c _ _ h => absurd h (hm i c)⟩
theorem okP {b : Bs} {p : Addr} {Hi1 H1 Hi' H' : Hp} {u : HO} (ho : b.own = []) (o : Ok b Hi1 H1) (hp : b.H p ≠ none) (o2 : Ok ⟨Hi1, upd H1 p u, [p]⟩ Hi' H') : Ok ⟨b.Hi, b.H, [p]⟩ Hi' H' where
  sub := o2.sub
  base := o.base.trans o2.base
  fr := fun a w n h => by
    have hn : a ≠ p := fun z => n (List.mem_singleton.mpr z)
    exact o2.fr a w n (by show upd H1 p u a = some w; rw [upd_ne hn]; exact o.fr a w (by rw [ho]; simp) h)
  keep := fun a h => o2.keep a (by
    show upd H1 p u a ≠ none
    by_cases hn : a = p
    · subst hn; rw [upd_same]; exact fun z => nomatch z
    · rw [upd_ne hn]; exact o.keep a h)
  cap := fun a h n => o2.cap a (by
    show upd H1 p u a ≠ none
    by_cases hn : a = p
    · subst hn; rw [upd_same]; exact fun z => nomatch z
    · rw [upd_ne hn]; exact o.keep a h) (o.cap a h n)
theorem jn_nil {p C : Addr} {l : List (Str × Pr)} {ρ : Type} {r : ρ} {fin : ρ → List (Str × Pr)} (e : fin r = l := by rfl) : JN X K p C L l E [] (pure r) fin :=
  ⟨fun σ b en ⟨h1, dx, kvs, h2, h3⟩ hp D hz => PSs.wp pss_nil (show D.nx σ b.H from hz σ b.Hi b.H _ ⟨en.ok.sub, Same.refl _, fun _ _ _ h => h, fun _ h => h, fun _ _ h => h⟩ h2 hp ⟨dx, kvs, rfl, by rw [e]; exact h3⟩)⟩
theorem PZ.pxI {ρ δ : Type} {m : M δ} {b : Bs} {p : Addr} {f : δ → M ρ} {post : ρ → Prop} (ho : b.own = []) (h : PZ K E ⟨b.Hi, b.H, [p]⟩ (m >>= f) post) : PX K E m b.Hi b.H fun a _ _ => PZ K E ⟨b.Hi, b.H, [p]⟩ (f a) post := by
  cases m with
  | ok a => exact fun _ _ _ => h
  | error e =>
    cases e with
    | rs c => exact fun Hi' H' n => h Hi' H' ⟨n.sub, n.im, fun a u _ e => n.al a u e, fun a e => some_ne n.al e, n.cap⟩
    | st => exact h
theorem PZ.base {ρ : Type} {m : M ρ} {b b' : Bs} {post post' : ρ → Prop} (k : ∀ Hi' H', Ok b' Hi' H' → Ok b Hi' H') (i : ∀ a, post a → post' a) (h : PZ K E b m post) : PZ K E b' m post' := by
  cases m with
  | ok a => exact i a h
  | error e =>
    cases e with
    | rs c => exact fun Hi' H' o => h Hi' H' (k _ _ o)
    | st => exact h
theorem jn_fld (ks : List Str) {p : Addr} {m1 : M β} {ρ : Type} {m2 : β → M ρ} {fin : ρ → List (Str × Pr)} {nm : Str} {l : List (Str × Pr)} {pn : Pos} {rest : List Stmt} (c : ClsF K cs fs) (hnm : nm ∈ cs) (h : ∀ b, BsI b p (He.ga K nm) l → JE X K b L E e m1)
    (h2 : ∀ a, JN X K p (He.ga K nm) L (l ++ [(f, rp K a)]) E rest (m2 a) fin) (hm : noMu L) (hL : L[0]? = some (.im (prR p)) := by rfl) (hks : l.map (·.1) = ks := by rfl) (hf : f ∈ fs := by decide +kernel) (hno' : f ∉ ks := by decide +kernel) (hlen' : ks.length < 100 := by decide)
    (hN : X.N[0]? = some x := by rfl) (hv : Vis X.env.scope x := by first | exact Or.inl rfl | exact Or.inr (Or.inl rfl) | exact Or.inr (Or.inr rfl)) (hK : X.K = K := by rfl) (hd : (x == ("__debug__" : Str)) = false := by decide) (hcd : (x == ("__classdict__" : Str)) = false := by decide)
    (hs : swapsWith e (some (.Attribute (.Name x pn) f p')) pos.line X.env = pure false := by rfl) : JN X K p (He.ga K nm) L l E (.Assign [.Attribute (.Name x pn) f p'] e pos :: rest) (m1 >>= fun a => m2 a) fin := by
  subst hK
  have hno : f ∉ l.map (·.1) := by rw [hks]; exact hno'
  have hlen : l.length < 100 := by rw [← List.length_map (f := fun q : Str × Pr => q.1), hks]; exact hlen'
  refine ⟨fun σ b en hb hp D hz => ?_⟩
  obtain ⟨ho, dx, kvs, h3, h4⟩ := id hb
  refine PSs.wp (pss_cons (ps_fld (pe_var hN hv hd hcd) pe_wp hs) pss_wp) ((h b hb).go σ b.Hi b.H en _ ((PZ.pxI ho hz).imp fun a Hi1 H1 n1 q v rv => ?_))
  have en1 := en.nx n1
  obtain ⟨v0, e0, e1⟩ := en.im 0 _ hL
  have e1 : v0 = V.ref p := e1
  subst e1
  have hH1 := n1.al _ _ h3
  have hp1 : Hi1 p = none := n1.cap p (by rw [h3]; exact fun z => nomatch z) hp
  refine ⟨_, e0, p, _, dx, kvs, rfl, hH1, c.cl nm hnm, c.no nm hnm f hf, by rw [← h4.length]; omega, ?_⟩
  have app : ∀ {l : List (Str × Pr)} {kvs : List (Str × V)}, FvOk Hi1 l kvs → FvOk Hi1 (l ++ [(f, rp X.K a)]) (kvs ++ [(f, v)]) := by
    intro l kvs h
    induction h with
    | nil => exact .cons ⟨rfl, rv⟩ .nil
    | cons r _ ih => exact .cons r ih
  have sm : Same Hi1 (upd H1 p (.ins (He.ga X.K nm) dx (putF f v kvs))) := fun a w e => by
    rw [upd_ne (ne_of_none e hp1)]; exact n1.sub a w e
  have hpn : b.H p ≠ none := by rw [h3]; exact fun z => nomatch z
  refine (h2 a).go σ ⟨Hi1, _, []⟩ (en1.rebase hm sm) ⟨rfl, dx, _, upd_same, ?_⟩ hp1 _ (PZ.base (fun Hi' H' o => okP ho en1.ok hpn o) (fun r z σ' Hi' H' o' o g1 g2 g3 => z σ' Hi' H' o' (okP ho en1.ok hpn o) g1 g2 g3) q)
  rw [putF_new (by rw [h4.keys]; exact hno)]
  exact app (h4.mono n1.im)
/-- self.f, in __init__ -/
theorem je_self (ks : List Str) {p : Addr} {nm : Str} {l : List (Str × Pr)} {a : β} {pn : Pos} (i : Nat) (c : ClsF K cs fs) (hnm : nm ∈ cs) (hb : BsI b p (He.ga K nm) l) (hi : l[i]? = some (f, rp K a) := by rfl) (hL : L[0]? = some (.im (prR p)) := by rfl) (hks : l.map (·.1) = ks := by rfl) (hf : f ∈ fs := by decide +kernel) (hn' : ks.Nodup := by decide +kernel)
    (hN : X.N[0]? = some x := by rfl) (hv : Vis X.env.scope x := by first | exact Or.inl rfl | exact Or.inr (Or.inl rfl) | exact Or.inr (Or.inr rfl)) (hK : X.K = K := by rfl) (hd : (x == ("__debug__" : Str)) = false := by decide) (hcd : (x == ("__classdict__" : Str)) = false := by decide)
    (hba : attributeBase (.Name x pn) f X.env (eval (.Name x pn) X.env) = eval (.Name x pn) X.env := by rfl) : JE X K b L E (.Attribute (.Name x pn) f pos) (pure a : M β) := by
  subst hK
  have hn : (l.map (·.1)).Nodup := by rw [hks]; exact hn'
  obtain ⟨ho, dx, kvs, h3, h4⟩ := hb
  refine .of ⟨_, pe_fld (pe_var hN hv hd hcd) hba, fun σ Hi H en Q h => ?_⟩
  obtain ⟨v0, e0, e1⟩ := en.im 0 _ hL
  have e1 : v0 = V.ref p := e1
  subst e1
  obtain ⟨u, g1, g2⟩ := h4.at hi
  exact ⟨_, e0, p, _, dx, kvs, u, rfl, en.ok.fr _ _ (by rw [ho]; simp) h3, c.cl nm hnm, c.no nm hnm f hf, lookup_at (by rw [h4.keys]; exact hn) g1, h.here en.sub u ((rp X.K a).m en.ok.base g2)⟩
theorem jn_st {p C : Addr} {S ρ : Type} {m1 : M S} {Lf : S → List En} {m2 : S → M ρ} {fin : ρ → List (Str × Pr)} {l : List (Str × Pr)} {st : Stmt} {rest : List Stmt} (h : ∀ b, BsI b p C l → J1 X K b L E st m1 Lf) (h2 : ∀ s, JN X K p C (Lf s) l E rest (m2 s) fin) (hm : ∀ s, noMu (Lf s)) :
    JN X K p C L l E (st :: rest) (m1 >>= fun s => m2 s) fin := by
  refine ⟨fun σ b en hb hp D hz => ?_⟩
  obtain ⟨ho, dx, kvs, h3, h4⟩ := id hb
  have hpn : b.H p ≠ none := by rw [h3]; exact fun z => nomatch z
  have lift : ∀ {Hi' H' : Hp}, Ok b Hi' H' → Ok ⟨b.Hi, b.H, [p]⟩ Hi' H' := fun {Hi' H'} o => ⟨o.sub, o.base, fun a u _ e => o.fr a u (by rw [ho]; simp) e, o.keep, o.cap⟩
  refine PSs.wp (pss_cons ps_wp pss_wp) ((h b hb).go σ b.Hi b.H en _ (PZ.base (fun Hi' H' o => lift o) (fun s q σ' Hi' H' en' => ?_) (PZ.bindz hz)))
  have hp1 : Hi' p = none := en'.ok.cap p hpn hp
  have hH : H' p = some (.ins C dx kvs) := en'.ok.fr p _ (by rw [ho]; simp) h3
  have e2 : upd H' p (.ins C dx kvs) = H' := funext fun a => by
    by_cases z : a = p
    · subst z; rw [upd_same]; exact hH.symm
    · rw [upd_ne z]
  have lift2 : ∀ {Hi2 H2 : Hp}, Ok ⟨Hi', H', [p]⟩ Hi2 H2 → Ok ⟨b.Hi, b.H, [p]⟩ Hi2 H2 := fun {Hi2 H2} o => okP (u := .ins C dx kvs) ho en'.ok hpn (by rw [e2]; exact o)
  exact (h2 s).go σ' ⟨Hi', H', []⟩ (en'.rebase (hm s) en'.ok.sub) ⟨rfl, dx, kvs, hH, h4.mono en'.ok.base⟩ hp1 D (PZ.base (fun _ _ o => lift2 o) (fun r z σ2 Hi2 H2 o' o g1 g2 g3 => z σ2 Hi2 H2 o' (lift2 o) g1 g2 g3) q)
theorem je_isiC {m : M (Ins cs fs α)} {y : Str} {bs : List Bool} (c : ClsF K cs fs) (hc : ∀ (j : Nat) (nm : Str), cs[j]? = some nm → InsF K nm y (bs.getD j false)) (hm : mg "isinstance" = none) (hm2 : mg y = some (.ref (He.ga K y))) (h : JE X K b L E e m)
    (hK : X.K = K := by rfl) (hM : X.mg = mg := by rfl) (hg : Gl X "isinstance" := by rfl) (hg2 : Gl X y := by rfl) (hd : (y == ("__debug__" : Str)) = false := by decide)
    (he : starEach [e, .Name y p2] X.env = (false, eval e X.env) :: starEach [.Name y p2] X.env := by rfl) (he2 : starEach [.Name y p2] X.env = (false, eval (.Name y p2) X.env) :: starEach [] X.env := by rfl)
    (hpl : (backTo pos (starEach [.Name y p2] X.env)).any (·.1) = false := by rfl) : JE X K b L E (.Call (.Name "isinstance" p3) [e, .Name y p2] [] pos) (m >>= fun x => (pure (bs.getD x.c false) : M Bool)) := by
  subst hK
  refine .of ⟨_, pe_callB call_isi hg (by rw [hM]; exact hm) bt_isinstance (pa_cons pe_wp (pa_cons (pe_glob (v := .ref (He.ga X.K y)) hg2 (by rw [hM]; exact hm2) rfl hd) pa_nil he2) he) (by decide) (by decide) he hpl, fun σ Hi H en Q hq => h.go σ Hi H en _ (hq.bind.imp fun a Hi1 H1 n1 q v rv => ?_)⟩
  obtain ⟨p, nm, dx, kvs, rfl, h2, h3, h4⟩ := rv
  have i := hc a.c nm h2
  exact ⟨.ref p, .ref (He.ga X.K y), .ref (He.ga X.K nm), .ref (He.ga X.K y), _, rfl, .own _, .base (.ins (n1.sub _ _ h3) (c.cl nm (List.mem_of_getElem? h2)) i.ha i.hn i.htk i.hm), i.me, q.here n1.sub _ rfl⟩
/-- isinstance of a value that is none of the own class -/
theorem rm_isupper : RM0 K E (fun x xs H Q => ∃ a, x = .str a ∧ xs = [] ∧ True ∧ Q (.bl (Txt.isupper a)) H) (fun x : Tx => (pure (Txt.isupper (S x)) : M Bool)) := by
  rintro x v Hi H Q s rfl h
  exact ⟨S x, rfl, rfl, trivial, h.here s _ rfl⟩
end
theorem nxI {Hi H0 H Hi' H' : Hp} {p : Addr} (hp0 : H0 p = none) (al : Same H0 H) (hp : H p ≠ none) (sm : Same Hi H0) (o : Ok ⟨Hi, H, [p]⟩ Hi' H') : Nx Hi H0 Hi' H' where
  im := o.base
  al := fun a u h => o.fr a u (by
    intro z
    rw [List.mem_singleton.mp z] at h
    rw [hp0] at h; cases h) (al a u h)
  sub := o.sub
  cap := fun a h n => o.cap a (some_ne al h) n
theorem nxI2 {Hi H0 H Hi' H' : Hp} {p : Addr} {u : HO} (hp0 : H0 p = none) (al : Same H0 H) (hp : H p ≠ none) (sm : Same Hi H0) (o : Ok ⟨Hi, H, [p]⟩ Hi' H') (h : H' p = some u) : Nx Hi H0 (upd Hi' p u) H' := by
  have n := nxI hp0 al hp sm o
  have hpi : Hi p = none := hi_none sm hp0
  have hpi' : Hi' p = none := o.cap p hp hpi
  refine ⟨fun a w e => ?_, n.al, fun a w e => ?_, fun a e z => ?_⟩
  · rw [upd_ne (ne_of_none e hpi)]; exact n.im a w e
  · by_cases hd : a = p
    · subst hd; rw [upd_same] at e; cases e; exact h
    · rw [upd_ne hd] at e; exact n.sub a w e
  · have hd : a ≠ p := fun y => e (by rw [y]; exact hp0)
    rw [upd_ne hd]; exact n.cap a e z
theorem mkM1 {α0 ρ : Type} [Py α0] [Py ρ] {P : Program} {w : World} {K : Fg} {mg : Str → Option Value} {base : Heap} {x q : Str} {fa : Addr} {N : List Str} {p0 : Str} {args : Arguments} {body : List Stmt} {sc : Scope} {k : Nat} {f : α0 → M ρ} {fd : FuncData} (F : FunD K x q args body sc [] [] fa fd) (S : FnScope N [p0] sc)
    (h : ∀ (cdv : Value) (A : Around) (outer : List Env) (s : Shared) (H : Hp) (E : XK), Room k (cxOf (L2.CX P w) P w K mg base N q sc fa cdv A outer s H E).A → ∀ (a0 : α0) (b : Bs), b.own = [] → JS (cxOf (L2.CX P w) P w K mg base N q sc fa cdv A outer s H E) K b ([.im (rp K a0)] ++ List.replicate (N.length - 1) .no) E body tlFn (f a0) (pRt K b)) : FnOk P w K mg base (L2.CX P w) (k + 1) fa fd [p0] (sp1 K f) := by
  refine F.ok S (fun vs H Q E hh => ?_) (fun cdv A outer s H vs Q E hr hh => ?_)
  · obtain ⟨a0, v0, Hi, rfl, _⟩ := hh
    rfl
  · obtain ⟨a0, v0, Hi, rfl, sm, r0, q⟩ := hh
    refine ⟨_, pss_wp, (h cdv A outer s H E hr a0 ⟨Hi, H, []⟩ rfl).go _ Hi H ?_ _ (fun σ' H' z => z) ?_⟩
    · exact EnvOk.start (ps := [rp K a0]) sm rfl (Paired.cons r0 Paired.nil)
    · exact PZ.of_fn q
theorem mkM2 {α0 α1 ρ : Type} [Py α0] [Py α1] [Py ρ] {P : Program} {w : World} {K : Fg} {mg : Str → Option Value} {base : Heap} {x q : Str} {fa : Addr} {N : List Str} {p0 p1 : Str} {args : Arguments} {body : List Stmt} {sc : Scope} {k : Nat} {f : α0 → α1 → M ρ} {fd : FuncData} (F : FunD K x q args body sc [] [] fa fd) (S : FnScope N [p0, p1] sc)
    (h : ∀ (cdv : Value) (A : Around) (outer : List Env) (s : Shared) (H : Hp) (E : XK), Room k (cxOf (L2.CX P w) P w K mg base N q sc fa cdv A outer s H E).A → ∀ (a0 : α0) (a1 : α1) (b : Bs), b.own = [] → JS (cxOf (L2.CX P w) P w K mg base N q sc fa cdv A outer s H E) K b ([.im (rp K a0), .im (rp K a1)] ++ List.replicate (N.length - 2) .no) E body tlFn (f a0 a1) (pRt K b)) : FnOk P w K mg base (L2.CX P w) (k + 1) fa fd [p0, p1] (sp2 K f) := by
  refine F.ok S (fun vs H Q E hh => ?_) (fun cdv A outer s H vs Q E hr hh => ?_)
  · obtain ⟨a0, a1, v0, v1, Hi, rfl, _⟩ := hh
    rfl
  · obtain ⟨a0, a1, v0, v1, Hi, rfl, sm, r0, r1, q⟩ := hh
    refine ⟨_, pss_wp, (h cdv A outer s H E hr a0 a1 ⟨Hi, H, []⟩ rfl).go _ Hi H ?_ _ (fun σ' H' z => z) ?_⟩
    · exact EnvOk.start (ps := [rp K a0, rp K a1]) sm rfl (Paired.cons r0 (Paired.cons r1 Paired.nil))
    · exact PZ.of_fn q
theorem mkM3 {α0 α1 α2 ρ : Type} [Py α0] [Py α1] [Py α2] [Py ρ] {P : Program} {w : World} {K : Fg} {mg : Str → Option Value} {base : Heap} {x q : Str} {fa : Addr} {N : List Str} {p0 p1 p2 : Str} {args : Arguments} {body : List Stmt} {sc : Scope} {k : Nat} {f : α0 → α1 → α2 → M ρ} {fd : FuncData} (F : FunD K x q args body sc [] [] fa fd) (S : FnScope N [p0, p1, p2] sc)
    (h : ∀ (cdv : Value) (A : Around) (outer : List Env) (s : Shared) (H : Hp) (E : XK), Room k (cxOf (L2.CX P w) P w K mg base N q sc fa cdv A outer s H E).A → ∀ (a0 : α0) (a1 : α1) (a2 : α2) (b : Bs), b.own = [] → JS (cxOf (L2.CX P w) P w K mg base N q sc fa cdv A outer s H E) K b ([.im (rp K a0), .im (rp K a1), .im (rp K a2)] ++ List.replicate (N.length - 3) .no) E body tlFn (f a0 a1 a2) (pRt K b)) : FnOk P w K mg base (L2.CX P w) (k + 1) fa fd [p0, p1, p2] (sp3 K f) := by
  refine F.ok S (fun vs H Q E hh => ?_) (fun cdv A outer s H vs Q E hr hh => ?_)
  · obtain ⟨a0, a1, a2, v0, v1, v2, Hi, rfl, _⟩ := hh
    rfl
  · obtain ⟨a0, a1, a2, v0, v1, v2, Hi, rfl, sm, r0, r1, r2, q⟩ := hh
    refine ⟨_, pss_wp, (h cdv A outer s H E hr a0 a1 a2 ⟨Hi, H, []⟩ rfl).go _ Hi H ?_ _ (fun σ' H' z => z) ?_⟩
    · exact EnvOk.start (ps := [rp K a0, rp K a1, rp K a2]) sm rfl (Paired.cons r0 (Paired.cons r1 (Paired.cons r2 Paired.nil)))
    · exact PZ.of_fn q
theorem mkM4 {α0 α1 α2 α3 ρ : Type} [Py α0] [Py α1] [Py α2] [Py α3] [Py ρ] {P : Program} {w : World} {K : Fg} {mg : Str → Option Value} {base : Heap} {x q : Str} {fa : Addr} {N : List Str} {p0 p1 p2 p3 : Str} {args : Arguments} {body : List Stmt} {sc : Scope} {k : Nat} {f : α0 → α1 → α2 → α3 → M ρ} {fd : FuncData} (F : FunD K x q args body sc [] [] fa fd) (S : FnScope N [p0, p1, p2, p3] sc)
    (h : ∀ (cdv : Value) (A : Around) (outer : List Env) (s : Shared) (H : Hp) (E : XK), Room k (cxOf (L2.CX P w) P w K mg base N q sc fa cdv A outer s H E).A → ∀ (a0 : α0) (a1 : α1) (a2 : α2) (a3 : α3) (b : Bs), b.own = [] → JS (cxOf (L2.CX P w) P w K mg base N q sc fa cdv A outer s H E) K b ([.im (rp K a0), .im (rp K a1), .im (rp K a2), .im (rp K a3)] ++ List.replicate (N.length - 4) .no) E body tlFn (f a0 a1 a2 a3) (pRt K b)) : FnOk P w K mg base (L2.CX P w) (k + 1) fa fd [p0, p1, p2, p3] (sp4 K f) := by
  refine F.ok S (fun vs H Q E hh => ?_) (fun cdv A outer s H vs Q E hr hh => ?_)
  · obtain ⟨a0, a1, a2, a3, v0, v1, v2, v3, Hi, rfl, _⟩ := hh
    rfl
  · obtain ⟨a0, a1, a2, a3, v0, v1, v2, v3, Hi, rfl, sm, r0, r1, r2, r3, q⟩ := hh
    refine ⟨_, pss_wp, (h cdv A outer s H E hr a0 a1 a2 a3 ⟨Hi, H, []⟩ rfl).go _ Hi H ?_ _ (fun σ' H' z => z) ?_⟩
    · exact EnvOk.start (ps := [rp K a0, rp K a1, rp K a2, rp K a3]) sm rfl (Paired.cons r0 (Paired.cons r1 (Paired.cons r2 (Paired.cons r3 Paired.nil))))
    · exact PZ.of_fn q
theorem mkM5 {α0 α1 α2 α3 α4 ρ : Type} [Py α0] [Py α1] [Py α2] [Py α3] [Py α4] [Py ρ] {P : Program} {w : World} {K : Fg} {mg : Str → Option Value} {base : Heap} {x q : Str} {fa : Addr} {N : List Str} {p0 p1 p2 p3 p4 : Str} {args : Arguments} {body : List Stmt} {sc : Scope} {k : Nat} {f : α0 → α1 → α2 → α3 → α4 → M ρ} {fd : FuncData} (F : FunD K x q args body sc [] [] fa fd) (S : FnScope N [p0, p1, p2, p3, p4] sc)
    (h : ∀ (cdv : Value) (A : Around) (outer : List Env) (s : Shared) (H : Hp) (E : XK), Room k (cxOf (L2.CX P w) P w K mg base N q sc fa cdv A outer s H E).A → ∀ (a0 : α0) (a1 : α1) (a2 : α2) (a3 : α3) (a4 : α4) (b : Bs), b.own = [] → JS (cxOf (L2.CX P w) P w K mg base N q sc fa cdv A outer s H E) K b ([.im (rp K a0), .im (rp K a1), .im (rp K a2), .im (rp K a3), .im (rp K a4)] ++ List.replicate (N.length - 5) .no) E body tlFn (f a0 a1 a2 a3 a4) (pRt K b)) : FnOk P w K mg base (L2.CX P w) (k + 1) fa fd [p0, p1, p2, p3, p4] (sp5 K f) := by
  refine F.ok S (fun vs H Q E hh => ?_) (fun cdv A outer s H vs Q E hr hh => ?_)
  · obtain ⟨a0, a1, a2, a3, a4, v0, v1, v2, v3, v4, Hi, rfl, _⟩ := hh
    rfl
  · obtain ⟨a0, a1, a2, a3, a4, v0, v1, v2, v3, v4, Hi, rfl, sm, r0, r1, r2, r3, r4, q⟩ := hh
    refine ⟨_, pss_wp, (h cdv A outer s H E hr a0 a1 a2 a3 a4 ⟨Hi, H, []⟩ rfl).go _ Hi H ?_ _ (fun σ' H' z => z) ?_⟩
    · exact EnvOk.start (ps := [rp K a0, rp K a1, rp K a2, rp K a3, rp K a4]) sm rfl (Paired.cons r0 (Paired.cons r1 (Paired.cons r2 (Paired.cons r3 (Paired.cons r4 Paired.nil)))))
    · exact PZ.of_fn q
theorem mkM6 {α0 α1 α2 α3 α4 α5 ρ : Type} [Py α0] [Py α1] [Py α2] [Py α3] [Py α4] [Py α5] [Py ρ] {P : Program} {w : World} {K : Fg} {mg : Str → Option Value} {base : Heap} {x q : Str} {fa : Addr} {N : List Str} {p0 p1 p2 p3 p4 p5 : Str} {args : Arguments} {body : List Stmt} {sc : Scope} {k : Nat} {f : α0 → α1 → α2 → α3 → α4 → α5 → M ρ} {fd : FuncData} (F : FunD K x q args body sc [] [] fa fd) (S : FnScope N [p0, p1, p2, p3, p4, p5] sc)
    (h : ∀ (cdv : Value) (A : Around) (outer : List Env) (s : Shared) (H : Hp) (E : XK), Room k (cxOf (L2.CX P w) P w K mg base N q sc fa cdv A outer s H E).A → ∀ (a0 : α0) (a1 : α1) (a2 : α2) (a3 : α3) (a4 : α4) (a5 : α5) (b : Bs), b.own = [] → JS (cxOf (L2.CX P w) P w K mg base N q sc fa cdv A outer s H E) K b ([.im (rp K a0), .im (rp K a1), .im (rp K a2), .im (rp K a3), .im (rp K a4), .im (rp K a5)] ++ List.replicate (N.length - 6) .no) E body tlFn (f a0 a1 a2 a3 a4 a5) (pRt K b)) : FnOk P w K mg base (L2.CX P w) (k + 1) fa fd [p0, p1, p2, p3, p4, p5] (sp6 K f) := by
  refine F.ok S (fun vs H Q E hh => ?_) (fun cdv A outer s H vs Q E hr hh => ?_)
  · obtain ⟨a0, a1, a2, a3, a4, a5, v0, v1, v2, v3, v4, v5, Hi, rfl, _⟩ := hh
    rfl
  · obtain ⟨a0, a1, a2, a3, a4, a5, v0, v1, v2, v3, v4, v5, Hi, rfl, sm, r0, r1, r2, r3, r4, r5, q⟩ := hh
    refine ⟨_, pss_wp, (h cdv A outer s H E hr a0 a1 a2 a3 a4 a5 ⟨Hi, H, []⟩ rfl).go _ Hi H ?_ _ (fun σ' H' z => z) ?_⟩
    · exact EnvOk.start (ps := [rp K a0, rp K a1, rp K a2, rp K a3, rp K a4, rp K a5]) sm rfl (Paired.cons r0 (Paired.cons r1 (Paired.cons r2 (Paired.cons r3 (Paired.cons r4 (Paired.cons r5 Paired.nil))))))
    · exact PZ.of_fn q
theorem je_meth0 { ρ α : Type}  [Py ρ] [PyR α] {X : Cx} {K : Fg} {b : Bs} {L : List En} {E : XK} {o  : Expr} {cs fs : List Str} {mo : M (Ins cs fs α)}  {f : Ins cs fs α → M ρ} {m nm0 : Str} {apos pos : Pos} {pl : Sem Bool} {k : Nat} (c : ClsF K cs fs) (hz : cs[0]? = some nm0) (F : ∀ (j : Nat) (nm : Str), cs[j]? = some nm → ∃ g : Ins cs fs α → M ρ, OkM X.prog X.w X.K X.mg X.base (He.ga K nm) m k (sp1 K g) ∧ ∀ x : Ins cs fs α, x.c = j → f x = g x ) (hr : Room k X.A) (hx : Passes (L2.CX X.prog X.w) X E) (ho : JE X K b L E o mo)  (hK : X.K = K := by rfl) (hno : m ∉ fs := by decide +kernel) (hl : ∀ a, (fs.zip (PyR.prl K (α := α) a)).map (·.1) = fs := by intro _; rfl)   (ht : eval (.Call (.Attribute o m apos) [] [] pos) X.env = (do
      let ov ← eval o X.env
      standAt apos.atName
      let (f, first) ← holding [ov] (getMethod ov m pl)
      callWith pos f first (backTo pos (starEach [] X.env)) (backToKw pos (keywordEach [] X.env))) := by rfl) : JE X K b L E (.Call (.Attribute o m apos) [] [] pos) (mo >>= fun x => f x) := by
  subst hK
  refine ⟨fun σ Hi H en Q hq => ?_⟩
  cases hm : mo with
  | error z =>
    obtain ⟨g, ⟨fa, fd, ps, F1, F2, F3⟩, F4⟩ := F 0 nm0 hz
    refine PE.wp (pe_meth0 (m := m) (pl := pl) pe_wp (c.cl nm0 (List.mem_of_getElem? hz)) F1 F2 hr F3 .nil hx ht) (ho.go σ Hi H en _ ?_)
    rw [hm] at hq ⊢
    cases z with
    | rs c => exact hq
    | st => exact hq.elim
  | ok x =>
    rw [hm] at hq
    cases hj : cs[x.c]? with
    | none =>
      obtain ⟨g, ⟨fa, fd, ps, F1, F2, F3⟩, F4⟩ := F 0 nm0 hz
      refine PE.wp (pe_meth0 (m := m) (pl := pl) pe_wp (c.cl nm0 (List.mem_of_getElem? hz)) F1 F2 hr F3 .nil hx ht) (ho.go σ Hi H en _ ?_)
      rw [hm]
      intro Hi0 H0 n0 v' r'
      obtain ⟨p, nm', dx, kvs, rfl, g2, g3, g4⟩ := r'
      rw [hj] at g2; cases g2
    | some nm =>
      obtain ⟨g, ⟨fa, fd, ps, F1, F2, F3⟩, F4⟩ := F x.c nm hj
      refine PE.wp (pe_meth0 (m := m) (pl := pl) pe_wp (c.cl nm (List.mem_of_getElem? hj)) F1 F2 hr F3 .nil hx ht) (ho.go σ Hi H en _ ?_)
      rw [hm]
      intro Hi0 H0 n0 v' r'
      have k0 := PX.nx n0 (show PX X.K E (f x) Hi H _ from hq)
      obtain ⟨p, nm', dx, kvs, rfl, g2, g3, g4⟩ := id r'
      have en0 := en.nx n0
      have e1 : nm' = nm := by rw [hj] at g2; exact (Option.some.inj g2).symm
      subst e1
      refine ⟨p, dx, kvs, rfl, n0.sub _ _ g3, lookup_no (by rw [g4.keys, hl]; exact hno), ?_⟩
      have kk := k0
      rw [F4 x rfl ] at kk
      exact ⟨x, .ref p, _, rfl, n0.sub, r', kk⟩
theorem je_meth1 {α0 ρ α : Type} [Py α0] [Py ρ] [PyR α] {X : Cx} {K : Fg} {b : Bs} {L : List En} {E : XK} {o e0 : Expr} {cs fs : List Str} {mo : M (Ins cs fs α)} {m0 : M α0} {f : Ins cs fs α → α0 → M ρ} {m nm0 : Str} {apos pos : Pos} {pl : Sem Bool} {k : Nat} (c : ClsF K cs fs) (hz : cs[0]? = some nm0) (F : ∀ (j : Nat) (nm : Str), cs[j]? = some nm → ∃ g : Ins cs fs α → α0 → M ρ, OkM X.prog X.w X.K X.mg X.base (He.ga K nm) m k (sp2 K g) ∧ ∀ x : Ins cs fs α, x.c = j → ∀ (a0 : α0), f x a0 = g x a0) (hr : Room k X.A) (hx : Passes (L2.CX X.prog X.w) X E) (ho : JE X K b L E o mo) (h0 : JE X K b L E e0 m0) (hK : X.K = K := by rfl) (hno : m ∉ fs := by decide +kernel) (hl : ∀ a, (fs.zip (PyR.prl K (α := α) a)).map (·.1) = fs := by intro _; rfl) (s0 : starEach [e0] X.env = (false, eval e0 X.env) :: starEach [] X.env := by rfl) (hpl : (backTo pos (starEach [] X.env)).any (·.1) = false := by rfl) (ht : eval (.Call (.Attribute o m apos) [e0] [] pos) X.env = (do
      let ov ← eval o X.env
      standAt apos.atName
      let (f, first) ← holding [ov] (getMethod ov m pl)
      callWith pos f first (backTo pos (starEach [e0] X.env)) (backToKw pos (keywordEach [] X.env))) := by rfl) : JE X K b L E (.Call (.Attribute o m apos) [e0] [] pos) (mo >>= fun x => m0 >>= fun a0 => f x a0) := by
  subst hK
  refine ⟨fun σ Hi H en Q hq => ?_⟩
  cases hm : mo with
  | error z =>
    obtain ⟨g, ⟨fa, fd, ps, F1, F2, F3⟩, F4⟩ := F 0 nm0 hz
    refine PE.wp (pe_meth (m := m) (pl := pl) pe_wp (c.cl nm0 (List.mem_of_getElem? hz)) F1 F2 hr F3 .nil hx (pa_cons pe_wp pa_nil s0) s0 hpl ht) (ho.go σ Hi H en _ ?_)
    rw [hm] at hq ⊢
    cases z with
    | rs c => exact hq
    | st => exact hq.elim
  | ok x =>
    rw [hm] at hq
    cases hj : cs[x.c]? with
    | none =>
      obtain ⟨g, ⟨fa, fd, ps, F1, F2, F3⟩, F4⟩ := F 0 nm0 hz
      refine PE.wp (pe_meth (m := m) (pl := pl) pe_wp (c.cl nm0 (List.mem_of_getElem? hz)) F1 F2 hr F3 .nil hx (pa_cons pe_wp pa_nil s0) s0 hpl ht) (ho.go σ Hi H en _ ?_)
      rw [hm]
      intro Hi0 H0 n0 v' r'
      obtain ⟨p, nm', dx, kvs, rfl, g2, g3, g4⟩ := r'
      rw [hj] at g2; cases g2
    | some nm =>
      obtain ⟨g, ⟨fa, fd, ps, F1, F2, F3⟩, F4⟩ := F x.c nm hj
      refine PE.wp (pe_meth (m := m) (pl := pl) pe_wp (c.cl nm (List.mem_of_getElem? hj)) F1 F2 hr F3 .nil hx (pa_cons pe_wp pa_nil s0) s0 hpl ht) (ho.go σ Hi H en _ ?_)
      rw [hm]
      intro Hi0 H0 n0 v' r'
      have k0 := PX.nx n0 (show PX X.K E (m0 >>= fun a0 => f x a0) Hi H _ from hq)
      obtain ⟨p, nm', dx, kvs, rfl, g2, g3, g4⟩ := id r'
      have en0 := en.nx n0
      have e1 : nm' = nm := by rw [hj] at g2; exact (Option.some.inj g2).symm
      subst e1
      refine ⟨p, dx, kvs, rfl, n0.sub _ _ g3, lookup_no (by rw [g4.keys, hl]; exact hno), ?_⟩
      refine h0.go σ Hi0 H0 en0 _ (PX.imp (PX.bind k0) fun a0 Hi1 H1 n1 k1 v0 r0 => ?_)
      have kk := k1
      rw [F4 x rfl a0] at kk
      exact ⟨x, a0, .ref p, v0, _, rfl, n1.sub, (Py.mono n1.im r'), r0, kk⟩
theorem je_meth2 {α0 α1 ρ α : Type} [Py α0] [Py α1] [Py ρ] [PyR α] {X : Cx} {K : Fg} {b : Bs} {L : List En} {E : XK} {o e0 e1 : Expr} {cs fs : List Str} {mo : M (Ins cs fs α)} {m0 : M α0} {m1 : M α1} {f : Ins cs fs α → α0 → α1 → M ρ} {m nm0 : Str} {apos pos : Pos} {pl : Sem Bool} {k : Nat} (c : ClsF K cs fs) (hz : cs[0]? = some nm0) (F : ∀ (j : Nat) (nm : Str), cs[j]? = some nm → ∃ g : Ins cs fs α → α0 → α1 → M ρ, OkM X.prog X.w X.K X.mg X.base (He.ga K nm) m k (sp3 K g) ∧ ∀ x : Ins cs fs α, x.c = j → ∀ (a0 : α0) (a1 : α1), f x a0 a1 = g x a0 a1) (hr : Room k X.A) (hx : Passes (L2.CX X.prog X.w) X E) (ho : JE X K b L E o mo) (h0 : JE X K b L E e0 m0) (h1 : JE X K b L E e1 m1) (hK : X.K = K := by rfl) (hno : m ∉ fs := by decide +kernel) (hl : ∀ a, (fs.zip (PyR.prl K (α := α) a)).map (·.1) = fs := by intro _; rfl) (s0 : starEach [e0, e1] X.env = (false, eval e0 X.env) :: starEach [e1] X.env := by rfl) (s1 : starEach [e1] X.env = (false, eval e1 X.env) :: starEach [] X.env := by rfl) (hpl : (backTo pos (starEach [e1] X.env)).any (·.1) = false := by rfl) (ht : eval (.Call (.Attribute o m apos) [e0, e1] [] pos) X.env = (do
      let ov ← eval o X.env
      standAt apos.atName
      let (f, first) ← holding [ov] (getMethod ov m pl)
      callWith pos f first (backTo pos (starEach [e0, e1] X.env)) (backToKw pos (keywordEach [] X.env))) := by rfl) : JE X K b L E (.Call (.Attribute o m apos) [e0, e1] [] pos) (mo >>= fun x => m0 >>= fun a0 => m1 >>= fun a1 => f x a0 a1) := by
  subst hK
  refine ⟨fun σ Hi H en Q hq => ?_⟩
  cases hm : mo with
  | error z =>
    obtain ⟨g, ⟨fa, fd, ps, F1, F2, F3⟩, F4⟩ := F 0 nm0 hz
    refine PE.wp (pe_meth (m := m) (pl := pl) pe_wp (c.cl nm0 (List.mem_of_getElem? hz)) F1 F2 hr F3 .nil hx (pa_cons pe_wp (pa_cons pe_wp pa_nil s1) s0) s0 hpl ht) (ho.go σ Hi H en _ ?_)
    rw [hm] at hq ⊢
    cases z with
    | rs c => exact hq
    | st => exact hq.elim
  | ok x =>
    rw [hm] at hq
    cases hj : cs[x.c]? with
    | none =>
      obtain ⟨g, ⟨fa, fd, ps, F1, F2, F3⟩, F4⟩ := F 0 nm0 hz
      refine PE.wp (pe_meth (m := m) (pl := pl) pe_wp (c.cl nm0 (List.mem_of_getElem? hz)) F1 F2 hr F3 .nil hx (pa_cons pe_wp (pa_cons pe_wp pa_nil s1) s0) s0 hpl ht) (ho.go σ Hi H en _ ?_)
      rw [hm]
      intro Hi0 H0 n0 v' r'
      obtain ⟨p, nm', dx, kvs, rfl, g2, g3, g4⟩ := r'
      rw [hj] at g2; cases g2
    | some nm =>
      obtain ⟨g, ⟨fa, fd, ps, F1, F2, F3⟩, F4⟩ := F x.c nm hj
      refine PE.wp (pe_meth (m := m) (pl := pl) pe_wp (c.cl nm (List.mem_of_getElem? hj)) F1 F2 hr F3 .nil hx (pa_cons pe_wp (pa_cons pe_wp pa_nil s1) s0) s0 hpl ht) (ho.go σ Hi H en _ ?_)
      rw [hm]
      intro Hi0 H0 n0 v' r'
      have k0 := PX.nx n0 (show PX X.K E (m0 >>= fun a0 => m1 >>= fun a1 => f x a0 a1) Hi H _ from hq)
      obtain ⟨p, nm', dx, kvs, rfl, g2, g3, g4⟩ := id r'
      have en0 := en.nx n0
      have e1 : nm' = nm := by rw [hj] at g2; exact (Option.some.inj g2).symm
      subst e1
      refine ⟨p, dx, kvs, rfl, n0.sub _ _ g3, lookup_no (by rw [g4.keys, hl]; exact hno), ?_⟩
      refine h0.go σ Hi0 H0 en0 _ (PX.imp (PX.bind k0) fun a0 Hi1 H1 n1 k1 v0 r0 => ?_)
      refine h1.go σ Hi1 H1 (en0.nx n1) _ (PX.imp (PX.bind k1) fun a1 Hi2 H2 n2 k2 v1 r1 => ?_)
      have kk := k2
      rw [F4 x rfl a0 a1] at kk
      exact ⟨x, a0, a1, .ref p, v0, v1, _, rfl, n2.sub, (Py.mono n2.im (Py.mono n1.im r')), (Py.mono n2.im r0), r1, kk⟩
theorem je_meth3 {α0 α1 α2 ρ α : Type} [Py α0] [Py α1] [Py α2] [Py ρ] [PyR α] {X : Cx} {K : Fg} {b : Bs} {L : List En} {E : XK} {o e0 e1 e2 : Expr} {cs fs : List Str} {mo : M (Ins cs fs α)} {m0 : M α0} {m1 : M α1} {m2 : M α2} {f : Ins cs fs α → α0 → α1 → α2 → M ρ} {m nm0 : Str} {apos pos : Pos} {pl : Sem Bool} {k : Nat} (c : ClsF K cs fs) (hz : cs[0]? = some nm0) (F : ∀ (j : Nat) (nm : Str), cs[j]? = some nm → ∃ g : Ins cs fs α → α0 → α1 → α2 → M ρ, OkM X.prog X.w X.K X.mg X.base (He.ga K nm) m k (sp4 K g) ∧ ∀ x : Ins cs fs α, x.c = j → ∀ (a0 : α0) (a1 : α1) (a2 : α2), f x a0 a1 a2 = g x a0 a1 a2) (hr : Room k X.A) (hx : Passes (L2.CX X.prog X.w) X E) (ho : JE X K b L E o mo) (h0 : JE X K b L E e0 m0) (h1 : JE X K b L E e1 m1) (h2 : JE X K b L E e2 m2) (hK : X.K = K := by rfl) (hno : m ∉ fs := by decide +kernel) (hl : ∀ a, (fs.zip (PyR.prl K (α := α) a)).map (·.1) = fs := by intro _; rfl) (s0 : starEach [e0, e1, e2] X.env = (false, eval e0 X.env) :: starEach [e1, e2] X.env := by rfl) (s1 : starEach [e1, e2] X.env = (false, eval e1 X.env) :: starEach [e2] X.env := by rfl) (s2 : starEach [e2] X.env = (false, eval e2 X.env) :: starEach [] X.env := by rfl) (hpl : (backTo pos (starEach [e1, e2] X.env)).any (·.1) = false := by rfl) (ht : eval (.Call (.Attribute o m apos) [e0, e1, e2] [] pos) X.env = (do
      let ov ← eval o X.env
      standAt apos.atName
      let (f, first) ← holding [ov] (getMethod ov m pl)
      callWith pos f first (backTo pos (starEach [e0, e1, e2] X.env)) (backToKw pos (keywordEach [] X.env))) := by rfl) : JE X K b L E (.Call (.Attribute o m apos) [e0, e1, e2] [] pos) (mo >>= fun x => m0 >>= fun a0 => m1 >>= fun a1 => m2 >>= fun a2 => f x a0 a1 a2) := by
  subst hK
  refine ⟨fun σ Hi H en Q hq => ?_⟩
  cases hm : mo with
  | error z =>
    obtain ⟨g, ⟨fa, fd, ps, F1, F2, F3⟩, F4⟩ := F 0 nm0 hz
    refine PE.wp (pe_meth (m := m) (pl := pl) pe_wp (c.cl nm0 (List.mem_of_getElem? hz)) F1 F2 hr F3 .nil hx (pa_cons pe_wp (pa_cons pe_wp (pa_cons pe_wp pa_nil s2) s1) s0) s0 hpl ht) (ho.go σ Hi H en _ ?_)
    rw [hm] at hq ⊢
    cases z with
    | rs c => exact hq
    | st => exact hq.elim
  | ok x =>
    rw [hm] at hq
    cases hj : cs[x.c]? with
    | none =>
      obtain ⟨g, ⟨fa, fd, ps, F1, F2, F3⟩, F4⟩ := F 0 nm0 hz
      refine PE.wp (pe_meth (m := m) (pl := pl) pe_wp (c.cl nm0 (List.mem_of_getElem? hz)) F1 F2 hr F3 .nil hx (pa_cons pe_wp (pa_cons pe_wp (pa_cons pe_wp pa_nil s2) s1) s0) s0 hpl ht) (ho.go σ Hi H en _ ?_)
      rw [hm]
      intro Hi0 H0 n0 v' r'
      obtain ⟨p, nm', dx, kvs, rfl, g2, g3, g4⟩ := r'
      rw [hj] at g2; cases g2
    | some nm =>
      obtain ⟨g, ⟨fa, fd, ps, F1, F2, F3⟩, F4⟩ := F x.c nm hj
      refine PE.wp (pe_meth (m := m) (pl := pl) pe_wp (c.cl nm (List.mem_of_getElem? hj)) F1 F2 hr F3 .nil hx (pa_cons pe_wp (pa_cons pe_wp (pa_cons pe_wp pa_nil s2) s1) s0) s0 hpl ht) (ho.go σ Hi H en _ ?_)
      rw [hm]
      intro Hi0 H0 n0 v' r'
      have k0 := PX.nx n0 (show PX X.K E (m0 >>= fun a0 => m1 >>= fun a1 => m2 >>= fun a2 => f x a0 a1 a2) Hi H _ from hq)
      obtain ⟨p, nm', dx, kvs, rfl, g2, g3, g4⟩ := id r'
      have en0 := en.nx n0
      have e1 : nm' = nm := by rw [hj] at g2; exact (Option.some.inj g2).symm
      subst e1
      refine ⟨p, dx, kvs, rfl, n0.sub _ _ g3, lookup_no (by rw [g4.keys, hl]; exact hno), ?_⟩
      refine h0.go σ Hi0 H0 en0 _ (PX.imp (PX.bind k0) fun a0 Hi1 H1 n1 k1 v0 r0 => ?_)
      refine h1.go σ Hi1 H1 (en0.nx n1) _ (PX.imp (PX.bind k1) fun a1 Hi2 H2 n2 k2 v1 r1 => ?_)
      refine h2.go σ Hi2 H2 ((en0.nx n1).nx n2) _ (PX.imp (PX.bind k2) fun a2 Hi3 H3 n3 k3 v2 r2 => ?_)
      have kk := k3
      rw [F4 x rfl a0 a1 a2] at kk
      exact ⟨x, a0, a1, a2, .ref p, v0, v1, v2, _, rfl, n3.sub, (Py.mono n3.im (Py.mono n2.im (Py.mono n1.im r'))), (Py.mono n3.im (Py.mono n2.im r0)), (Py.mono n3.im r1), r2, kk⟩
def spI1 (K : Fg) {α0 ρ : Type} [Py α0] [PyR ρ] (cs fs : List Str) (f : α0 → M ρ) : Sp := fun vs H Q E => ∃ (a0 : α0) (v0 : V) (Hi : Hp) (p dx : Addr) (nm : Str), vs = [.ref p, v0] ∧ Same Hi H ∧ Hi p = none ∧ nm ∈ cs ∧ H p = some (.ins (He.ga K nm) dx []) ∧ Py.rep K Hi a0 v0 ∧ PZ K E ⟨Hi, H, [p]⟩ (f a0) (fun r => ∀ Hi' H' o', Ok ⟨Hi, H, [p]⟩ Hi' H' → H' p = some o' → Hi' p = none → (ctO (He.ga K nm) (fs.zip (PyR.prl K r))).r Hi' o' → Q .non H')
theorem mkI1 {α0 ρ : Type} [Py α0] [PyR ρ] {P : Program} {w : World} {K : Fg} {mg : Str → Option Value} {base : Heap} {x q : Str} {fa : Addr} {N : List Str} {p0 p1 : Str} {args : Arguments} {body : List Stmt} {sc : Scope} {k : Nat} {cs fs : List Str} {f : α0 → M ρ} {fd : FuncData} (F : FunD K x q args body sc [] [] fa fd) (S : FnScope N [p0, p1] sc)
    (h : ∀ (cdv : Value) (A : Around) (outer : List Env) (s : Shared) (H : Hp) (E : XK), Room k (cxOf (L2.CX P w) P w K mg base N q sc fa cdv A outer s H E).A → ∀ (nm : Str) (p : Addr), nm ∈ cs → ∀ (a0 : α0), JN (cxOf (L2.CX P w) P w K mg base N q sc fa cdv A outer s H E) K p (He.ga K nm) ([.im (prR p), .im (rp K a0)] ++ List.replicate (N.length - 2) .no) [] E body (f a0) (fun r => fs.zip (PyR.prl K r))) : FnOk P w K mg base (L2.CX P w) (k + 1) fa fd [p0, p1] (spI1 K cs fs f) := by
  refine F.ok S (fun vs H Q E hh => ?_) (fun cdv A outer s H vs Q E hr hh => ?_)
  · obtain ⟨a0, v0, Hi, p, dx, nm, rfl, _⟩ := hh
    rfl
  · obtain ⟨a0, v0, Hi, p, dx, nm, rfl, sm, hp0, hnm, hp, r0, q⟩ := hh
    exact ⟨_, pss_wp, (h cdv A outer s H E hr nm p hnm a0).go _ ⟨Hi, H, []⟩ (EnvOk.start (ps := [prR p, rp K a0]) sm rfl (Paired.cons rfl (Paired.cons r0 Paired.nil))) ⟨rfl, dx, [], hp, .nil⟩ hp0 _ (PZ.imp q fun r z σ' Hi' H' o' g1 g2 g3 g4 => z Hi' H' o' g1 g2 g3 g4)⟩
theorem je_new1 {α0 ρ : Type} [Py α0] [PyR ρ] {X : Cx} {K : Fg} {b : Bs} {L : List En} {E : XK} {e0 : Expr} {cs fs : List Str} {m0 : M α0} {f : α0 → M ρ} {x : Str} {p pos : Pos} {k : Nat} (j : Nat) (hj : cs[j]? = some x) (F : OkN X.prog X.w X.K X.mg X.base x k (spI1 K cs fs f)) (hr : Room (k + 1) X.A) (hx : Passes (L2.CX X.prog X.w) X E) (h0 : JE X K b L E e0 m0) (hK : X.K = K := by rfl) (hg : Gl X x := by rfl) (hdb : (x == ("__debug__" : Str)) = false := by decide) (s0 : starEach [e0] X.env = (false, eval e0 X.env) :: starEach [] X.env := by rfl) (hpl : (backTo pos (starEach [] X.env)).any (·.1) = false := by rfl) : JE X K b L E (.Call (.Name x p) [e0] [] pos) (m0 >>= fun a0 => f a0 >>= fun r => (pure ⟨j, r⟩ : M (Ins cs fs ρ))) := by
  subst hK
  obtain ⟨fa, fd, ps, F1, F2, F3⟩ := F.ex
  refine ⟨fun σ Hi H en Q hq => PE.wp (pe_make F1 F2 hr hg F.g F3 .nil hx (pa_cons pe_wp pa_nil s0) hdb s0 hpl) ?_⟩
  refine h0.go σ Hi H en _ (PX.imp (PX.bind hq) fun a0 Hi1 H1 n1 k1 v0 r0 => ?_)
  intro y dx hy hdx hne
  have sm := n1.sub
  have al : Same H1 (upd (upd H1 dx (.own y)) y (.ins (He.ga X.K x) dx [])) := (same_new hdx).trans (same_new (by rw [upd_ne (Ne.symm hne)]; exact hy))
  refine ⟨a0, v0, Hi1, y, dx, x, rfl, sm.trans al, hi_none sm hy, List.mem_of_getElem? hj, upd_same, r0, ?_⟩
  have hpn : (upd (upd H1 dx (.own y)) y (.ins (He.ga X.K x) dx [])) y ≠ none := by rw [upd_same]; exact fun z => nomatch z
  have kk := k1
  cases hf : f a0 with
  | error z =>
    rw [hf] at kk
    cases z with
    | rs c => exact fun Hi' H' o => kk Hi' H' (nxI hy al hpn sm o)
    | st => exact kk.elim
  | ok r =>
    rw [hf] at kk
    intro Hi' H' o' o g1 g2 g3
    obtain ⟨dx', kvs, rfl, g4⟩ := g3
    exact ⟨rfl, kk _ H' (nxI2 hy al hpn sm o g1) (.ref y) ⟨y, x, dx', kvs, rfl, hj, upd_same, g4.mono (same_new g2)⟩⟩
def spI2 (K : Fg) {α0 α1 ρ : Type} [Py α0] [Py α1] [PyR ρ] (cs fs : List Str) (f : α0 → α1 → M ρ) : Sp := fun vs H Q E => ∃ (a0 : α0) (a1 : α1) (v0 v1 : V) (Hi : Hp) (p dx : Addr) (nm : Str), vs = [.ref p, v0, v1] ∧ Same Hi H ∧ Hi p = none ∧ nm ∈ cs ∧ H p = some (.ins (He.ga K nm) dx []) ∧ Py.rep K Hi a0 v0 ∧ Py.rep K Hi a1 v1 ∧ PZ K E ⟨Hi, H, [p]⟩ (f a0 a1) (fun r => ∀ Hi' H' o', Ok ⟨Hi, H, [p]⟩ Hi' H' → H' p = some o' → Hi' p = none → (ctO (He.ga K nm) (fs.zip (PyR.prl K r))).r Hi' o' → Q .non H')
theorem mkI2 {α0 α1 ρ : Type} [Py α0] [Py α1] [PyR ρ] {P : Program} {w : World} {K : Fg} {mg : Str → Option Value} {base : Heap} {x q : Str} {fa : Addr} {N : List Str} {p0 p1 p2 : Str} {args : Arguments} {body : List Stmt} {sc : Scope} {k : Nat} {cs fs : List Str} {f : α0 → α1 → M ρ} {fd : FuncData} (F : FunD K x q args body sc [] [] fa fd) (S : FnScope N [p0, p1, p2] sc)
    (h : ∀ (cdv : Value) (A : Around) (outer : List Env) (s : Shared) (H : Hp) (E : XK), Room k (cxOf (L2.CX P w) P w K mg base N q sc fa cdv A outer s H E).A → ∀ (nm : Str) (p : Addr), nm ∈ cs → ∀ (a0 : α0) (a1 : α1), JN (cxOf (L2.CX P w) P w K mg base N q sc fa cdv A outer s H E) K p (He.ga K nm) ([.im (prR p), .im (rp K a0), .im (rp K a1)] ++ List.replicate (N.length - 3) .no) [] E body (f a0 a1) (fun r => fs.zip (PyR.prl K r))) : FnOk P w K mg base (L2.CX P w) (k + 1) fa fd [p0, p1, p2] (spI2 K cs fs f) := by
  refine F.ok S (fun vs H Q E hh => ?_) (fun cdv A outer s H vs Q E hr hh => ?_)
  · obtain ⟨a0, a1, v0, v1, Hi, p, dx, nm, rfl, _⟩ := hh
    rfl
  · obtain ⟨a0, a1, v0, v1, Hi, p, dx, nm, rfl, sm, hp0, hnm, hp, r0, r1, q⟩ := hh
    exact ⟨_, pss_wp, (h cdv A outer s H E hr nm p hnm a0 a1).go _ ⟨Hi, H, []⟩ (EnvOk.start (ps := [prR p, rp K a0, rp K a1]) sm rfl (Paired.cons rfl (Paired.cons r0 (Paired.cons r1 Paired.nil)))) ⟨rfl, dx, [], hp, .nil⟩ hp0 _ (PZ.imp q fun r z σ' Hi' H' o' g1 g2 g3 g4 => z Hi' H' o' g1 g2 g3 g4)⟩
theorem je_new2 {α0 α1 ρ : Type} [Py α0] [Py α1] [PyR ρ] {X : Cx} {K : Fg} {b : Bs} {L : List En} {E : XK} {e0 e1 : Expr} {cs fs : List Str} {m0 : M α0} {m1 : M α1} {f : α0 → α1 → M ρ} {x : Str} {p pos : Pos} {k : Nat} (j : Nat) (hj : cs[j]? = some x) (F : OkN X.prog X.w X.K X.mg X.base x k (spI2 K cs fs f)) (hr : Room (k + 1) X.A) (hx : Passes (L2.CX X.prog X.w) X E) (h0 : JE X K b L E e0 m0) (h1 : JE X K b L E e1 m1) (hK : X.K = K := by rfl) (hg : Gl X x := by rfl) (hdb : (x == ("__debug__" : Str)) = false := by decide) (s0 : starEach [e0, e1] X.env = (false, eval e0 X.env) :: starEach [e1] X.env := by rfl) (s1 : starEach [e1] X.env = (false, eval e1 X.env) :: starEach [] X.env := by rfl) (hpl : (backTo pos (starEach [e1] X.env)).any (·.1) = false := by rfl) : JE X K b L E (.Call (.Name x p) [e0, e1] [] pos) (m0 >>= fun a0 => m1 >>= fun a1 => f a0 a1 >>= fun r => (pure ⟨j, r⟩ : M (Ins cs fs ρ))) := by
  subst hK
  obtain ⟨fa, fd, ps, F1, F2, F3⟩ := F.ex
  refine ⟨fun σ Hi H en Q hq => PE.wp (pe_make F1 F2 hr hg F.g F3 .nil hx (pa_cons pe_wp (pa_cons pe_wp pa_nil s1) s0) hdb s0 hpl) ?_⟩
  refine h0.go σ Hi H en _ (PX.imp (PX.bind hq) fun a0 Hi1 H1 n1 k1 v0 r0 => ?_)
  refine h1.go σ Hi1 H1 (en.nx n1) _ (PX.imp (PX.bind k1) fun a1 Hi2 H2 n2 k2 v1 r1 => ?_)
  intro y dx hy hdx hne
  have sm := n2.sub
  have al : Same H2 (upd (upd H2 dx (.own y)) y (.ins (He.ga X.K x) dx [])) := (same_new hdx).trans (same_new (by rw [upd_ne (Ne.symm hne)]; exact hy))
  refine ⟨a0, a1, v0, v1, Hi2, y, dx, x, rfl, sm.trans al, hi_none sm hy, List.mem_of_getElem? hj, upd_same, (Py.mono n2.im r0), r1, ?_⟩
  have hpn : (upd (upd H2 dx (.own y)) y (.ins (He.ga X.K x) dx [])) y ≠ none := by rw [upd_same]; exact fun z => nomatch z
  have kk := k2
  cases hf : f a0 a1 with
  | error z =>
    rw [hf] at kk
    cases z with
    | rs c => exact fun Hi' H' o => kk Hi' H' (nxI hy al hpn sm o)
    | st => exact kk.elim
  | ok r =>
    rw [hf] at kk
    intro Hi' H' o' o g1 g2 g3
    obtain ⟨dx', kvs, rfl, g4⟩ := g3
    exact ⟨rfl, kk _ H' (nxI2 hy al hpn sm o g1) (.ref y) ⟨y, x, dx', kvs, rfl, hj, upd_same, g4.mono (same_new g2)⟩⟩
def spI3 (K : Fg) {α0 α1 α2 ρ : Type} [Py α0] [Py α1] [Py α2] [PyR ρ] (cs fs : List Str) (f : α0 → α1 → α2 → M ρ) : Sp := fun vs H Q E => ∃ (a0 : α0) (a1 : α1) (a2 : α2) (v0 v1 v2 : V) (Hi : Hp) (p dx : Addr) (nm : Str), vs = [.ref p, v0, v1, v2] ∧ Same Hi H ∧ Hi p = none ∧ nm ∈ cs ∧ H p = some (.ins (He.ga K nm) dx []) ∧ Py.rep K Hi a0 v0 ∧ Py.rep K Hi a1 v1 ∧ Py.rep K Hi a2 v2 ∧ PZ K E ⟨Hi, H, [p]⟩ (f a0 a1 a2) (fun r => ∀ Hi' H' o', Ok ⟨Hi, H, [p]⟩ Hi' H' → H' p = some o' → Hi' p = none → (ctO (He.ga K nm) (fs.zip (PyR.prl K r))).r Hi' o' → Q .non H')
theorem mkI3 {α0 α1 α2 ρ : Type} [Py α0] [Py α1] [Py α2] [PyR ρ] {P : Program} {w : World} {K : Fg} {mg : Str → Option Value} {base : Heap} {x q : Str} {fa : Addr} {N : List Str} {p0 p1 p2 p3 : Str} {args : Arguments} {body : List Stmt} {sc : Scope} {k : Nat} {cs fs : List Str} {f : α0 → α1 → α2 → M ρ} {fd : FuncData} (F : FunD K x q args body sc [] [] fa fd) (S : FnScope N [p0, p1, p2, p3] sc)
    (h : ∀ (cdv : Value) (A : Around) (outer : List Env) (s : Shared) (H : Hp) (E : XK), Room k (cxOf (L2.CX P w) P w K mg base N q sc fa cdv A outer s H E).A → ∀ (nm : Str) (p : Addr), nm ∈ cs → ∀ (a0 : α0) (a1 : α1) (a2 : α2), JN (cxOf (L2.CX P w) P w K mg base N q sc fa cdv A outer s H E) K p (He.ga K nm) ([.im (prR p), .im (rp K a0), .im (rp K a1), .im (rp K a2)] ++ List.replicate (N.length - 4) .no) [] E body (f a0 a1 a2) (fun r => fs.zip (PyR.prl K r))) : FnOk P w K mg base (L2.CX P w) (k + 1) fa fd [p0, p1, p2, p3] (spI3 K cs fs f) := by
  refine F.ok S (fun vs H Q E hh => ?_) (fun cdv A outer s H vs Q E hr hh => ?_)
  · obtain ⟨a0, a1, a2, v0, v1, v2, Hi, p, dx, nm, rfl, _⟩ := hh
    rfl
  · obtain ⟨a0, a1, a2, v0, v1, v2, Hi, p, dx, nm, rfl, sm, hp0, hnm, hp, r0, r1, r2, q⟩ := hh
    exact ⟨_, pss_wp, (h cdv A outer s H E hr nm p hnm a0 a1 a2).go _ ⟨Hi, H, []⟩ (EnvOk.start (ps := [prR p, rp K a0, rp K a1, rp K a2]) sm rfl (Paired.cons rfl (Paired.cons r0 (Paired.cons r1 (Paired.cons r2 Paired.nil))))) ⟨rfl, dx, [], hp, .nil⟩ hp0 _ (PZ.imp q fun r z σ' Hi' H' o' g1 g2 g3 g4 => z Hi' H' o' g1 g2 g3 g4)⟩
theorem je_new3 {α0 α1 α2 ρ : Type} [Py α0] [Py α1] [Py α2] [PyR ρ] {X : Cx} {K : Fg} {b : Bs} {L : List En} {E : XK} {e0 e1 e2 : Expr} {cs fs : List Str} {m0 : M α0} {m1 : M α1} {m2 : M α2} {f : α0 → α1 → α2 → M ρ} {x : Str} {p pos : Pos} {k : Nat} (j : Nat) (hj : cs[j]? = some x) (F : OkN X.prog X.w X.K X.mg X.base x k (spI3 K cs fs f)) (hr : Room (k + 1) X.A) (hx : Passes (L2.CX X.prog X.w) X E) (h0 : JE X K b L E e0 m0) (h1 : JE X K b L E e1 m1) (h2 : JE X K b L E e2 m2) (hK : X.K = K := by rfl) (hg : Gl X x := by rfl) (hdb : (x == ("__debug__" : Str)) = false := by decide) (s0 : starEach [e0, e1, e2] X.env = (false, eval e0 X.env) :: starEach [e1, e2] X.env := by rfl) (s1 : starEach [e1, e2] X.env = (false, eval e1 X.env) :: starEach [e2] X.env := by rfl) (s2 : starEach [e2] X.env = (false, eval e2 X.env) :: starEach [] X.env := by rfl) (hpl : (backTo pos (starEach [e1, e2] X.env)).any (·.1) = false := by rfl) : JE X K b L E (.Call (.Name x p) [e0, e1, e2] [] pos) (m0 >>= fun a0 => m1 >>= fun a1 => m2 >>= fun a2 => f a0 a1 a2 >>= fun r => (pure ⟨j, r⟩ : M (Ins cs fs ρ))) := by
  subst hK
  obtain ⟨fa, fd, ps, F1, F2, F3⟩ := F.ex
  refine ⟨fun σ Hi H en Q hq => PE.wp (pe_make F1 F2 hr hg F.g F3 .nil hx (pa_cons pe_wp (pa_cons pe_wp (pa_cons pe_wp pa_nil s2) s1) s0) hdb s0 hpl) ?_⟩
  refine h0.go σ Hi H en _ (PX.imp (PX.bind hq) fun a0 Hi1 H1 n1 k1 v0 r0 => ?_)
  refine h1.go σ Hi1 H1 (en.nx n1) _ (PX.imp (PX.bind k1) fun a1 Hi2 H2 n2 k2 v1 r1 => ?_)
  refine h2.go σ Hi2 H2 ((en.nx n1).nx n2) _ (PX.imp (PX.bind k2) fun a2 Hi3 H3 n3 k3 v2 r2 => ?_)
  intro y dx hy hdx hne
  have sm := n3.sub
  have al : Same H3 (upd (upd H3 dx (.own y)) y (.ins (He.ga X.K x) dx [])) := (same_new hdx).trans (same_new (by rw [upd_ne (Ne.symm hne)]; exact hy))
  refine ⟨a0, a1, a2, v0, v1, v2, Hi3, y, dx, x, rfl, sm.trans al, hi_none sm hy, List.mem_of_getElem? hj, upd_same, (Py.mono n3.im (Py.mono n2.im r0)), (Py.mono n3.im r1), r2, ?_⟩
  have hpn : (upd (upd H3 dx (.own y)) y (.ins (He.ga X.K x) dx [])) y ≠ none := by rw [upd_same]; exact fun z => nomatch z
  have kk := k3
  cases hf : f a0 a1 a2 with
  | error z =>
    rw [hf] at kk
    cases z with
    | rs c => exact fun Hi' H' o => kk Hi' H' (nxI hy al hpn sm o)
    | st => exact kk.elim
  | ok r =>
    rw [hf] at kk
    intro Hi' H' o' o g1 g2 g3
    obtain ⟨dx', kvs, rfl, g4⟩ := g3
    exact ⟨rfl, kk _ H' (nxI2 hy al hpn sm o g1) (.ref y) ⟨y, x, dx', kvs, rfl, hj, upd_same, g4.mono (same_new g2)⟩⟩
def spI4 (K : Fg) {α0 α1 α2 α3 ρ : Type} [Py α0] [Py α1] [Py α2] [Py α3] [PyR ρ] (cs fs : List Str) (f : α0 → α1 → α2 → α3 → M ρ) : Sp := fun vs H Q E => ∃ (a0 : α0) (a1 : α1) (a2 : α2) (a3 : α3) (v0 v1 v2 v3 : V) (Hi : Hp) (p dx : Addr) (nm : Str), vs = [.ref p, v0, v1, v2, v3] ∧ Same Hi H ∧ Hi p = none ∧ nm ∈ cs ∧ H p = some (.ins (He.ga K nm) dx []) ∧ Py.rep K Hi a0 v0 ∧ Py.rep K Hi a1 v1 ∧ Py.rep K Hi a2 v2 ∧ Py.rep K Hi a3 v3 ∧ PZ K E ⟨Hi, H, [p]⟩ (f a0 a1 a2 a3) (fun r => ∀ Hi' H' o', Ok ⟨Hi, H, [p]⟩ Hi' H' → H' p = some o' → Hi' p = none → (ctO (He.ga K nm) (fs.zip (PyR.prl K r))).r Hi' o' → Q .non H')
theorem mkI4 {α0 α1 α2 α3 ρ : Type} [Py α0] [Py α1] [Py α2] [Py α3] [PyR ρ] {P : Program} {w : World} {K : Fg} {mg : Str → Option Value} {base : Heap} {x q : Str} {fa : Addr} {N : List Str} {p0 p1 p2 p3 p4 : Str} {args : Arguments} {body : List Stmt} {sc : Scope} {k : Nat} {cs fs : List Str} {f : α0 → α1 → α2 → α3 → M ρ} {fd : FuncData} (F : FunD K x q args body sc [] [] fa fd) (S : FnScope N [p0, p1, p2, p3, p4] sc)
    (h : ∀ (cdv : Value) (A : Around) (outer : List Env) (s : Shared) (H : Hp) (E : XK), Room k (cxOf (L2.CX P w) P w K mg base N q sc fa cdv A outer s H E).A → ∀ (nm : Str) (p : Addr), nm ∈ cs → ∀ (a0 : α0) (a1 : α1) (a2 : α2) (a3 : α3), JN (cxOf (L2.CX P w) P w K mg base N q sc fa cdv A outer s H E) K p (He.ga K nm) ([.im (prR p), .im (rp K a0), .im (rp K a1), .im (rp K a2), .im (rp K a3)] ++ List.replicate (N.length - 5) .no) [] E body (f a0 a1 a2 a3) (fun r => fs.zip (PyR.prl K r))) : FnOk P w K mg base (L2.CX P w) (k + 1) fa fd [p0, p1, p2, p3, p4] (spI4 K cs fs f) := by
  refine F.ok S (fun vs H Q E hh => ?_) (fun cdv A outer s H vs Q E hr hh => ?_)
  · obtain ⟨a0, a1, a2, a3, v0, v1, v2, v3, Hi, p, dx, nm, rfl, _⟩ := hh
    rfl
  · obtain ⟨a0, a1, a2, a3, v0, v1, v2, v3, Hi, p, dx, nm, rfl, sm, hp0, hnm, hp, r0, r1, r2, r3, q⟩ := hh
    exact ⟨_, pss_wp, (h cdv A outer s H E hr nm p hnm a0 a1 a2 a3).go _ ⟨Hi, H, []⟩ (EnvOk.start (ps := [prR p, rp K a0, rp K a1, rp K a2, rp K a3]) sm rfl (Paired.cons rfl (Paired.cons r0 (Paired.cons r1 (Paired.cons r2 (Paired.cons r3 Paired.nil)))))) ⟨rfl, dx, [], hp, .nil⟩ hp0 _ (PZ.imp q fun r z σ' Hi' H' o' g1 g2 g3 g4 => z Hi' H' o' g1 g2 g3 g4)⟩
theorem je_new4 {α0 α1 α2 α3 ρ : Type} [Py α0] [Py α1] [Py α2] [Py α3] [PyR ρ] {X : Cx} {K : Fg} {b : Bs} {L : List En} {E : XK} {e0 e1 e2 e3 : Expr} {cs fs : List Str} {m0 : M α0} {m1 : M α1} {m2 : M α2} {m3 : M α3} {f : α0 → α1 → α2 → α3 → M ρ} {x : Str} {p pos : Pos} {k : Nat} (j : Nat) (hj : cs[j]? = some x) (F : OkN X.prog X.w X.K X.mg X.base x k (spI4 K cs fs f)) (hr : Room (k + 1) X.A) (hx : Passes (L2.CX X.prog X.w) X E) (h0 : JE X K b L E e0 m0) (h1 : JE X K b L E e1 m1) (h2 : JE X K b L E e2 m2) (h3 : JE X K b L E e3 m3) (hK : X.K = K := by rfl) (hg : Gl X x := by rfl) (hdb : (x == ("__debug__" : Str)) = false := by decide) (s0 : starEach [e0, e1, e2, e3] X.env = (false, eval e0 X.env) :: starEach [e1, e2, e3] X.env := by rfl) (s1 : starEach [e1, e2, e3] X.env = (false, eval e1 X.env) :: starEach [e2, e3] X.env := by rfl) (s2 : starEach [e2, e3] X.env = (false, eval e2 X.env) :: starEach [e3] X.env := by rfl) (s3 : starEach [e3] X.env = (false, eval e3 X.env) :: starEach [] X.env := by rfl) (hpl : (backTo pos (starEach [e1, e2, e3] X.env)).any (·.1) = false := by rfl) : JE X K b L E (.Call (.Name x p) [e0, e1, e2, e3] [] pos) (m0 >>= fun a0 => m1 >>= fun a1 => m2 >>= fun a2 => m3 >>= fun a3 => f a0 a1 a2 a3 >>= fun r => (pure ⟨j, r⟩ : M (Ins cs fs ρ))) := by
  subst hK
  obtain ⟨fa, fd, ps, F1, F2, F3⟩ := F.ex
  refine ⟨fun σ Hi H en Q hq => PE.wp (pe_make F1 F2 hr hg F.g F3 .nil hx (pa_cons pe_wp (pa_cons pe_wp (pa_cons pe_wp (pa_cons pe_wp pa_nil s3) s2) s1) s0) hdb s0 hpl) ?_⟩
  refine h0.go σ Hi H en _ (PX.imp (PX.bind hq) fun a0 Hi1 H1 n1 k1 v0 r0 => ?_)
  refine h1.go σ Hi1 H1 (en.nx n1) _ (PX.imp (PX.bind k1) fun a1 Hi2 H2 n2 k2 v1 r1 => ?_)
  refine h2.go σ Hi2 H2 ((en.nx n1).nx n2) _ (PX.imp (PX.bind k2) fun a2 Hi3 H3 n3 k3 v2 r2 => ?_)
  refine h3.go σ Hi3 H3 (((en.nx n1).nx n2).nx n3) _ (PX.imp (PX.bind k3) fun a3 Hi4 H4 n4 k4 v3 r3 => ?_)
  intro y dx hy hdx hne
  have sm := n4.sub
  have al : Same H4 (upd (upd H4 dx (.own y)) y (.ins (He.ga X.K x) dx [])) := (same_new hdx).trans (same_new (by rw [upd_ne (Ne.symm hne)]; exact hy))
  refine ⟨a0, a1, a2, a3, v0, v1, v2, v3, Hi4, y, dx, x, rfl, sm.trans al, hi_none sm hy, List.mem_of_getElem? hj, upd_same, (Py.mono n4.im (Py.mono n3.im (Py.mono n2.im r0))), (Py.mono n4.im (Py.mono n3.im r1)), (Py.mono n4.im r2), r3, ?_⟩
  have hpn : (upd (upd H4 dx (.own y)) y (.ins (He.ga X.K x) dx [])) y ≠ none := by rw [upd_same]; exact fun z => nomatch z
  have kk := k4
  cases hf : f a0 a1 a2 a3 with
  | error z =>
    rw [hf] at kk
    cases z with
    | rs c => exact fun Hi' H' o => kk Hi' H' (nxI hy al hpn sm o)
    | st => exact kk.elim
  | ok r =>
    rw [hf] at kk
    intro Hi' H' o' o g1 g2 g3
    obtain ⟨dx', kvs, rfl, g4⟩ := g3
    exact ⟨rfl, kk _ H' (nxI2 hy al hpn sm o g1) (.ref y) ⟨y, x, dx', kvs, rfl, hj, upd_same, g4.mono (same_new g2)⟩⟩
end G

set_option Elab.async false
set_option linter.all false
set_option maxRecDepth 100000
set_option maxHeartbeats 2000000
namespace G
open PySem L2 TL
section
variable {X : Cx} {K : Fg} {mg : Str → Option Value} {b : Bs} {L L' : List En} {E : XK} {e e1 e2 : Expr} {st : Stmt} {rest body a bb : List Stmt} {α β γ S R : Type} {pos p' p2 p3 p4 : Pos} {tl : Ends → Prop} {post : α → Ends → Prop}
/-! what a name holds alone, read for a while -/
theorem nx_thaw {Hi Hi1 H Hi' H' : Hp} (s : Same Hi Hi1) (n : Nx Hi1 H Hi' H') : Nx Hi H Hi H' := ⟨Same.refl _, n.al, (s.trans n.im).trans n.sub, fun _ _ h => h⟩
theorem PX.thaw {k : α → Hp → Prop} {m : M α} {Hi Hi1 H : Hp} (s : Same Hi Hi1) (h : PX K E m Hi H fun a _ H' => k a H') : PX K E m Hi1 H fun a _ H' => k a H' := by
  cases m with
  | ok a => exact fun Hi' H' n => h Hi H' (nx_thaw s n)
  | error z =>
    cases z with
    | rs c => exact fun Hi' H' n => h Hi H' (nx_thaw s n)
    | st => exact h
theorem EnvOk.frz' [Py α] {σ : L2.St} {Hi H : Hp} (en : EnvOk b L σ Hi H) (i : Nat) {xs : List α} (hn : b.own = []) (hL : L[i]? = some (.mu (ctL K xs))) : ∃ Hi', Same Hi Hi' ∧ EnvOk b (L.set i (.im (rp K xs))) σ Hi' H := by
  obtain ⟨a, o, g1, g2, g3, g4, g5⟩ := en.mu i _ hL
  have g6 : b.H a = none := by
    rcases g4 with z | z
    · rw [hn] at z; cases z
    · exact z
  obtain ⟨vs, rfl, r⟩ := id g5
  have sm : Same Hi (upd Hi a (.lst vs)) := same_new g3
  obtain ⟨hl, _⟩ := List.getElem?_eq_some_iff.mp hL
  refine ⟨upd Hi a (.lst vs), sm, ⟨⟨fun d u h => ?_, en.ok.base.trans sm, en.ok.fr, en.ok.keep, fun d h n => ?_⟩, by rw [List.length_set]; exact en.len, fun j q h => ?_, fun j d h => ?_, fun j k d f a' h1 h2 h3 h4 => ?_⟩⟩
  · by_cases hd : d = a
    · subst hd; rw [upd_same] at h; cases h; exact g2
    · rw [upd_ne hd] at h; exact en.ok.sub d u h
  · have hd : d ≠ a := fun z => h (by rw [z]; exact g6)
    rw [upd_ne hd]; exact en.ok.cap d h n
  · by_cases hj : i = j
    · subst hj
      rw [List.getElem?_set_self hl] at h
      cases h
      exact ⟨_, g1, a, vs, rfl, .of upd_same, r.mono sm⟩
    · rw [List.getElem?_set_ne hj] at h
      obtain ⟨v, k1, k2⟩ := en.im j q h
      exact ⟨v, k1, q.m sm k2⟩
  · by_cases hj : i = j
    · subst hj
      rw [List.getElem?_set_self hl] at h
      cases h
    · rw [List.getElem?_set_ne hj] at h
      obtain ⟨a2, o2, k1, k2, k3, k4, k5⟩ := en.mu j d h
      have hne : a2 ≠ a := fun z => by
        subst z
        exact hj (en.dis i j _ d a2 hL h g1 k1)
      exact ⟨a2, o2, k1, k2, by rw [upd_ne hne]; exact k3, k4, d.m sm k5⟩
  · have back : ∀ {j : Nat} {d : Ct}, (L.set i (En.im (rp K xs)))[j]? = some (.mu d) → L[j]? = some (.mu d) := fun {j d} h => by
      by_cases hj : i = j
      · subst hj
        rw [List.getElem?_set_self hl] at h
        cases h
      · rw [List.getElem?_set_ne hj] at h; exact h
    exact en.dis j k d f a' (back h1) (back h2) h3 h4
theorem jt_thaw [Py α] {m : M Bool} (i : Nat) {xs : List α} (h : JT X K b (L.set i (.im (rp K xs))) E e m) (hn : b.own = []) (hL : L[i]? = some (.mu (ctL K xs)) := by rfl) : JT X K b L E e m :=
  ⟨fun σ Hi H en Q hq => by
    obtain ⟨Hi', s, en'⟩ := en.frz' i hn hL
    exact h.go σ Hi' H en' Q (hq.thaw (k := Q) s)⟩
theorem je_thawB [Py α] {m : M Bool} (i : Nat) {xs : List α} (h : JE X K b (L.set i (.im (rp K xs))) E e m) (hn : b.own = []) (hL : L[i]? = some (.mu (ctL K xs)) := by rfl) : JE X K b L E e m :=
  ⟨fun σ Hi H en Q hq => by
    obtain ⟨Hi', s, en'⟩ := en.frz' i hn hL
    exact h.go σ Hi' H en' Q (PX.thaw (k := fun a H' => ∀ v, v = V.bl a → Q v H') s hq)⟩
theorem je_thawI [Py α] {m : M Int} (i : Nat) {xs : List α} (h : JE X K b (L.set i (.im (rp K xs))) E e m) (hn : b.own = []) (hL : L[i]? = some (.mu (ctL K xs)) := by rfl) : JE X K b L E e m :=
  ⟨fun σ Hi H en Q hq => by
    obtain ⟨Hi', s, en'⟩ := en.frz' i hn hL
    exact h.go σ Hi' H en' Q (PX.thaw (k := fun a H' => ∀ v, v = V.int a → Q v H') s hq)⟩
theorem je_thawT [Py α] {m : M Tx} (i : Nat) {xs : List α} (h : JE X K b (L.set i (.im (rp K xs))) E e m) (hn : b.own = []) (hL : L[i]? = some (.mu (ctL K xs)) := by rfl) : JE X K b L E e m :=
  ⟨fun σ Hi H en Q hq => by
    obtain ⟨Hi', s, en'⟩ := en.frz' i hn hL
    exact h.go σ Hi' H en' Q (PX.thaw (k := fun a H' => ∀ v, v = V.str (G.S a) → Q v H') s hq)⟩
/-- a part of it, a new list -/
theorem je_slM [Py α] {lo hi : Option Expr} {ml mh : M (Option Int)} (i : Nat) {x : Str} {xs : List α} {pn : Pos} (hl : JO X K b L E lo ml) (hh : JO X K b L E hi mh) (hL : L[i]? = some (.mu (ctL K xs)) := by rfl) (hN : X.N[i]? = some x := by rfl) (hK : X.K = K := by rfl) (hv : Vis X.env.scope x := by first | exact Or.inl rfl | exact Or.inr (Or.inl rfl) | exact Or.inr (Or.inr rfl))
    (hd : (x == ("__debug__" : Str)) = false := by decide) (hcd : (x == ("__classdict__" : Str)) = false := by decide) :
    JE X K b L E (.Subscript (.Name x pn) (.Slice lo hi none p2) pos) (ml >>= fun l => mh >>= fun u => pure (cut xs l u)) :=
  ⟨fun σ Hi H en Q h => by
    subst hK
    obtain ⟨p, vs, h1, h2, r⟩ := en.muL hL
    obtain ⟨t1, d1, p1⟩ := hl.ex
    obtain ⟨t2, d2, p2⟩ := hh.ex
    refine PE.wp (pe_slice sl_list (pe_var hN hv hd hcd) d1 d2) ⟨_, h1, p1 σ Hi H en _ (h.bind.imp fun l Hi2 H2 n2 k2 => p2 σ Hi2 H2 (en.nx n2) _ (k2.bind.imp fun u Hi3 H3 n3 k3 => ?_))⟩
    have s3 := (n2.im.trans n3.im)
    refine ⟨p, vs, rfl, SqL.of ((n2.al.trans n3.al) _ _ h2), fun r' hr => k3.go (Nx.new n3.sub hr) _ ⟨r', _, rfl, .of upd_same, ?_⟩⟩
    exact ((r.mono s3).cut l u).mono (same_new (hi_none n3.sub hr))⟩
/-! a value or nothing -/
theorem je_get [Py α] {m : M (Option α)} (h : JE X K b L E e m) : JE X K b L E e (m >>= fun x => ofO x) :=
  ⟨fun σ Hi H en Q hq => h.go σ Hi H en Q ((PX.bind hq).imp fun x Hi1 H1 n1 k v rv => by
    obtain ⟨a, e, k⟩ := PX.ofO1 k
    subst e
    exact k.here n1.sub v rv)⟩
/-- what is never None -/
class NoNon (α : Type) [Py α] : Prop where
  ne : ∀ {K : Fg} {H : Hp} {a : α} {v : V}, Py.rep K H a v → v ≠ .non
instance : NoNon Int := ⟨fun h => by rw [show _ = _ from h]; exact fun z => nomatch z⟩
instance : NoNon Bool := ⟨fun h => by rw [show _ = _ from h]; exact fun z => nomatch z⟩
instance : NoNon Tx := ⟨fun h => by rw [show _ = V.str _ from h]; exact fun z => nomatch z⟩
instance [Py α] : NoNon (List α) := ⟨fun ⟨p, vs, h, _⟩ => by rw [h]; exact fun z => nomatch z⟩
instance [Py α] : NoNon (Tup α) := ⟨fun ⟨p, vs, h, _⟩ => by rw [h]; exact fun z => nomatch z⟩
instance [Py α] [Py β] : NoNon (α × β) := ⟨fun ⟨p, _, _, h, _⟩ => by rw [h]; exact fun z => nomatch z⟩
instance [Py α] [Py β] [Py γ] : NoNon (T3 α β γ) := ⟨fun ⟨p, _, _, _, h, _⟩ => by rw [h]; exact fun z => nomatch z⟩
instance [PyR α] {cs fs : List Str} : NoNon (Ins cs fs α) := ⟨fun ⟨p, _, _, _, h, _⟩ => by rw [h]; exact fun z => nomatch z⟩
theorem isn_dec [Py α] [NoNon α] {H : Hp} {x : Option α} {v : V} (h : Py.rep K H x v) : decide (v = V.non) = x.isNone := by
  cases x with
  | none => rw [show v = V.non from h]; rfl
  | some a => exact decide_eq_false (NoNon.ne (α := α) (K := K) (H := H) (a := a) h)
theorem ro_isN [Py α] [NoNon α] : RO K E (fun x y H Q => y = .non ∧ Q (.bl (decide (x = .non))) H) (fun (x : Option α) (_ : Unit) => (pure x.isNone : M Bool)) := by
  rintro x y v w Hi H Q s hx rfl h
  exact ⟨rfl, h.here s _ (congrArg V.bl (isn_dec hx))⟩
theorem ro_notN [Py α] [NoNon α] : RO K E (fun x y H Q => y = .non ∧ Q (.bl (!decide (x = .non))) H) (fun (x : Option α) (_ : Unit) => (pure (!x.isNone) : M Bool)) := by
  rintro x y v w Hi H Q s hx rfl h
  exact ⟨rfl, h.here s _ (by rw [isn_dec hx]; rfl)⟩
/-- isinstance of a value or nothing, a built-in class -/
theorem je_isiO [Py α] {m : M (Option α)} {tn T : String} {r : Bool} (ht : TyxOk K α tn) (hk : kitB tn T = some r) (hk0 : kitB "NoneType" T = some false) (hm : mg "isinstance" = none) (hm2 : mg (Str.ofString T) = none) (hv : bootBuiltins (Str.ofString T) = some (.type T)) (h : JE X K b L E e m)
    (hK : X.K = K := by rfl) (hM : X.mg = mg := by rfl) (hg : Gl X "isinstance" := by rfl) (hg2 : Gl X (Str.ofString T) := by rfl) (hn : Str.ofString T ≠ "__name__" := by decide) (hd : (Str.ofString T == ("__debug__" : Str)) = false := by decide)
    (he : starEach [e, .Name (Str.ofString T) p2] X.env = (false, eval e X.env) :: starEach [.Name (Str.ofString T) p2] X.env := by rfl) (he2 : starEach [.Name (Str.ofString T) p2] X.env = (false, eval (.Name (Str.ofString T) p2) X.env) :: starEach [] X.env := by rfl)
    (hpl : (backTo pos (starEach [.Name (Str.ofString T) p2] X.env)).any (·.1) = false := by rfl) : JE X K b L E (.Call (.Name "isinstance" p3) [e, .Name (Str.ofString T) p2] [] pos) (m >>= fun x => (pure (x.isSome && r) : M Bool)) := by
  subst hK
  refine .of ⟨_, pe_callB call_isi hg (by rw [hM]; exact hm) bt_isinstance (pa_cons pe_wp (pa_cons (pe_bltn (v := .ty T) hg2 (by rw [hM]; exact hm2) hv rfl hn hd) pa_nil he2) he) (by decide) (by decide) he hpl, fun σ Hi H en Q hq => h.go σ Hi H en _ (hq.bind.imp fun a Hi1 H1 n1 q v rv => ?_)⟩
  cases a with
  | none => exact ⟨v, .ty T, .type "NoneType", .type T, false, rfl, .ty T, by rw [show v = V.non from rv]; exact .base .non, kit_ty hk0, q.here n1.sub _ rfl⟩
  | some a => exact ⟨v, .ty T, .type tn, .type T, r, rfl, .ty T, ht H1 a v (Py.mono (α := α) n1.sub rv), kit_ty hk, q.here n1.sub _ rfl⟩
/-! an if that ends in part -/
def pPt (K : Fg) (b : Bs) {S R : Type} [Py R] (Lf : S → List En) (t : Tl S R) (D : Ends) : Prop := match t with
  | .ct s => ∀ σ' Hi' H', EnvOk b (Lf s) σ' Hi' H' → D.nx σ' H'
  | .bk _ => False
  | .rt r => pRt K b r D
theorem js_nilQ [Py R] {Lf : S → List En} {s : S} (w : Wk L (Lf s)) : JS X K b L E [] tl (pure (.ct s) : M (Tl S R)) (pPt K b Lf) :=
  ⟨fun σ Hi H en D _ hz => PSs.wp pss_nil (show D.nx σ H from (show ∀ σ' Hi' H', EnvOk b (Lf s) σ' Hi' H' → D.nx σ' H' from hz) σ Hi H (en.wk w))⟩
theorem js_retQ [Py R] {m : M R} {Lf : S → List En} (h : JE X K b L E e m) : JS X K b L E (.Return (some e) pos :: rest) tl (m >>= fun r => pure (.rt r) : M (Tl S R)) (pPt K b Lf) :=
  ⟨fun σ Hi H en D _ hz => PSs.wp (pss_cons (ps_ret pe_wp) pss_wp) (h.go σ Hi H en D.rt (PZ.ret en (hz.bindz.imp fun r q => q)))⟩
def partT {β : Type} (mr : S → M β) (wr : R → β) : Tl S R → M β
  | .ct s => mr s
  | .rt r => pure (wr r)
  | .bk _ => stuck
theorem js_ifT [Py R] {c : Expr} {mc : M Bool} {ma mb : M (Tl S R)} {Lf : S → List En} {mr : S → M α} {wr : R → α} (hw : ∀ r D, post (wr r) D → pRt K b r D) (h : JT X K b L E c mc) (h1 : JS X K b L E a tlAny ma (pPt K b Lf)) (h2 : JS X K b L E bb tlAny mb (pPt K b Lf)) (h3 : ∀ s, JS X K b (Lf s) E rest tl (mr s) post) :
    JS X K b L E (.If c a bb pos :: rest) tl ((mc >>= fun t => if t = true then ma else mb) >>= partT mr wr) post :=
  ⟨fun σ Hi H en D ht hz => by
    have fin : ∀ {m : M (Tl S R)} {σ' Hi' H'}, EnvOk b L σ' Hi' H' → ∀ ss, JS X K b L E ss tlAny m (pPt K b Lf) → PZ K E b (m >>= partT mr wr) (fun a => post a D) → wpB X ss { D with nx := fun σ H => wpB X rest D σ H } σ' H' := fun {m σ' Hi' H'} en' ss hj hq =>
      hj.go σ' Hi' H' en' _ trivial (hq.bindz.imp fun z k => by
        cases z with
        | ct s => exact fun σ2 Hi2 H2 en2 => (h3 s).go σ2 Hi2 H2 en2 D ht k
        | bk s => exact k.elim
        | rt r => exact hw r D k)
    rw [bind_assoc] at hz
    exact PSs.wp (pss_cons (ps_if pt_wp pss_wp pss_wp) pss_wp) (h.go σ Hi H en _ ((PZ.bind en hz).imp fun t Hi' H' x q => by
      cases t with
      | true => exact fin (en.nx x) _ h1 q
      | false => exact fin (en.nx x) _ h2 q))⟩
/-! try .. except X as e, the body one call -/
structure JC (X : Cx) (K : Fg) (b : Bs) (L : List En) (e : Expr) {α : Type} [Py α] (m : M α) : Prop where
  go : ∀ (W : WX), Takes X W → ∀ σ Hi H, EnvOk b L σ Hi H → ∀ Q : VK, PV K (WE W σ) m Hi H Q → wpE X e σ H Q
/-- the raising way: known classes, by the handler -/
def tryM {α S : Type} (cs : List Str) (sOk : α → S) (h : Str → M S) (m : M α) : M S := match m with
  | .ok a => pure (sOk a)
  | .error (.rs c) => if c ∈ cs then nr (h c) else stuck
  | .error .st => stuck
abbrev E0 : XK := fun _ _ _ => False
theorem pz_nr {m : M S} {post : S → Prop} (h : PZ K E b (nr m) post) : PZ K E0 b m post := by
  cases m with
  | ok a => exact h
  | error z => exact h.elim
theorem j1_try_core [Py α] {body1 : Stmt} {m : M α} {sOk : α → S} {hh : Str → M S} {cs : List Str} {Lf : S → List En} (ie : Nat) {n C : Str} {b₀ : Stmt} {suite : List Stmt} {Lb : α → List En}
    (hb : ∀ pn xe (W : WX), Takes (X.tr pn xe) W → ∀ σ Hi H, EnvOk b L σ Hi H → ∀ D : Ends, PX K (WE W σ) m Hi H (fun a Hi' H' => ∀ σ', EnvOk b (Lb a) σ' Hi' H' → D.nx σ' H') → wpB (X.tr pn xe) [body1] D σ H) (hw : ∀ a, Wk (Lb a) (Lf (sOk a)))
    (hx : ∀ c ∈ cs, (He.Fa.exm c C true).ok K = true)
    (hs : ∀ c ∈ cs, ∀ (a : Addr) (oe : Obj) (pn : List (Addr × Obj)), Zc (.ref (He.ga K c)) none oe → (∃ vs, oe.data = .fields vs) → JS (X.suite a ((a, oe) :: pn)) K b (L.set ie (.im (prR a))) E0 (b₀ :: suite) tlAny (hh c) (pNx b Lf))
    (gC : X.mg C = some (.ref (He.ga K C))) (hN : X.N.Nodup) (hE : ∀ s, (Lf s).set ie .no = Lf s := by intro _; rfl) (hi : X.N[ie]? = some n := by rfl) (hln : X.env.kindOf n = some .local := by rfl) (hK : X.K = K := by rfl) (hst : X.stack = X.env :: X.outer := by rfl) (hf : X.env.frame = some X.env.locals := by rfl) (hg : Gl X C := by rfl) (hd : (C == ("__debug__" : Str)) = false := by decide) :
    J1 X K b L E (.Try [body1] [.ExceptHandler (some (.Name C p2)) (some n) (b₀ :: suite) p3] [] [] pos) (tryM cs sOk hh m) Lf := by
  subst hK
  refine ⟨fun σ Hi H en D hz => PS.wp (ps_try_as (i := ie) (tb := fun W D σ H => ∀ pn xe, Takes (X.tr pn xe) W → wpB (X.tr pn xe) [body1] D σ H)
    (ts := fun a cls d D σ H => ∀ oe pn, Zc cls d oe → (∃ vs, oe.data = .fields vs) → wpB (X.suite a ((a, oe) :: pn)) (b₀ :: suite) D σ H) hst hf hN hi hln ⟨hg, hd, .inl gC⟩ takes0
    (fun W pn xe tk _ => ⟨fun pins s σ H D I h => h pn xe tk pins s I⟩) (fun a oe cls d pn hz hv => ⟨fun pins s σ H D I h => h oe pn hz hv pins s I⟩)) ?_⟩
  intro pn xe tk
  refine hb pn xe _ tk σ Hi H en D ?_
  cases m with
  | ok a => exact fun Hi' H' n σ' en' => hz σ' Hi' H' (en'.wk (hw a))
  | error z =>
    cases z with
    | st => exact hz.elim
    | rs c =>
      have hz : PZ X.K E b (if c ∈ cs then nr (hh c) else stuck) _ := hz
      by_cases hc : c ∈ cs
      · rw [if_pos hc] at hz
        intro Hi' H' nx
        refine ⟨true, He.exm_ok (hx c hc), fun _ a ha => ?_, fun q => nomatch q⟩
        intro oe pn' z1 z2
        have en1 := (en.nx nx).set (i := ie) (p := prR a) (v := .ref a) rfl
        refine (hs c hc a oe pn' z1 z2).go _ Hi' H' en1 _ trivial ((pz_nr hz).imp fun s k σ2 Hi2 H2 en2 => ?_)
        have := en2.unset (i := ie)
        rw [hE s] at this
        exact k _ Hi2 H2 this
      · rw [if_neg hc] at hz; exact hz.elim
theorem j1_tryE [Py α] {m : M α} {sOk : α → S} {hh : Str → M S} {cs : List Str} {Lf : S → List En} (ie : Nat) {n C : Str} {b₀ : Stmt} {suite : List Stmt}
    (hb : ∀ pn xe, JC (X.tr pn xe) K b L e m) (hw : ∀ a, Wk L (Lf (sOk a))) (hx : ∀ c ∈ cs, (He.Fa.exm c C true).ok K = true)
    (hs : ∀ c ∈ cs, ∀ (a : Addr) (oe : Obj) (pn : List (Addr × Obj)), Zc (.ref (He.ga K c)) none oe → (∃ vs, oe.data = .fields vs) → JS (X.suite a ((a, oe) :: pn)) K b (L.set ie (.im (prR a))) E0 (b₀ :: suite) tlAny (hh c) (pNx b Lf))
    (gC : X.mg C = some (.ref (He.ga K C))) (hN : X.N.Nodup) (hE : ∀ s, (Lf s).set ie .no = Lf s := by intro _; rfl) (hi : X.N[ie]? = some n := by rfl) (hln : X.env.kindOf n = some .local := by rfl) (hK : X.K = K := by rfl) (hst : X.stack = X.env :: X.outer := by rfl) (hf : X.env.frame = some X.env.locals := by rfl) (hg : Gl X C := by rfl) (hd : (C == ("__debug__" : Str)) = false := by decide)
    (hsw : ∀ pn xe, swapsWith e none p'.line (X.tr pn xe).env = pure false := by intro _ _; rfl) :
    J1 X K b L E (.Try [.Expr e p'] [.ExceptHandler (some (.Name C p2)) (some n) (b₀ :: suite) p3] [] [] pos) (tryM cs sOk hh m) Lf :=
  j1_try_core (Lb := fun _ => L) ie (fun pn xe W tk σ Hi H en D hq => PSs.wp (pss_one (ps_expr pe_wp (hsw pn xe))) ((hb pn xe).go W tk σ Hi H en _ (hq.imp fun a Hi' H' x q v rv => q σ (en.nx x)))) hw hx hs gC hN hE hi hln hK hst hf hg hd
theorem j1_tryS [Py α] {m : M α} {sOk : α → S} {hh : Str → M S} {cs : List Str} {Lf : S → List En} (i ie : Nat) {x n C : Str} {b₀ : Stmt} {suite : List Stmt}
    (hb : ∀ pn xe, JC (X.tr pn xe) K b L e m) (hw : ∀ a, Wk (L.set i (.im (rp K a))) (Lf (sOk a))) (hx : ∀ c ∈ cs, (He.Fa.exm c C true).ok K = true)
    (hs : ∀ c ∈ cs, ∀ (a : Addr) (oe : Obj) (pn : List (Addr × Obj)), Zc (.ref (He.ga K c)) none oe → (∃ vs, oe.data = .fields vs) → JS (X.suite a ((a, oe) :: pn)) K b (L.set ie (.im (prR a))) E0 (b₀ :: suite) tlAny (hh c) (pNx b Lf))
    (gC : X.mg C = some (.ref (He.ga K C))) (hN : X.N.Nodup) (hE : ∀ s, (Lf s).set ie .no = Lf s := by intro _; rfl) (hi : X.N[ie]? = some n := by rfl) (hln : X.env.kindOf n = some .local := by rfl) (hK : X.K = K := by rfl) (hst : X.stack = X.env :: X.outer := by rfl) (hf : X.env.frame = some X.env.locals := by rfl) (hg : Gl X C := by rfl) (hd : (C == ("__debug__" : Str)) = false := by decide)
    (hi2 : X.N[i]? = some x := by rfl) (hlx : Loc X.env.scope x := by first | exact Or.inl rfl | exact Or.inr rfl) (hsw : ∀ pn xe, swapsWith e (some (.Name x p4)) p'.line (X.tr pn xe).env = pure false := by intro _ _; rfl) (hfx : X.fn x = true ∨ X.env.scope.names.lookup x = some .local := by first | exact .inl rfl | exact .inr rfl) :
    J1 X K b L E (.Try [.Assign [.Name x p4] e p'] [.ExceptHandler (some (.Name C p2)) (some n) (b₀ :: suite) p3] [] [] pos) (tryM cs sOk hh m) Lf :=
  j1_try_core (Lb := fun a => L.set i (.im (rp K a))) ie (fun pn xe W tk σ Hi H en D hq => PSs.wp (pss_one (ps_set (X := X.tr pn xe) hN hi2 hlx pe_wp (hsw pn xe) hfx)) ((hb pn xe).go W tk σ Hi H en _ (hq.imp fun a Hi' H' y q v rv => q _ ((en.nx y).set (p := rp K a) rv)))) hw hx hs gC hN hE hi hln hK hst hf hg hd
theorem jc_call1 {α0 ρ : Type} [Py α0] [Py ρ] {e0 : Expr} {m0 : M α0} {f : α0 → M ρ} {x : Str} {p : Pos} {k : Nat} (F : OkF X.prog X.w X.K X.mg X.base x k (sp1 K f)) (hr : Room k X.A) (h0 : ∀ E, JE X K b L E e0 m0) (hg : Gl X x := by rfl) (hdb : (x == ("__debug__" : Str)) = false := by decide) (s0 : starEach [e0] X.env = (false, eval e0 X.env) :: starEach [] X.env := by rfl) (hpl : (backTo pos (starEach [] X.env)).any (·.1) = false := by rfl) : JC X K b L (.Call (.Name x p) [e0] [] pos) (m0 >>= fun a0 => f a0) := by
  obtain ⟨fa, fd, ps, F1, F2, F3, F4⟩ := F.ex
  refine ⟨fun W tk σ Hi H en Q h => PE.wp (pe_callS F3 hr hg F1 F2 F4 (fun σ => passAt tk σ) (pa_cons pe_wp pa_nil s0) hdb s0 hpl) ?_⟩
  refine (h0 (WE W σ)).go σ Hi H en _ (PX.imp (PX.bind h) fun a0 Hi1 H1 n1 k1 v0 r0 => ?_)
  exact ⟨a0, v0, _, rfl, n1.sub, r0, k1⟩
/-- isinstance of the error that the suite holds -/
theorem excB_ok {c : Str} (h : excB K c = true) : ExcC K (He.ga K c) := by
  unfold excB at h
  simp only [Bool.and_eq_true, decide_eq_true_eq] at h
  obtain ⟨h1, h2, h3, h4, h5, h6, h7, h8⟩ := h
  exact ⟨h1, h2, h3, h4, h5, h6, h7, h8⟩
theorem je_isE {a : Addr} {oe : Obj} {pn : List (Addr × Obj)} {c y n : Str} {r : Bool} (ie : Nat) (C : excB K c = true) (hz : Zc (.ref (He.ga K c)) none oe) (hv : ∃ vs, oe.data = .fields vs) (hk : kitOwnB K c y r = true) (hm : mg "isinstance" = none) (hm2 : mg y = some (.ref (He.ga K y)))
    (hL : L[ie]? = some (.im (prR a)) := by rfl) (hN : X.N[ie]? = some n := by rfl) (hvs : Vis X.env.scope n := by first | exact Or.inl rfl | exact Or.inr (Or.inl rfl) | exact Or.inr (Or.inr rfl)) (hdn : (n == ("__debug__" : Str)) = false := by decide) (hcd : (n == ("__classdict__" : Str)) = false := by decide)
    (hK : X.K = K := by rfl) (hM : X.mg = mg := by rfl) (hg : Gl X "isinstance" := by rfl) (hg2 : Gl X y := by rfl) (hd : (y == ("__debug__" : Str)) = false := by decide)
    (he : starEach [.Name n p4, .Name y p2] X.env = (false, eval (.Name n p4) X.env) :: starEach [.Name y p2] X.env := by rfl) (he2 : starEach [.Name y p2] X.env = (false, eval (.Name y p2) X.env) :: starEach [] X.env := by rfl)
    (hpl : (backTo pos (starEach [.Name y p2] X.env)).any (·.1) = false := by rfl) : JE (X.suite a ((a, oe) :: pn)) K b L E0 (.Call (.Name "isinstance" p3) [.Name n p4, .Name y p2] [] pos) (pure r : M Bool) := by
  subst hK
  refine .of ⟨_, pe_callB (call_isE (excB_ok C) hz hv) hg (by rw [hM]; exact hm) bt_isinstance (pa_cons (pe_var hN hvs hdn hcd) (pa_cons (pe_glob (v := .ref (He.ga X.K y)) hg2 (by rw [hM]; exact hm2) rfl hd) pa_nil he2) he) (by decide) (by decide) he hpl, fun σ Hi H en Q hq => ?_⟩
  obtain ⟨v, e0, e1⟩ := en.im ie _ hL
  have e1 : v = V.ref a := e1
  subst e1
  exact ⟨_, e0, .ref (He.ga X.K y), .ref (He.ga X.K y), r, rfl, fun u r => r, of_decide_eq_true hk, hq.here en.sub _ rfl⟩
theorem je_isET {a : Addr} {oe : Obj} {pn : List (Addr × Obj)} {c n : Str} {T : String} {r : Bool} (ie : Nat) (C : excB K c = true) (hz : Zc (.ref (He.ga K c)) none oe) (hv : ∃ vs, oe.data = .fields vs) (hk : kitTyB K c T r = true) (hm : mg "isinstance" = none) (hm2 : mg (Str.ofString T) = none) (hb : bootBuiltins (Str.ofString T) = some (.type T))
    (hL : L[ie]? = some (.im (prR a)) := by rfl) (hN : X.N[ie]? = some n := by rfl) (hvs : Vis X.env.scope n := by first | exact Or.inl rfl | exact Or.inr (Or.inl rfl) | exact Or.inr (Or.inr rfl)) (hdn : (n == ("__debug__" : Str)) = false := by decide) (hcd : (n == ("__classdict__" : Str)) = false := by decide)
    (hK : X.K = K := by rfl) (hM : X.mg = mg := by rfl) (hg : Gl X "isinstance" := by rfl) (hg2 : Gl X (Str.ofString T) := by rfl) (hn : Str.ofString T ≠ "__name__" := by decide) (hd : (Str.ofString T == ("__debug__" : Str)) = false := by decide)
    (he : starEach [.Name n p4, .Name (Str.ofString T) p2] X.env = (false, eval (.Name n p4) X.env) :: starEach [.Name (Str.ofString T) p2] X.env := by rfl) (he2 : starEach [.Name (Str.ofString T) p2] X.env = (false, eval (.Name (Str.ofString T) p2) X.env) :: starEach [] X.env := by rfl)
    (hpl : (backTo pos (starEach [.Name (Str.ofString T) p2] X.env)).any (·.1) = false := by rfl) : JE (X.suite a ((a, oe) :: pn)) K b L E0 (.Call (.Name "isinstance" p3) [.Name n p4, .Name (Str.ofString T) p2] [] pos) (pure r : M Bool) := by
  subst hK
  refine .of ⟨_, pe_callB (call_isE (excB_ok C) hz hv) hg (by rw [hM]; exact hm) bt_isinstance (pa_cons (pe_var hN hvs hdn hcd) (pa_cons (pe_bltn (v := .ty T) hg2 (by rw [hM]; exact hm2) hb rfl hn hd) pa_nil he2) he) (by decide) (by decide) he hpl, fun σ Hi H en Q hq => ?_⟩
  obtain ⟨v, e0, e1⟩ := en.im ie _ hL
  have e1 : v = V.ref a := e1
  subst e1
  exact ⟨_, e0, .ty T, .type T, r, rfl, fun u r => r, of_decide_eq_true hk, hq.here en.sub _ rfl⟩
/-! texts -/
def findT (x y : Tx) : Int := Txt.find (G.S x) (G.S y)
theorem rm_find : RM1 K E (fun x xs H Q => ∃ a b, x = .str a ∧ xs = [.str b] ∧ Q (.int (Txt.find a b)) H) (fun x y : Tx => (pure (findT x y) : M Int)) := by
  rintro x y v w Hi H Q s rfl rfl h
  exact ⟨G.S x, G.S y, rfl, rfl, h.here s _ rfl⟩
def stripT (x y : Tx) : M Tx := chk (x.length ≤ SZ) >>= fun _ => pure (Txt.stripChars (G.S x) (G.S y)).cps.toList
theorem rm_strip : RM1 K E (fun x xs H Q => ∃ a b, x = .str a ∧ xs = [.str b] ∧ a.length ≤ sizeLine ∧ Q (.str (Txt.stripChars a b)) H) stripT := by
  rintro x y v w Hi H Q s rfl rfl h
  obtain ⟨c, h⟩ := PX.chk h
  exact ⟨G.S x, G.S y, rfl, rfl, by rw [S_length]; exact c, h.here s _ rfl⟩
/-- the greatest of a list of numbers -/
def maxL : List Int → M Int
  | [] => stuck
  | x :: xs => pure (xs.foldl (fun a c => if a < c then c else a) x)
theorem foldmax : ∀ (xs : List Int) (x : Int), (xs.foldl (fun a c => if a < c then c else a) x) ∈ x :: xs ∧ ∀ y ∈ x :: xs, y ≤ xs.foldl (fun a c => if a < c then c else a) x
  | [], x => ⟨List.mem_cons_self .., fun y hy => (List.mem_cons.mp hy).elim (fun h => h ▸ Int.le_refl _) fun h => nomatch h⟩
  | z :: xs, x => by
    obtain ⟨h1, h2⟩ := foldmax xs (if x < z then z else x)
    refine ⟨?_, fun y hy => ?_⟩
    · rcases List.mem_cons.mp h1 with h | h
      · show List.foldl _ (if x < z then z else x) xs ∈ _
        rw [h]
        by_cases hz : x < z
        · rw [if_pos hz]; exact List.mem_cons_of_mem _ (List.mem_cons_self ..)
        · rw [if_neg hz]; exact List.mem_cons_self ..
      · exact List.mem_cons_of_mem _ (List.mem_cons_of_mem _ h)
    · have hm := h2 _ (List.mem_cons_self ..)
      show y ≤ List.foldl _ (if x < z then z else x) xs
      rcases List.mem_cons.mp hy with h | h
      · subst h
        by_cases hz : y < z
        · rw [if_pos hz] at hm ⊢; omega
        · rw [if_neg hz] at hm ⊢; exact hm
      · rcases List.mem_cons.mp h with h | h
        · subst h
          by_cases hz : x < y
          · rw [if_pos hz] at hm ⊢; exact hm
          · rw [if_neg hz] at hm ⊢; omega
        · exact h2 y (List.mem_cons_of_mem _ h)
theorem ra_max (hK : X.K = K := by rfl) : RA1 K E (rMax X.K) maxL := by
  subst hK
  rintro xs v Hi H Q s ⟨p, vs, rfl, h1, h2⟩ h
  cases xs with
  | nil => exact h.elim
  | cons x xs =>
    have e := h2.ints
    subst e
    refine ⟨p, x :: xs, rfl, Same.seq s h1, by rw [List.length_cons]; omega, fun m hm hle => ?_⟩
    obtain ⟨g1, g2⟩ := foldmax xs x
    have : m = xs.foldl (fun a c => if a < c then c else a) x := Int.le_antisymm (g2 m hm) (hle _ g1)
    subst this
    exact h.here s _ rfl
end
end G

set_option Elab.async false
set_option linter.all false
set_option maxRecDepth 100000
set_option maxHeartbeats 2000000
namespace G
open PySem L2 TL
theorem bt_ValueError : bootBuiltins "ValueError" = some (.type "ValueError") := by decide +kernel
section
variable {X : Cx} {K : Fg} {mg : Str → Option Value} {b : Bs} {L L' : List En} {E : XK} {e e1 e2 : Expr} {st : Stmt} {rest body a bb : List Stmt} {α β γ S R : Type} {pos p' p2 p3 p4 : Pos} {tl : Ends → Prop} {post : α → Ends → Prop}
theorem js_if1Q [Py R] {c : Expr} {mc : M Bool} {ma : M R} {mr : M (Tl S R)} {Lf : S → List En} (h : JT X K b L E c mc) (h1 : JS X K b L E a tlAny ma (pRt K b)) (h2 : JS X K b L E rest tl mr (pPt K b Lf)) :
    JS X K b L E (.If c a [] pos :: rest) tl (mc >>= fun t => if t = true then (ma >>= fun r => pure (.rt r)) else mr) (pPt K b Lf) :=
  ⟨fun σ Hi H en D ht hz => PSs.wp (pss_cons (ps_if pt_wp pss_wp pss_nil) pss_wp) (h.go σ Hi H en _ ((PZ.bind en hz).imp fun t Hi' H' x q => by
    cases t with
    | true =>
      rw [if_pos rfl] at q ⊢
      exact h1.go σ Hi' H' (en.nx x) _ trivial (q.bindz.imp fun a h => h)
    | false =>
      rw [if_neg Bool.false_ne_true] at q ⊢
      exact h2.go σ Hi' H' (en.nx x) D ht q))⟩
end
end G

set_option Elab.async false
set_option linter.all false
set_option maxRecDepth 100000
set_option maxHeartbeats 2000000
namespace G
open PySem L2 TL
/-! dicts with text keys: a list of pairs, each key once -/
def Dic (α : Type) := List (Tx × α)
def dgetM {α : Type} : List (Tx × α) → Tx → Option α
  | [], _ => none
  | q :: r, k => if q.1 = k then some q.2 else dgetM r k
def dputM {α : Type} (d : List (Tx × α)) (k : Tx) (a : α) : List (Tx × α) := if (dgetM d k).isSome = true then d.map (fun q => if q.1 = k then (q.1, a) else q) else d ++ [(k, a)]
def kT (k : Tx) : Key := Sum.inr (G.S k)
def KvOk (K : Fg) (H : Hp) {α : Type} [Py α] (d : List (Tx × α)) (kvs : List (Key × V)) : Prop := Paired (fun (q : Tx × α) (kv : Key × V) => kv.1 = kT q.1 ∧ Py.rep K H q.2 kv.2) d kvs
theorem KvOk.mono {K : Fg} {H H' : Hp} {α : Type} [Py α] {d : List (Tx × α)} {kvs : List (Key × V)} (e : Same H H') (h : KvOk K H d kvs) : KvOk K H' d kvs := Paired.mapP h fun _ _ r => ⟨r.1, Py.mono e r.2⟩
theorem kT_inj {a b : Tx} (h : kT a = kT b) : a = b := S_inj (Sum.inr.inj h)
theorem KvOk.get {K : Fg} {H : Hp} {α : Type} [Py α] : ∀ {d : List (Tx × α)} {kvs : List (Key × V)} (_ : KvOk K H d kvs) (k : Tx), (dgetM d k = none ∧ valV kvs (kT k) = none) ∨ ∃ a v, dgetM d k = some a ∧ valV kvs (kT k) = some v ∧ Py.rep K H a v
  | _, _, .nil, k => .inl ⟨rfl, rfl⟩
  | q :: d, kv :: kvs, .cons r t, k => by
    by_cases h : q.1 = k
    · have e : kv.1 = kT k := by rw [r.1, h]
      exact .inr ⟨q.2, kv.2, by unfold dgetM; rw [if_pos h], valV_pos e, r.2⟩
    · have e : ¬ kv.1 = kT k := fun z => h (kT_inj (r.1.symm.trans z))
      rw [valV_neg e]
      unfold dgetM
      rw [if_neg h]
      exact KvOk.get t k
theorem KvOk.some {K : Fg} {H : Hp} {α : Type} [Py α] {d : List (Tx × α)} {kvs : List (Key × V)} (h : KvOk K H d kvs) (k : Tx) : (valV kvs (kT k)).isSome = (dgetM d k).isSome := by
  rcases h.get k with ⟨h1, h2⟩ | ⟨a, v, h1, h2, _⟩ <;> rw [h1, h2] <;> rfl
theorem KvOk.app {K : Fg} {H : Hp} {α : Type} [Py α] {d : List (Tx × α)} {kvs : List (Key × V)} {k : Tx} {a : α} {v : V} (r : Py.rep K H a v) (h : KvOk K H d kvs) : KvOk K H (d ++ [(k, a)]) (kvs ++ [(kT k, v)]) := by
  induction h with
  | nil => exact .cons ⟨rfl, r⟩ .nil
  | cons r' _ ih => exact .cons r' ih
theorem KvOk.map {K : Fg} {H : Hp} {α : Type} [Py α] {d : List (Tx × α)} {kvs : List (Key × V)} {k : Tx} {a : α} {v : V} (r : Py.rep K H a v) (h : KvOk K H d kvs) : KvOk K H (d.map fun q => if q.1 = k then (q.1, a) else q) (kvs.map fun kv => if kv.1 = kT k then (kv.1, v) else kv) := by
  induction h with
  | nil => exact .nil
  | @cons q kv d kvs r' _ ih =>
    refine .cons ?_ ih
    show (if kv.1 = kT k then (kv.1, v) else kv).1 = kT (if q.1 = k then (q.1, a) else q).1 ∧ Py.rep K H (if q.1 = k then (q.1, a) else q).2 (if kv.1 = kT k then (kv.1, v) else kv).2
    by_cases e : q.1 = k
    · rw [if_pos e, if_pos (show kv.1 = kT k by rw [r'.1, e])]
      exact ⟨r'.1, r⟩
    · rw [if_neg e, if_neg (fun z => e (kT_inj (r'.1.symm.trans z)))]
      exact r'
theorem KvOk.put {K : Fg} {H : Hp} {α : Type} [Py α] {d : List (Tx × α)} {kvs : List (Key × V)} {k : Tx} {a : α} {v : V} (r : Py.rep K H a v) (h : KvOk K H d kvs) : KvOk K H (dputM d k a) (putK kvs (kT k) v) := by
  unfold dputM putK
  rw [valV_any, h.some k]
  by_cases e : (dgetM d k).isSome = true
  · rw [if_pos e, if_pos e]; exact h.map r
  · rw [if_neg e, if_neg e]; exact h.app r
theorem KvOk.length {K : Fg} {H : Hp} {α : Type} [Py α] {d : List (Tx × α)} {kvs : List (Key × V)} (h : KvOk K H d kvs) : d.length = kvs.length := Paired.length h
instance instPyDic {α : Type} [Py α] : Py (Dic α) := ⟨fun K H d v => ∃ p kvs, v = .ref p ∧ H p = some (.dK kvs) ∧ KvOk K H (α := α) d kvs, fun e ⟨p, kvs, h1, h2, h3⟩ => ⟨p, kvs, h1, e _ _ h2, h3.mono e⟩⟩
instance {α : Type} [Py α] : NoNon (Dic α) := ⟨fun ⟨p, kvs, h, _⟩ => by rw [h]; exact fun z => nomatch z⟩
def ctD (K : Fg) {α : Type} [Py α] (d : List (Tx × α)) : Ct := ⟨fun H o => ∃ kvs, o = .dK kvs ∧ KvOk K H d kvs, fun e ⟨kvs, h1, h2⟩ => ⟨kvs, h1, h2.mono e⟩⟩
/-- a dict, held or told -/
structure JD (X : Cx) (K : Fg) (b : Bs) (L : List En) (E : XK) (e : Expr) {α : Type} [Py α] (m : M (Dic α)) : Prop where
  go : ∀ σ Hi H, EnvOk b L σ Hi H → ∀ Q : VK, PX K E m Hi H (fun d Hi' H' => ∀ p kvs, H' p = some (.dK kvs) → KvOk K Hi' (α := α) d kvs → Q (.ref p) H') → wpE X e σ H Q
section
variable {X : Cx} {K : Fg} {mg : Str → Option Value} {b : Bs} {L L' : List En} {E : XK} {e e1 e2 : Expr} {st : Stmt} {rest body a bb : List Stmt} {α β γ S R : Type} {pos p' p2 p3 p4 : Pos} {tl : Ends → Prop} {post : α → Ends → Prop}
theorem EnvOk.at_mu {σ : L2.St} {Hi H : Hp} {i : Nat} {c : Ct} (en : EnvOk b L σ Hi H) (hL : L[i]? = some (.mu c)) : ∃ a o, σ[i]? = some (some (V.ref a)) ∧ H a = some o ∧ c.r Hi o := by
  obtain ⟨a, o, h1, h2, _, _, h3⟩ := en.mu i c hL
  exact ⟨a, o, h1, h2, h3⟩
theorem jd_val [Py α] {m : M (Dic α)} (h : JE X K b L E e m) : JD X K b L E e m :=
  ⟨fun σ Hi H en Q hq => h.go σ Hi H en Q (hq.imp fun d Hi' H' n k v ⟨p, kvs, e1, e2, e3⟩ => by subst e1; exact k p kvs (n.sub _ _ e2) e3)⟩
theorem jd_held [Py α] (i : Nat) {x : Str} {d : List (Tx × α)} {pn : Pos} (hL : L[i]? = some (.mu (ctD K d)) := by rfl) (hN : X.N[i]? = some x := by rfl) (hv : Vis X.env.scope x := by first | exact Or.inl rfl | exact Or.inr (Or.inl rfl) | exact Or.inr (Or.inr rfl))
    (hd : (x == ("__debug__" : Str)) = false := by decide) (hcd : (x == ("__classdict__" : Str)) = false := by decide) : JD X K b L E (.Name x pn) (pure d : M (Dic α)) :=
  ⟨fun σ Hi H en Q hq => by
    obtain ⟨p, o, h1, h2, kvs, rfl, h3⟩ := en.at_mu hL
    exact PE.wp (pe_var hN hv hd hcd) ⟨_, h1, PX.here (α := Dic α) (a := d) hq en.sub p kvs h2 h3⟩⟩
theorem je_dget [Py α] {m : M (Dic α)} {mk : M Tx} (hu : X.A.units + 64 < cLine) (h : JD X K b L E e m) (hk : JE X K b L E e1 mk) (hs : NoSl e1 := by exact fun _ _ => rfl) : JE X K b L E (.Subscript e e1 pos) (m >>= fun d => mk >>= fun k => ofO (dgetM (α := α) d k)) :=
  ⟨fun σ Hi H en Q hq => PE.wp (pe_dget (by omega) pe_wp pe_wp hs) (h.go σ Hi H en _ ((PX.bind hq).imp fun d Hi1 H1 n1 k1 p kvs g1 g2 => hk.go σ Hi1 H1 (en.nx n1) _ ((PX.bind k1).imp fun k Hi2 H2 n2 k2 v rv => by
    obtain ⟨x, e, k2⟩ := PX.ofO1 k2
    have rv : v = V.str (G.S k) := rv
    subst rv
    rcases (g2.mono n2.im).get k with ⟨z, _⟩ | ⟨x', u, z1, z2, z3⟩
    · rw [z] at e; cases e
    · rw [z1] at e; cases e
      refine ⟨p, u, rfl, ?_, k2.here n2.sub u z3⟩
      rw [← z2]
      exact DGet.k (k := kT k) (n2.al _ _ g1))))⟩
theorem je_din [Py α] {m : M (Dic α)} {mk : M Tx} (hu : X.A.units + 64 < cLine) (hk : JE X K b L E e1 mk) (h : JD X K b L E e m) (hb : behindInMarks .In e = false := by rfl) : JE X K b L E (.Compare e1 [.In] [e] pos) (mk >>= fun k => m >>= fun d => (pure (dgetM (α := α) d k).isSome : M Bool)) :=
  ⟨fun σ Hi H en Q hq => PE.wp (pe_cmp (pc_din (by omega) pe_wp pe_wp) hb) (hk.go σ Hi H en _ ((PX.bind hq).imp fun k Hi1 H1 n1 k1 v rv => h.go σ Hi1 H1 (en.nx n1) _ ((PX.bind k1).imp fun d Hi2 H2 n2 k2 p kvs g1 g2 => by
    have rv : v = V.str (G.S k) := rv
    subst rv
    exact ⟨p, _, rfl, DGet.k (k := kT k) g1, k2.here n2.sub _ (by rw [g2.some k]; rfl)⟩)))⟩
theorem je_dnotin [Py α] {m : M (Dic α)} {mk : M Tx} (hu : X.A.units + 64 < cLine) (hk : JE X K b L E e1 mk) (h : JD X K b L E e m) (hb : behindInMarks .NotIn e = false := by rfl) : JE X K b L E (.Compare e1 [.NotIn] [e] pos) (mk >>= fun k => m >>= fun d => (pure (!(dgetM (α := α) d k).isSome) : M Bool)) :=
  ⟨fun σ Hi H en Q hq => PE.wp (pe_cmp (pc_dnotin (by omega) pe_wp pe_wp) hb) (hk.go σ Hi H en _ ((PX.bind hq).imp fun k Hi1 H1 n1 k1 v rv => h.go σ Hi1 H1 (en.nx n1) _ ((PX.bind k1).imp fun d Hi2 H2 n2 k2 p kvs g1 g2 => by
    have rv : v = V.str (G.S k) := rv
    subst rv
    exact ⟨p, _, rfl, DGet.k (k := kT k) g1, k2.here n2.sub _ (by rw [g2.some k]; rfl)⟩)))⟩
/-- d.get(k, x) -/
theorem je_dget2 [Py α] {m : M (Dic α)} {mk : M Tx} {md : M α} {apos : Pos} (hu : X.A.units + 64 < cLine) (h : JD X K b L E e m) (hk : JE X K b L E e1 mk) (hd : JE X K b L E e2 md) (hm : M2 X e "get" apos e1 e2 pos := by exact ⟨rfl, rfl, rfl, rfl⟩) :
    JE X K b L E (.Call (.Attribute e "get" apos) [e1, e2] [] pos) (m >>= fun d => mk >>= fun k => md >>= fun x => (pure ((dgetM (α := α) d k).getD x) : M α)) :=
  ⟨fun σ Hi H en Q hq => PE.wp (pe_dget2 (by omega) pe_wp pe_wp pe_wp hm) (h.go σ Hi H en _ ((PX.bind hq).imp fun d Hi1 H1 n1 k1 p kvs g1 g2 => ⟨p, rfl, .inl ⟨kvs, .of g1⟩, hk.go σ Hi1 H1 (en.nx n1) _ ((PX.bind k1).imp fun k Hi2 H2 n2 k2 v rv => hd.go σ Hi2 H2 ((en.nx n1).nx n2) _ ((PX.bind k2).imp fun x Hi3 H3 n3 k3 u ru => by
    have rv : v = V.str (G.S k) := rv
    subst rv
    refine ⟨valV kvs (kT k), DGet.k (k := kT k) (n3.al _ _ (n2.al _ _ g1)), ?_⟩
    rcases (g2.mono (n2.im.trans n3.im)).get k with ⟨z, z0⟩ | ⟨x', u', z1, z2, z3⟩
    · rw [z] at k3; rw [z0]; exact k3.here n3.sub u ru
    · rw [z1] at k3; rw [z2]; exact k3.here n3.sub u' z3))⟩))⟩
/-- d[k] = v, d held -/
theorem j1_dput [Py α] {m : M α} {mk : M Tx} (i : Nat) {x : Str} {d : List (Tx × α)} {pn : Pos} (hu : X.A.units + 64 < cLine) (h : JE X K b L E e m) (hk : JE X K b L E e1 mk) (hL : L[i]? = some (.mu (ctD K d)) := by rfl) (hN : X.N[i]? = some x := by rfl) (hv : Vis X.env.scope x := by first | exact Or.inl rfl | exact Or.inr (Or.inl rfl) | exact Or.inr (Or.inr rfl))
    (hd : (x == ("__debug__" : Str)) = false := by decide) (hcd : (x == ("__classdict__" : Str)) = false := by decide) (hs : swapsWith e (some (.Subscript (.Name x pn) e1 p')) pos.line X.env = pure false := by rfl) :
    J1 X K b L E (.Assign [.Subscript (.Name x pn) e1 p'] e pos) (m >>= fun a => mk >>= fun k => chk (d.length < SZ) >>= fun _ => (pure (dputM d k a) : M (List (Tx × α)))) (fun d' => L.set i (.mu (ctD K d'))) :=
  ⟨fun σ Hi H en D hz => by
    obtain ⟨p, o, h1, h2, kvs, rfl, h3⟩ := en.at_mu hL
    refine PS.wp (ps_dput (by omega) (pe_var hN hv hd hcd) pe_wp pe_wp hs) (h.go σ Hi H en _ ((PZ.bind en hz).imp fun a Hi1 H1 y1 q1 v rv => ⟨_, h1, hk.go σ Hi1 H1 (en.nx y1) _ ((PZ.bind (en.nx y1) q1).imp fun k Hi2 H2 y2 q2 w rw' => ?_)⟩))
    obtain ⟨c, q2⟩ := PZ.chk q2
    have rw' : w = V.str (G.S k) := rw'
    subst rw'
    have en' := (en.nx y1).nx y2
    refine ⟨p, _, rfl, DPut.k (k := kT k) (y2.al _ _ (y1.al _ _ h2)) (by rw [← h3.length]; exact c), ?_⟩
    exact (show ∀ σ' Hi' H', EnvOk b (L.set i (.mu (ctD K (dputM d k a)))) σ' Hi' H' → D.nx σ' H' from q2) _ Hi2 _ (en'.mut (c' := ctD K (dputM d k a)) hL h1 ⟨_, rfl, (h3.mono (y1.im.trans y2.im)).put (Py.mono y2.im rv)⟩)⟩
theorem jf_dnew [Py α] : JF X K b L E (.Dict [] [] pos) (ctD K (α := α)) (pure [] : M (List (Tx × α))) :=
  ⟨fun σ Hi H en Q hq => PE.wp pe_dnewK fun p hp => (PX.go (a := ([] : List (Tx × α))) hq (Nx.temp en.sub hp)) p _ upd_same hp (hi_none en.sub hp) ⟨[], rfl, .nil⟩⟩
/-- told for good -/
theorem js_frzD [Py α] {β : Type} {m : M β} {post : β → Ends → Prop} (i : Nat) {d : List (Tx × α)} (h : JS X K b (L.set i (.im (rp K (α := Dic α) d))) E rest tl m post) (hn : b.own = []) (hL : L[i]? = some (.mu (ctD K d)) := by rfl) : JS X K b L E rest tl m post :=
  ⟨fun σ Hi H en D ht hz => by
    obtain ⟨Hi', en'⟩ := en.frz (p := rp K (α := Dic α) d) hL hn (fun a Hi' o sm hr ha => by
      obtain ⟨kvs, rfl, r⟩ := hr
      exact ⟨a, kvs, rfl, ha, r.mono sm⟩)
    exact h.go σ Hi' H en' D ht hz⟩
/-! a value of one type or another -/
instance instPySum [Py α] [Py β] : Py (α ⊕ β) := ⟨fun K H x v => match x with
    | .inl a => Py.rep K H a v
    | .inr c => Py.rep K H c v, fun {K H H' a v} e h => by
  cases a with
  | inl a => exact Py.mono (α := α) e h
  | inr a => exact Py.mono (α := β) e h⟩
def getL {α β : Type} : α ⊕ β → M α
  | .inl a => pure a
  | .inr _ => stuck
def getR {α β : Type} : α ⊕ β → M β
  | .inl _ => stuck
  | .inr a => pure a
theorem je_inl [Py α] [Py β] {m : M α} (h : JE X K b L E e m) : JE X K b L E e (m >>= fun x => (pure (.inl x) : M (α ⊕ β))) :=
  ⟨fun σ Hi H en Q hq => h.go σ Hi H en Q ((PX.bind hq).imp fun x Hi1 H1 n1 k v rv => PX.here (a := (Sum.inl x : α ⊕ β)) k n1.sub v rv)⟩
theorem je_inr [Py α] [Py β] {m : M β} (h : JE X K b L E e m) : JE X K b L E e (m >>= fun x => (pure (.inr x) : M (α ⊕ β))) :=
  ⟨fun σ Hi H en Q hq => h.go σ Hi H en Q ((PX.bind hq).imp fun x Hi1 H1 n1 k v rv => PX.here (a := (Sum.inr x : α ⊕ β)) k n1.sub v rv)⟩
theorem je_getL [Py α] [Py β] {m : M (α ⊕ β)} (h : JE X K b L E e m) : JE X K b L E e (m >>= fun x => getL x) :=
  ⟨fun σ Hi H en Q hq => h.go σ Hi H en Q ((PX.bind hq).imp fun x Hi1 H1 n1 k v rv => by
    cases x with
    | inl a => exact PX.here (a := a) k n1.sub v rv
    | inr a => exact k.elim)⟩
theorem je_getR [Py α] [Py β] {m : M (α ⊕ β)} (h : JE X K b L E e m) : JE X K b L E e (m >>= fun x => getR x) :=
  ⟨fun σ Hi H en Q hq => h.go σ Hi H en Q ((PX.bind hq).imp fun x Hi1 H1 n1 k v rv => by
    cases x with
    | inl a => exact k.elim
    | inr a => exact PX.here (a := a) k n1.sub v rv)⟩
end
end G

set_option Elab.async false
set_option linter.all false
set_option maxRecDepth 100000
set_option maxHeartbeats 2000000
namespace G
open PySem L2 TL
theorem flat_strs : ∀ ys : List Str, (ys.map V.str).all flatV = true
  | [] => rfl
  | _ :: r => by rw [List.map_cons, List.all_cons, flat_strs r]; rfl
theorem beq_S (a c : Tx) : ((G.S a : Str) == G.S c) = decide (a = c) := by
  by_cases h : a = c
  · subst h; rw [decide_eq_true rfl]; exact beq_self_eq_true _
  · rw [decide_eq_false h]; exact beq_eq_false_iff_ne.mpr fun z => h (S_inj z)
theorem inV_S (x : Tx) : ∀ ys : List Tx, inV (.str (G.S x)) ((ys.map G.S).map V.str) = decide (x ∈ ys)
  | [] => by simp [inV]
  | y :: r => by
    have ih := inV_S x r
    have e : inV (.str (G.S x)) (((y :: r).map G.S).map V.str) = ((G.S y == G.S x) || inV (.str (G.S x)) ((r.map G.S).map V.str)) := rfl
    rw [e, ih, beq_S]
    by_cases h : y = x
    · subst h; simp
    · have h' : ¬ x = y := fun z => h z.symm
      rw [decide_eq_false h]
      by_cases h2 : x ∈ r <;> simp [h', h2]
section
variable {X : Cx} {K : Fg} {mg : Str → Option Value} {b : Bs} {L L' : List En} {E : XK} {e e1 e2 : Expr} {st : Stmt} {rest body a bb : List Stmt} {α β γ S R : Type} {pos p' p2 p3 p4 : Pos}
/-! a text in a list, a tuple of texts -/
theorem ro_inL : RO K E (rIn K false) (fun (x : Tx) (ys : List Tx) => (pure (decide (x ∈ ys)) : M Bool)) := by
  rintro x ys v w Hi H Q s rfl ⟨p, vs, rfl, h1, h2⟩ h
  have e := h2.tx
  subst e
  exact ⟨p, _, rfl, .inl (Same.seq s h1), rfl, flat_strs _, h.here s _ (congrArg V.bl (inV_S x ys))⟩
theorem ro_notInL : RO K E (rIn K true) (fun (x : Tx) (ys : List Tx) => (pure (!decide (x ∈ ys)) : M Bool)) := by
  rintro x ys v w Hi H Q s rfl ⟨p, vs, rfl, h1, h2⟩ h
  have e := h2.tx
  subst e
  exact ⟨p, _, rfl, .inl (Same.seq s h1), rfl, flat_strs _, h.here s _ (congrArg (fun z => V.bl (!z)) (inV_S x ys))⟩
theorem ro_inU : RO K E (rIn K false) (fun (x : Tx) (ys : Tup Tx) => (pure (decide (x ∈ (show List Tx from ys))) : M Bool)) := by
  rintro x ys v w Hi H Q s rfl ⟨p, vs, rfl, h1, h2⟩ h
  have e := h2.tx
  subst e
  exact ⟨p, _, rfl, .inr (sqt_mono s h1), rfl, flat_strs _, h.here s _ (congrArg V.bl (inV_S x ys))⟩
theorem ro_notInU : RO K E (rIn K true) (fun (x : Tx) (ys : Tup Tx) => (pure (!decide (x ∈ (show List Tx from ys))) : M Bool)) := by
  rintro x ys v w Hi H Q s rfl ⟨p, vs, rfl, h1, h2⟩ h
  have e := h2.tx
  subst e
  exact ⟨p, _, rfl, .inr (sqt_mono s h1), rfl, flat_strs _, h.here s _ (congrArg (fun z => V.bl (!z)) (inV_S x ys))⟩
/-- a tuple of texts of the module: the fact is He.tupB -/
theorem je_gtup {x : Str} {ys : List String} (hm : mg x = some (.ref (He.ga K x))) (hb : He.tupB K x (ys.map fun s => He.Dv.str (Str.ofString s)) = true) (hM : X.mg = mg := by rfl) (hg : Gl X x := by rfl) (hd : (x == ("__debug__" : Str)) = false := by decide) :
    JE X K b L E (.Name x pos) (pure (ys.map tx) : M (Tup Tx)) :=
  .of ⟨tC (.ref (He.ga K x)), pe_glob hg (by rw [hM]; exact hm) rfl hd, fun σ Hi H en Q h => PX.here (α := Tup Tx) (a := ys.map tx) h en.sub _ ⟨He.ga K x, _, rfl, He.tupB_ok hb Hi, by
    rw [List.map_map]
    have key : ∀ ys : List String, Rl K Hi (ys.map tx) (ys.map (He.Dv.v K ∘ fun s => He.Dv.str (Str.ofString s))) := by
      intro ys
      induction ys with
      | nil => exact .nil
      | cons y r ih => exact .cons (show V.str (Str.ofString y) = V.str (G.S (tx y)) by rw [S_tx]) ih
    exact key ys⟩⟩
/-! texts -/
def lstripT (x y : Tx) : M Tx := chk (x.length ≤ SZ) >>= fun _ => pure (Txt.lstripChars (G.S x) (G.S y)).cps.toList
theorem rm_lstrip : RM1 K E (fun x xs H Q => ∃ a b, x = .str a ∧ xs = [.str b] ∧ a.length ≤ sizeLine ∧ Q (.str (Txt.lstripChars a b)) H) lstripT := by
  rintro x y v w Hi H Q s rfl rfl h
  obtain ⟨c, h⟩ := PX.chk h
  exact ⟨G.S x, G.S y, rfl, rfl, by rw [S_length]; exact c, h.here s _ rfl⟩
theorem rm_startswith : RM1 K E (fun x xs H Q => ∃ a b, x = .str a ∧ xs = [.str b] ∧ Q (.bl (Txt.startswith a b)) H) (fun x y : Tx => (pure (Txt.startswith (G.S x) (G.S y)) : M Bool)) := by
  rintro x y v w Hi H Q s rfl rfl h
  exact ⟨G.S x, G.S y, rfl, rfl, h.here s _ rfl⟩
def splitT (x y : Tx) : M (List Tx) := chk (y ≠ [] ∧ x.length + 2 ≤ SZ) >>= fun _ => pure ((Txt.split (G.S x) (G.S y)).map fun z => z.cps.toList)
theorem rl_strs {H : Hp} : ∀ zs : List Str, Rl K H (zs.map fun z => (z.cps.toList : Tx)) (zs.map V.str)
  | [] => .nil
  | z :: r => .cons (show V.str z = V.str (G.S z.cps.toList) from rfl) (rl_strs r)
theorem rm_split : RM1 K E (fun x xs H Q => ∃ a b, x = .str a ∧ xs = [.str b] ∧ (b.length == 0) = false ∧ a.length + 2 ≤ sizeLine ∧ rNewStrs (Txt.split a b) H Q) splitT := by
  rintro x y v w Hi H Q s rfl rfl h
  obtain ⟨⟨c1, c2⟩, h⟩ := PX.chk h
  refine ⟨G.S x, G.S y, rfl, rfl, ?_, by rw [S_length]; exact c2, fun p hp => h.go (Nx.new s hp) _ ⟨p, _, rfl, .of upd_same, rl_strs _⟩⟩
  rw [S_length]
  exact beq_eq_false_iff_ne.mpr fun z => c1 (List.length_eq_zero_iff.mp z)
/-! numbers and texts -/
def intT (x : Tx) : M Int := chk (x.length ≤ 640) >>= fun _ => ofO (PySem.intText? (G.S x))
theorem ra_intT : RA1 K E (fun xs H Q => ∃ a n, xs = [.str a] ∧ PySem.intText? a = some n ∧ a.length ≤ 640 ∧ Q (.int n) H) intT := by
  rintro x v Hi H Q s rfl h
  obtain ⟨c, h⟩ := PX.chk h
  obtain ⟨n, e, h⟩ := PX.ofO1 h
  exact ⟨G.S x, n, rfl, e, by rw [S_length]; exact c, h.here s _ rfl⟩
def intB (k : Bool) : M Int := pure (if k then 1 else 0)
theorem ra_intB : RA1 K E (fun xs H Q => (∃ i, xs = [.int i] ∧ Q (.int i) H) ∨ ∃ k, xs = [.bl k] ∧ Q (.int (if k then 1 else 0)) H) intB := by
  rintro x v Hi H Q s rfl h
  exact .inr ⟨x, rfl, h.here s _ rfl⟩
def strI (i : Int) : M Tx := chk (i.natAbs.log2 < 1920) >>= fun _ => pure (tx (toString i))
theorem ra_strI : RA1 K E (fun xs H Q => ∃ i, xs = [.int i] ∧ i.natAbs.log2 < 1920 ∧ Q (.str (toString i)) H) strI := by
  rintro x v Hi H Q s rfl h
  obtain ⟨c, h⟩ := PX.chk h
  exact ⟨x, rfl, c, h.here s _ (by rw [← S_tx]; rfl)⟩
end
end G

set_option Elab.async false
set_option linter.all false
set_option maxRecDepth 100000
set_option maxHeartbeats 2000000
namespace G
open PySem L2 TL
section
variable {X : Cx} {K : Fg} {mg : Str → Option Value} {b : Bs} {L L' : List En} {E : XK} {e e1 e2 : Expr} {st : Stmt} {rest body a bb : List Stmt} {α β γ S R : Type} {pos p' p2 p3 p4 : Pos}
/-- the same object, seen as of another type -/
theorem je_co [Py α] [Py β] {m : M α} {g : α → β} (hg : ∀ (H : Hp) (x : α) (v : V), Py.rep K H x v → Py.rep K H (g x) v) (h : JE X K b L E e m) : JE X K b L E e (m >>= fun x => pure (g x)) :=
  ⟨fun σ Hi H en Q hq => h.go σ Hi H en Q ((PX.bind hq).imp fun x Hi1 H1 n1 k v rv => PX.here (a := g x) k n1.sub v (hg Hi1 x v rv))⟩
theorem co_fst {α' : Type} [Py α] [Py α'] [Py β] {g : α → α'} (hg : ∀ (H : Hp) (x : α) (v : V), Py.rep K H x v → Py.rep K H (g x) v) : ∀ (H : Hp) (x : α × β) (v : V), Py.rep K H x v → Py.rep K H ((g x.1, x.2) : α' × β) v :=
  fun H x v ⟨p, v1, v2, h1, h2, h3, h4⟩ => ⟨p, v1, v2, h1, h2, hg H _ _ h3, h4⟩
theorem co_snd {α' : Type} [Py α] [Py α'] [Py β] {g : α → α'} (hg : ∀ (H : Hp) (x : α) (v : V), Py.rep K H x v → Py.rep K H (g x) v) : ∀ (H : Hp) (x : β × α) (v : V), Py.rep K H x v → Py.rep K H ((x.1, g x.2) : β × α') v :=
  fun H x v ⟨p, v1, v2, h1, h2, h3, h4⟩ => ⟨p, v1, v2, h1, h2, h3, hg H _ _ h4⟩
theorem co_inl [Py α] [Py β] : ∀ (H : Hp) (x : α) (v : V), Py.rep K H x v → Py.rep K H (Sum.inl x : α ⊕ β) v := fun _ _ _ h => h
theorem co_inr [Py α] [Py β] : ∀ (H : Hp) (x : β) (v : V), Py.rep K H x v → Py.rep K H (Sum.inr x : α ⊕ β) v := fun _ _ _ h => h
theorem co_comp [Py α] [Py β] [Py γ] {f : α → β} {g : β → γ} (hf : ∀ (H : Hp) (x : α) (v : V), Py.rep K H x v → Py.rep K H (f x) v) (hg : ∀ (H : Hp) (x : β) (v : V), Py.rep K H x v → Py.rep K H (g x) v) : ∀ (H : Hp) (x : α) (v : V), Py.rep K H x v → Py.rep K H (g (f x)) v := fun H x v h => hg H _ v (hf H x v h)
/-! a list of one of three types: an empty one is of each -/
def lf1 : List α ⊕ (List β ⊕ List γ) → M (List α)
  | .inl l => pure l
  | .inr (.inl []) => pure []
  | .inr (.inr []) => pure []
  | _ => stuck
def lf2 : List α ⊕ (List β ⊕ List γ) → M (List β)
  | .inr (.inl l) => pure l
  | .inl [] => pure []
  | .inr (.inr []) => pure []
  | _ => stuck
def lf3 : List α ⊕ (List β ⊕ List γ) → M (List γ)
  | .inr (.inr l) => pure l
  | .inl [] => pure []
  | .inr (.inl []) => pure []
  | _ => stuck
theorem rep_nil [Py α] [Py β] {H : Hp} {v : V} (h : Py.rep K H ([] : List α) v) : Py.rep K H ([] : List β) v := by
  obtain ⟨p, vs, h1, h2, h3⟩ := h
  cases h3
  exact ⟨p, [], h1, h2, .nil⟩
theorem je_lf1 [Py α] [Py β] [Py γ] {m : M (List α ⊕ (List β ⊕ List γ))} (h : JE X K b L E e m) : JE X K b L E e (m >>= fun x => lf1 x) :=
  ⟨fun σ Hi H en Q hq => h.go σ Hi H en Q ((PX.bind hq).imp fun x Hi1 H1 n1 k v rv => by
    match x, k, rv with
    | .inl l, k, rv => exact PX.here (a := l) k n1.sub v rv
    | .inr (.inl []), k, rv => exact PX.here (a := ([] : List α)) k n1.sub v (rep_nil (α := β) rv)
    | .inr (.inr []), k, rv => exact PX.here (a := ([] : List α)) k n1.sub v (rep_nil (α := γ) rv)
    | .inr (.inl (_ :: _)), k, _ => exact k.elim
    | .inr (.inr (_ :: _)), k, _ => exact k.elim)⟩
theorem je_lf2 [Py α] [Py β] [Py γ] {m : M (List α ⊕ (List β ⊕ List γ))} (h : JE X K b L E e m) : JE X K b L E e (m >>= fun x => lf2 x) :=
  ⟨fun σ Hi H en Q hq => h.go σ Hi H en Q ((PX.bind hq).imp fun x Hi1 H1 n1 k v rv => by
    match x, k, rv with
    | .inr (.inl l), k, rv => exact PX.here (a := l) k n1.sub v rv
    | .inl [], k, rv => exact PX.here (a := ([] : List β)) k n1.sub v (rep_nil (α := α) rv)
    | .inr (.inr []), k, rv => exact PX.here (a := ([] : List β)) k n1.sub v (rep_nil (α := γ) rv)
    | .inl (_ :: _), k, _ => exact k.elim
    | .inr (.inr (_ :: _)), k, _ => exact k.elim)⟩
theorem je_lf3 [Py α] [Py β] [Py γ] {m : M (List α ⊕ (List β ⊕ List γ))} (h : JE X K b L E e m) : JE X K b L E e (m >>= fun x => lf3 x) :=
  ⟨fun σ Hi H en Q hq => h.go σ Hi H en Q ((PX.bind hq).imp fun x Hi1 H1 n1 k v rv => by
    match x, k, rv with
    | .inr (.inr l), k, rv => exact PX.here (a := l) k n1.sub v rv
    | .inl [], k, rv => exact PX.here (a := ([] : List γ)) k n1.sub v (rep_nil (α := α) rv)
    | .inr (.inl []), k, rv => exact PX.here (a := ([] : List γ)) k n1.sub v (rep_nil (α := β) rv)
    | .inl (_ :: _), k, _ => exact k.elim
    | .inr (.inl (_ :: _)), k, _ => exact k.elim)⟩
/-! a slice of a tuple -/
theorem je_slU [Py α] {lo hi : Option Expr} {ml mh : M (Option Int)} {m : M (Tup α)} (h : JE X K b L E e m) (hl : JO X K b L E lo ml) (hh : JO X K b L E hi mh) (hK : X.K = K := by rfl) :
    JE X K b L E (.Subscript e (.Slice lo hi none p2) pos) (m >>= fun xs => ml >>= fun l => mh >>= fun u => (pure (cut (α := α) xs l u) : M (Tup α))) := by
  subst hK
  obtain ⟨t, d, p⟩ := h.ex
  obtain ⟨t1, d1, p1⟩ := hl.ex
  obtain ⟨t2, d2, p2⟩ := hh.ex
  refine .of ⟨tSl (rSlA X.K) t t1 t2, pe_slice sl_tupA d d1 d2, fun σ Hi H en Q h => p σ Hi H en _ (h.bind.imp fun xs Hi1 H1 n1 k v rv => p1 σ Hi1 H1 (en.nx n1) _ (k.bind.imp fun l Hi2 H2 n2 k2 => p2 σ Hi2 H2 ((en.nx n1).nx n2) _ (k2.bind.imp fun u Hi3 H3 n3 k3 => ?_)))⟩
  obtain ⟨q, vs, rfl, g1, g2⟩ := rv
  have s3 := (n2.im.trans n3.im)
  have hlen : vs.length = List.length (α := α) xs := (Rl.length g2).symm
  refine ⟨q, vs, rfl, sqt_mono (s3.trans n3.sub) g1, fun hw => ?_, fun _ r hr => PX.go (α := Tup α) k3 (Nx.new n3.sub hr) _ ⟨r, _, rfl, .of upd_same, ?_⟩⟩
  · have gen : ∀ ys : List α, vs.length = ys.length → cut ys l u = ys := fun ys hy => by
      unfold cut
      rw [← hy, hw.1, hw.2, List.drop_zero, Nat.sub_zero, hy, List.take_length]
    have e : cut (α := α) xs l u = xs := gen xs hlen
    have k3' : PX X.K E (pure (cut (α := α) xs l u) : M (Tup α)) Hi3 H3 fun a Hi' H' => ∀ v, Py.rep X.K Hi' a v → Q v H' := k3
    rw [e] at k3'
    exact PX.here (α := Tup α) k3' n3.sub _ ⟨q, vs, rfl, sqt_mono s3 g1, g2.mono s3⟩
  · exact ((g2.mono s3).cut l u).mono (same_new (hi_none n3.sub hr))
/-! a held list += a fresh one -/
theorem set_same {σ : L2.St} {i : Nat} {x : Option V} (h : σ[i]? = some x) : σ.set i x = σ := by
  obtain ⟨hl, e⟩ := List.getElem?_eq_some_iff.mp h
  rw [← e]
  exact List.set_getElem_self hl
theorem j1_ext [Py α] {m : M (List α)} (i : Nat) {x : Str} {xs : List α} (h : JF X K b L E e (ctL K) m) (hN : X.N.Nodup) (hL : L[i]? = some (.mu (ctL K xs)) := by rfl) (hi : X.N[i]? = some x := by rfl) (hx : Loc X.env.scope x := by first | exact Or.inl rfl | exact Or.inr rfl) (hf : X.fn x = true ∨ X.env.scope.names.lookup x = some .local := by first | exact .inl rfl | exact .inr rfl) :
    J1 X K b L E (.AugAssign (.Name x p') .Add e pos) (m >>= fun ys => catM xs ys) (fun zs => L.set i (.mu (ctL K zs))) :=
  ⟨fun σ Hi H en D hz => by
    obtain ⟨p, vs, h1, h2, r⟩ := en.muL hL
    refine PS.wp (ps_aug hN hi hx pe_wp (show PIp X .Add rExt2 from iop_ext) hf) ⟨_, h1, h.go σ Hi H en _ ((PZ.bind en hz).imp fun ys Hi' H' n q z o g1 g2 g3 g4 => ?_)⟩
    obtain ⟨c, q⟩ := PZ.chk q
    obtain ⟨ws, rfl, rw'⟩ := g4
    refine ⟨p, z, vs, ws, rfl, rfl, n.al _ _ h2, g1, by rw [← r.length, ← rw'.length]; exact c, ?_⟩
    have en' := (en.nx n).mut (c' := ctL K (xs ++ ys)) hL h1 ⟨_, rfl, (r.mono n.im).app rw'⟩
    show D.nx (List.set σ i (some (V.ref p))) _
    rw [set_same h1]
    exact (show ∀ σ' Hi' H', EnvOk b (L.set i (.mu (ctL K (xs ++ ys)))) σ' Hi' H' → D.nx σ' H' from q) _ Hi' _ en'⟩
/-- list(x), held: x a tuple, a pair of alike things -/
theorem jf_listU [Py α] {m : M (Tup α)} (hm : mg "list" = none) (h : JE X K b L E e m) (hK : X.K = K := by rfl) (hM : X.mg = mg := by rfl)
    (hg : Gl X "list" := by rfl) (he : starEach [e] X.env = (false, eval e X.env) :: starEach [] X.env := by rfl) (hpl : (backTo pos (starEach [] X.env)).any (·.1) = false := by rfl) : JF X K b L E (.Call (.Name "list" p2) [e] [] pos) (ctL K) (m >>= fun xs => (pure xs : M (List α))) := by
  subst hK
  exact ⟨fun σ Hi H en Q hq => PE.wp (pe_callTy call_list_of hg (by rw [hM]; exact hm) bt_list (pa_cons pe_wp pa_nil he) (by decide) (by decide) he hpl) (h.go σ Hi H en _ ((PX.bind hq).imp fun xs Hi1 H1 n1 k v rv => by
    obtain ⟨p, vs, rfl, h1, h2⟩ := rv
    refine ⟨p, vs, rfl, .inr (sqt_mono n1.sub h1), fun r hr => ?_⟩
    have nr : H r = none := by
      cases z : H r with
      | none => rfl
      | some u => rw [n1.al r u z] at hr; cases hr
    exact (PX.go (α := List α) (a := xs) k (Nx.temp n1.sub hr)) r _ upd_same nr (hi_none n1.sub hr) ⟨_, rfl, h2⟩))⟩
theorem jf_listP [Py α] {m : M (α × α)} (hm : mg "list" = none) (h : JE X K b L E e m) (hK : X.K = K := by rfl) (hM : X.mg = mg := by rfl)
    (hg : Gl X "list" := by rfl) (he : starEach [e] X.env = (false, eval e X.env) :: starEach [] X.env := by rfl) (hpl : (backTo pos (starEach [] X.env)).any (·.1) = false := by rfl) : JF X K b L E (.Call (.Name "list" p2) [e] [] pos) (ctL K) (m >>= fun x => (pure [x.1, x.2] : M (List α))) := by
  subst hK
  exact ⟨fun σ Hi H en Q hq => PE.wp (pe_callTy call_list_of hg (by rw [hM]; exact hm) bt_list (pa_cons pe_wp pa_nil he) (by decide) (by decide) he hpl) (h.go σ Hi H en _ ((PX.bind hq).imp fun x Hi1 H1 n1 k v rv => by
    obtain ⟨p, v1, v2, rfl, h1, h2, h3⟩ := rv
    refine ⟨p, [v1, v2], rfl, .inr (sqt_mono n1.sub h1), fun r hr => ?_⟩
    have nr : H r = none := by
      cases z : H r with
      | none => rfl
      | some u => rw [n1.al r u z] at hr; cases hr
    exact (PX.go (α := List α) (a := [x.1, x.2]) k (Nx.temp n1.sub hr)) r _ upd_same nr (hi_none n1.sub hr) ⟨_, rfl, .cons h2 (.cons h3 .nil)⟩))⟩
theorem jt_din [Py α] {m : M (Dic α)} {mk : M Tx} (hu : X.A.units + 64 < cLine) (hk : JE X K b L E e1 mk) (h : JD X K b L E e m) (hb : behindInMarks .In e = false := by rfl) : JT X K b L E (.Compare e1 [.In] [e] pos) (mk >>= fun k => m >>= fun d => (pure (dgetM (α := α) d k).isSome : M Bool)) :=
  ⟨fun σ Hi H en Q hq => PT.wp (pt_cmp (pc_din (by omega) pe_wp pe_wp) hb) (hk.go σ Hi H en _ ((PX.bind hq).imp fun k Hi1 H1 n1 k1 v rv => h.go σ Hi1 H1 (en.nx n1) _ ((PX.bind k1).imp fun d Hi2 H2 n2 k2 p kvs g1 g2 => by
    have rv : v = V.str (G.S k) := rv
    subst rv
    exact ⟨p, _, rfl, DGet.k (k := kT k) g1, _, congrArg V.bl (g2.some k), PX.here k2 n2.sub⟩)))⟩
theorem jt_dnotin [Py α] {m : M (Dic α)} {mk : M Tx} (hu : X.A.units + 64 < cLine) (hk : JE X K b L E e1 mk) (h : JD X K b L E e m) (hb : behindInMarks .NotIn e = false := by rfl) : JT X K b L E (.Compare e1 [.NotIn] [e] pos) (mk >>= fun k => m >>= fun d => (pure (!(dgetM (α := α) d k).isSome) : M Bool)) :=
  ⟨fun σ Hi H en Q hq => PT.wp (pt_cmp (pc_dnotin (by omega) pe_wp pe_wp) hb) (hk.go σ Hi H en _ ((PX.bind hq).imp fun k Hi1 H1 n1 k1 v rv => h.go σ Hi1 H1 (en.nx n1) _ ((PX.bind k1).imp fun d Hi2 H2 n2 k2 p kvs g1 g2 => by
    have rv : v = V.str (G.S k) := rv
    subst rv
    exact ⟨p, _, rfl, DGet.k (k := kT k) g1, _, congrArg (fun z => V.bl (!z)) (g2.some k), PX.here k2 n2.sub⟩)))⟩
end
end G

set_option Elab.async false
set_option linter.all false
set_option maxRecDepth 100000
set_option maxHeartbeats 2000000
namespace G
open PySem L2 TL
/-! index of a tuple of texts of the module -/
def idx1 : List Tx → Tx → Option Nat
  | [], _ => none
  | y :: r, z => if y = z then some 0 else (idx1 r z).map (· + 1)
theorem idx1_ok : ∀ {ys : List Tx} {z : Tx} {j : Nat}, idx1 ys z = some j → (ys.map G.S)[j]? = some (G.S z) ∧ ∀ m, m < j → (ys.map G.S)[m]? ≠ some (G.S z)
  | [], z, j, h => by cases h
  | y :: r, z, j, h => by
    unfold idx1 at h
    by_cases e : y = z
    · rw [if_pos e] at h
      cases h
      exact ⟨by rw [e]; rfl, fun m hm => by omega⟩
    · rw [if_neg e] at h
      cases q : idx1 r z with
      | none => rw [q] at h; cases h
      | some k =>
        rw [q] at h
        have hj : k + 1 = j := Option.some.inj h
        subst hj
        obtain ⟨h1, h2⟩ := idx1_ok q
        refine ⟨h1, fun m hm => ?_⟩
        cases m with
        | zero => exact fun w => e (S_inj (Option.some.inj w))
        | succ m => exact h2 m (by omega)
section
variable {X : Cx} {K : Fg} {mg : Str → Option Value} {b : Bs} {L L' : List En} {E : XK} {e e1 e2 : Expr} {pos p' p2 p3 p4 : Pos}
theorem je_tix {m : M Tx} {x : Str} {ys : List String} {apos pn : Pos} (hm : mg x = some (.ref (He.ga K x))) (hb : He.tupB K x (ys.map fun s => He.Dv.str (Str.ofString s)) = true) (ht : tupN K x = true) (h : JE X K b L E e m) (hK : X.K = K := by rfl) (hM : X.mg = mg := by rfl) (hg : Gl X x := by rfl) (hd : (x == ("__debug__" : Str)) = false := by decide)
    (hbase : attributeBase (.Name x pn) "index" X.env (eval (.Name x pn) X.env) = eval (.Name x pn) X.env := by rfl)
    (hfew : ((backTo pos (starEach [e] X.env)).all (fun x => !x.1) && (backToKw pos (keywordEach [] X.env)).all (fun x => x.1.isSome) && decide ([e].length + ([] : List Keyword).length + (if ([] : List Keyword).isEmpty then 0 else 1) < 30)) = true := by rfl)
    (hline : (apos.endLine == pos.line) = true := by rfl) (hs : starEach [e] X.env = (false, eval e X.env) :: starEach [] X.env := by rfl) (hplain : (backTo pos (starEach [] X.env)).any (·.1) = false := by rfl) :
    JE X K b L E (.Call (.Attribute (.Name x pn) "index" apos) [e] [] pos) (m >>= fun z => ofO (idx1 (ys.map tx) z) >>= fun j => (pure (j : Int) : M Int)) := by
  subst hK
  refine ⟨fun σ Hi H en Q hq => PE.wp (pe_bm PySem.F.plainAttrs_tuple PySem.F.slot_tuple_index PySem.F.type_tuple_index mt_tup_index (pe_glob (v := .ref (He.ga X.K x)) hg (by rw [hM]; exact hm) rfl hd) (pa_cons pe_wp pa_nil hs) hbase hfew hline hs hplain) ⟨.inr (.inl ⟨rfl, ?_⟩), h.go σ Hi H en _ ((PX.bind hq).imp fun z Hi1 H1 n1 k v rv => ?_)⟩⟩
  · unfold tupN at ht
    cases q : X.K.lookup (He.ga X.K x) with
    | none => rw [q] at ht; cases ht
    | some o =>
      rw [q] at ht
      simp only [Bool.and_eq_true, decide_eq_true_eq] at ht
      exact ⟨o, rfl, ht.1, ht.2⟩
  · obtain ⟨j, ej, k⟩ := PX.ofO k
    obtain ⟨g1, g2⟩ := idx1_ok ej
    refine ⟨He.ga X.K x, (ys.map tx).map G.S, G.S z, j, rfl, by rw [show v = V.str (G.S z) from rv], ?_, g1, g2, k.here n1.sub _ rfl⟩
    have := He.tupB_ok hb H1
    have e : (ys.map fun s => He.Dv.str (Str.ofString s)).map (He.Dv.v X.K) = ((ys.map tx).map G.S).map V.str := by
      rw [List.map_map, List.map_map, List.map_map]
      exact List.map_congr_left fun s _ => congrArg V.str (S_tx s).symm
    rw [e] at this
    exact this
end
end G

set_option Elab.async false
set_option linter.all false
set_option maxRecDepth 100000
set_option maxHeartbeats 2000000
namespace G
open PySem L2 TL
/-! a list against the empty list -/
def rEqNil (K : Fg) : R2 := fun x y H Q => ∃ p q xs, x = .ref p ∧ y = .ref q ∧ SqL K H p xs ∧ SqL K H q [] ∧ Q (.bl xs.isEmpty) H
def rNeNil (K : Fg) : R2 := fun x y H Q => ∃ p q xs, x = .ref p ∧ y = .ref q ∧ SqL K H p xs ∧ SqL K H q [] ∧ Q (.bl (!xs.isEmpty)) H
section
variable {X : Cx} {K : Fg} {E : XK} {α : Type}
theorem op_eqNil (hu : X.A.units + 64 < cLine) (hK : X.K = K := by rfl) : OpR X (compareOp .Eq) (rEqNil K) := by
  subst hK
  intro pins s σ H x y v u Q I rx ry h
  obtain ⟨p, q, xs, rfl, rfl, h1, h2, hq⟩ := h
  cases rx
  cases ry
  obtain ⟨us, r1, pl1, _⟩ := I.list h1
  obtain ⟨ts, r2, pl2, _⟩ := I.list h2
  cases r2
  cases r1 with
  | nil =>
    have := SeqAt.RcAt.lists (A := X.A) (e := fun _ => true) pl1.isList pl2.isList rfl (by omega) (fun j j1 j2 => absurd j1 (by simp))
    exact this X.prog X.w _ _ ⟨.bl _, H, I, rfl, hq⟩
  | cons r t =>
    have := SeqAt.RcAt.lists_lengths (A := X.A) pl1.isList pl2.isList (by simp) (by omega)
    exact this X.prog X.w _ _ ⟨.bl _, H, I, rfl, hq⟩
theorem op_neNil (hu : X.A.units + 64 < cLine) (hK : X.K = K := by rfl) : OpR X (compareOp .NotEq) (rNeNil K) := by
  subst hK
  intro pins s σ H x y v u Q I rx ry h
  obtain ⟨p, q, xs, rfl, rfl, h1, h2, hq⟩ := h
  cases rx
  cases ry
  obtain ⟨us, r1, pl1, _⟩ := I.list h1
  obtain ⟨ts, r2, pl2, _⟩ := I.list h2
  cases r2
  cases r1 with
  | nil =>
    have := SeqAt.RcNeAt.lists (A := X.A) (e := fun _ => true) pl1.isList pl2.isList rfl (by omega) (fun j j1 j2 => absurd j1 (by simp))
    exact this X.prog X.w _ _ ⟨.bl _, H, I, rfl, hq⟩
  | cons r t =>
    have := SeqAt.RcNeAt.lists_lengths (A := X.A) pl1.isList pl2.isList (by simp) (by omega)
    exact this X.prog X.w _ _ ⟨.bl _, H, I, rfl, hq⟩
theorem ro_eqNil [Py α] : RO K E (rEqNil K) (fun (a b : List α) => chk (b.isEmpty = true) >>= fun _ => (pure a.isEmpty : M Bool)) := by
  rintro a b v w Hi H Q s ⟨p, vs, rfl, h1, h2⟩ ⟨q, ws, rfl, g1, g2⟩ h
  obtain ⟨c, h⟩ := PX.chk h
  have e : b = [] := List.isEmpty_iff.mp c
  subst e
  cases g2
  refine ⟨p, q, vs, rfl, rfl, Same.seq s h1, Same.seq s g1, h.here s _ ?_⟩
  cases h2 <;> rfl
theorem ro_neNil [Py α] : RO K E (rNeNil K) (fun (a b : List α) => chk (b.isEmpty = true) >>= fun _ => (pure (!a.isEmpty) : M Bool)) := by
  rintro a b v w Hi H Q s ⟨p, vs, rfl, h1, h2⟩ ⟨q, ws, rfl, g1, g2⟩ h
  obtain ⟨c, h⟩ := PX.chk h
  have e : b = [] := List.isEmpty_iff.mp c
  subst e
  cases g2
  refine ⟨p, q, vs, rfl, rfl, Same.seq s h1, Same.seq s g1, h.here s _ ?_⟩
  cases h2 <;> rfl
end
end G

set_option Elab.async false
set_option linter.all false
set_option maxRecDepth 100000
set_option maxHeartbeats 2000000
namespace G
open PySem L2 TL
/-! two lists that names hold alone are handed to a def that changes them: what the frame is behind the call -/
theorem EnvOk.two {K : Fg} {α β : Type} [Py α] [Py β] {b : Bs} {L : List En} {σ : L2.St} {Hi H Hi' H' : Hp} {i j : Nat} {ks ks' : List α} {rs rs' : List β} {p q : Addr} {kvs rvs : List V} (en : EnvOk b L σ Hi H)
    (hi : L[i]? = some (.mu (ctL K ks))) (hj : L[j]? = some (.mu (ctL K rs))) (hij : i ≠ j) (si : σ[i]? = some (some (.ref p))) (sj : σ[j]? = some (some (.ref q))) (o : Ok ⟨Hi, H, [p, q]⟩ Hi' H')
    (ci : H' p = some (.lst kvs)) (ri : Rl K Hi' ks' kvs) (cj : H' q = some (.lst rvs)) (rj : Rl K Hi' rs' rvs) (np : Hi' p = none) (nq : Hi' q = none) :
    EnvOk b ((L.set i (.mu (ctL K ks'))).set j (.mu (ctL K rs'))) σ Hi' H' := by
  obtain ⟨p', op, e1, e2, e3, e4, e5⟩ := en.mu i _ hi
  rw [si] at e1
  cases e1
  obtain ⟨q', oq, f1, f2, f3, f4, f5⟩ := en.mu j _ hj
  rw [sj] at f1
  cases f1
  have li : i < L.length := (List.getElem?_eq_some_iff.mp hi).1
  have lj : j < L.length := (List.getElem?_eq_some_iff.mp hj).1
  have nb : ∀ a u, a ∉ b.own → b.H a = some u → a ∉ [p, q] := fun a u hn h z => by
    rcases List.mem_cons.mp z with e | z
    · subst e
      rcases e4 with w | w
      · exact hn w
      · rw [w] at h; cases h
    · have e := List.mem_singleton.mp z
      subst e
      rcases f4 with w | w
      · exact hn w
      · rw [w] at h; cases h
  have gi : ((L.set i (En.mu (ctL K ks'))).set j (En.mu (ctL K rs')))[i]? = some (.mu (ctL K ks')) := by rw [List.getElem?_set_ne (Ne.symm hij), List.getElem?_set_self li]
  have gj : ((L.set i (En.mu (ctL K ks'))).set j (En.mu (ctL K rs')))[j]? = some (.mu (ctL K rs')) := List.getElem?_set_self (by rw [List.length_set]; exact lj)
  have gk : ∀ k, i ≠ k → j ≠ k → ((L.set i (En.mu (ctL K ks'))).set j (En.mu (ctL K rs')))[k]? = L[k]? := fun k h1 h2 => by rw [List.getElem?_set_ne h2, List.getElem?_set_ne h1]
  have back : ∀ {k : Nat} {d : Ct}, ((L.set i (En.mu (ctL K ks'))).set j (En.mu (ctL K rs')))[k]? = some (.mu d) → ∃ d', L[k]? = some (.mu d') := fun {k d} h => by
    by_cases h1 : i = k
    · subst h1; exact ⟨_, hi⟩
    · by_cases h2 : j = k
      · subst h2; exact ⟨_, hj⟩
      · rw [gk k h1 h2] at h; exact ⟨d, h⟩
  refine ⟨⟨o.sub, en.ok.base.trans o.base, fun a u hn h => o.fr a u (nb a u hn h) (en.ok.fr a u hn h), fun a h => o.keep a (en.ok.keep a h), fun a h n => o.cap a (en.ok.keep a h) (en.ok.cap a h n)⟩, by rw [List.length_set, List.length_set]; exact en.len, fun k r h => ?_, fun k d h => ?_, fun k l d d' a h1 h2 h3 h4 => ?_⟩
  · by_cases h1 : i = k
    · subst h1; rw [gi] at h; cases h
    · by_cases h2 : j = k
      · subst h2; rw [gj] at h; cases h
      · rw [gk k h1 h2] at h
        obtain ⟨v, g1, g2⟩ := en.im k r h
        exact ⟨v, g1, r.m o.base g2⟩
  · by_cases h1 : i = k
    · subst h1
      rw [gi] at h
      cases h
      exact ⟨p, _, si, ci, np, e4, kvs, rfl, ri⟩
    · by_cases h2 : j = k
      · subst h2
        rw [gj] at h
        cases h
        exact ⟨q, _, sj, cj, nq, f4, rvs, rfl, rj⟩
      · rw [gk k h1 h2] at h
        obtain ⟨a, u, g1, g2, g3, g4, g5⟩ := en.mu k d h
        have n1 : a ≠ p := fun z => by
          subst z
          exact h1 (en.dis i k _ d a hi h si g1)
        have n2 : a ≠ q := fun z => by
          subst z
          exact h2 (en.dis j k _ d a hj h sj g1)
        have nn : a ∉ [p, q] := fun z => by
          rcases List.mem_cons.mp z with e | z
          · exact n1 e
          · exact n2 (List.mem_singleton.mp z)
        exact ⟨a, u, g1, o.fr a u nn g2, o.cap a (by rw [show (⟨Hi, H, [p, q]⟩ : Bs).H a = some u from g2]; exact fun z => nomatch z) g3, g4, d.m o.base g5⟩
  · obtain ⟨d1, q1⟩ := back h1
    obtain ⟨d2, q2⟩ := back h2
    exact en.dis k l d1 d2 a q1 q2 h3 h4
end G

set_option Elab.async false
set_option linter.all false
set_option maxRecDepth 100000
set_option maxHeartbeats 2000000
namespace G
open PySem L2 TL
/-! the body of a def that changes two lists of its caller's (at p and q) -/
structure Ad where
  a : Addr
instance instPyAd : Py Ad := ⟨fun _ _ x v => v = .ref x.a, fun _ h => h⟩
section
variable {X : Cx} {K : Fg} {b : Bs} {L : List En} {E : XK} {e c : Expr} {st s1 s2 : Stmt} {a rest : List Stmt} {α β γ ρ S S2 : Type} [Py α] [Py β] [Py γ] {pos : Pos} {p q : Addr} {ks : List α} {rs : List β}
structure BsK (K : Fg) {α β : Type} [Py α] [Py β] (b : Bs) (p q : Addr) (ks : List α) (rs : List β) : Prop where
  own : b.own = []
  ne : p ≠ q
  np : b.Hi p = none
  nq : b.Hi q = none
  cp : ∃ kvs, b.H p = some (.lst kvs) ∧ Rl K b.Hi ks kvs
  cq : ∃ rvs, b.H q = some (.lst rvs) ∧ Rl K b.Hi rs rvs
def pKK (K : Fg) {α β : Type} [Py α] [Py β] (b : Bs) (p q : Addr) (D : Ends) (r : List α × List β) : Prop :=
  ∀ σ' Hi' H' kvs rvs, Ok ⟨b.Hi, b.H, [p, q]⟩ Hi' H' → H' p = some (.lst kvs) → H' q = some (.lst rvs) → Hi' p = none → Hi' q = none → Rl K Hi' r.1 kvs → Rl K Hi' r.2 rvs → D.nx σ' H'
structure JK (X : Cx) (K : Fg) {α β : Type} [Py α] [Py β] (p q : Addr) (ks : List α) (rs : List β) (L : List En) (E : XK) (ss : List Stmt) (m : M (List α × List β)) : Prop where
  go : ∀ σ b, EnvOk b L σ b.Hi b.H → BsK K b p q ks rs → ∀ D : Ends, PZ K E ⟨b.Hi, b.H, [p, q]⟩ m (pKK K b p q D) → wpB X ss D σ b.H
theorem EnvOk.thawK {σ : L2.St} {Hi H : Hp} (en : EnvOk b L σ Hi H) (i : Nat) {P : Addr} {xs : List γ} {vs : List V} (ho : b.own = []) (np : b.Hi P = none) (cp : b.H P = some (.lst vs)) (r : Rl K b.Hi xs vs) (hm : noMu L) (hL : L[i]? = some (.im (prR P))) :
    Same Hi (upd Hi P (.lst vs)) ∧ EnvOk ⟨upd Hi P (.lst vs), H, []⟩ (L.set i (.im (rp K xs))) σ (upd Hi P (.lst vs)) H := by
  have hH : H P = some (.lst vs) := en.ok.fr P _ (by rw [ho]; simp) cp
  have hp : Hi P = none := en.ok.cap P (by rw [cp]; exact fun z => nomatch z) np
  have sm : Same Hi (upd Hi P (.lst vs)) := same_new hp
  obtain ⟨hl, _⟩ := List.getElem?_eq_some_iff.mp hL
  have nm : ∀ (j : Nat) (d : Ct), (L.set i (En.im (rp K xs)))[j]? ≠ some (.mu d) := fun j d h => by
    by_cases hj : i = j
    · subst hj; rw [List.getElem?_set_self hl] at h; cases h
    · rw [List.getElem?_set_ne hj] at h; exact hm j d h
  refine ⟨sm, ⟨fun d u h => ?_, Same.refl _, fun _ _ _ h => h, fun _ h => h, fun _ _ h => h⟩, by rw [List.length_set]; exact en.len, fun j Q h => ?_, fun j d h => absurd h (nm j d), fun j _ d _ _ h => absurd h (nm j d)⟩
  · by_cases hd : d = P
    · subst hd; rw [upd_same] at h; cases h; exact hH
    · rw [upd_ne hd] at h; exact en.ok.sub d u h
  · by_cases hj : i = j
    · subst hj
      rw [List.getElem?_set_self hl] at h
      cases h
      obtain ⟨v, k1, k2⟩ := en.im i _ hL
      have k2 : v = V.ref P := k2
      subst k2
      exact ⟨_, k1, P, vs, rfl, .of upd_same, r.mono (en.ok.base.trans sm)⟩
    · rw [List.getElem?_set_ne hj] at h
      obtain ⟨v, k1, k2⟩ := en.im j Q h
      exact ⟨v, k1, Q.m sm k2⟩
theorem jt_thawK {m : M Bool} (i : Nat) {P : Addr} {xs : List γ} {vs : List V} (h : ∀ b', b'.own = [] → JT X K b' (L.set i (.im (rp K xs))) E e m) (ho : b.own = []) (np : b.Hi P = none) (cp : b.H P = some (.lst vs)) (r : Rl K b.Hi xs vs) (hm : noMu L) (hL : L[i]? = some (.im (prR P)) := by rfl) : JT X K b L E e m :=
  ⟨fun σ Hi H en Q hq => by
    obtain ⟨s, en'⟩ := en.thawK i ho np cp r hm hL
    exact (h _ rfl).go σ _ H en' Q (hq.thaw (k := Q) s)⟩
theorem jt_thawP {m : M Bool} (i : Nat) (hb : BsK K b p q ks rs) (hm : noMu L) (h : ∀ b', b'.own = [] → JT X K b' (L.set i (.im (rp K ks))) E e m) (hL : L[i]? = some (.im (prR p)) := by rfl) : JT X K b L E e m :=
  let ⟨vs, c1, c2⟩ := hb.cp
  jt_thawK i h hb.own hb.np c1 c2 hm hL
theorem jt_thawQ {m : M Bool} (i : Nat) (hb : BsK K b p q ks rs) (hm : noMu L) (h : ∀ b', b'.own = [] → JT X K b' (L.set i (.im (rp K rs))) E e m) (hL : L[i]? = some (.im (prR q)) := by rfl) : JT X K b L E e m :=
  let ⟨vs, c1, c2⟩ := hb.cq
  jt_thawK i h hb.own hb.nq c1 c2 hm hL
theorem BsK.lift {Hi' H' : Hp} (hb : BsK K b p q ks rs) (o : Ok b Hi' H') : Ok ⟨b.Hi, b.H, [p, q]⟩ Hi' H' := ⟨o.sub, o.base, fun a u _ e => o.fr a u (by rw [hb.own]; simp) e, o.keep, o.cap⟩
theorem BsK.next {Hi' H' : Hp} (hb : BsK K b p q ks rs) (o : Ok b Hi' H') : BsK K ⟨Hi', H', []⟩ p q ks rs := by
  obtain ⟨kvs, c1, c2⟩ := hb.cp
  obtain ⟨rvs, d1, d2⟩ := hb.cq
  exact ⟨rfl, hb.ne, o.cap p (by rw [c1]; exact fun z => nomatch z) hb.np, o.cap q (by rw [d1]; exact fun z => nomatch z) hb.nq, ⟨kvs, o.fr p _ (by rw [hb.own]; simp) c1, c2.mono o.base⟩, ⟨rvs, o.fr q _ (by rw [hb.own]; simp) d1, d2.mono o.base⟩⟩
theorem Ok.over {Hi1 H1 Hi' H' : Hp} {w : List Addr} (o1 : Ok ⟨b.Hi, b.H, w⟩ Hi1 H1) (o : Ok ⟨Hi1, H1, w⟩ Hi' H') : Ok ⟨b.Hi, b.H, w⟩ Hi' H' :=
  ⟨o.sub, o1.base.trans o.base, fun a u n e => o.fr a u n (o1.fr a u n e), fun a h => o.keep a (o1.keep a h), fun a h n => o.cap a (o1.keep a h) (o1.cap a h n)⟩
theorem PZ.pxK {δ : Type} {m : M δ} {f : δ → M ρ} {post : ρ → Prop} (hb : BsK K b p q ks rs) (h : PZ K E ⟨b.Hi, b.H, [p, q]⟩ (m >>= f) post) : PX K E m b.Hi b.H fun a Hi' H' => PZ K E ⟨b.Hi, b.H, [p, q]⟩ (f a) post := by
  cases m with
  | ok a => exact fun _ _ _ => h
  | error e =>
    cases e with
    | rs c => exact fun Hi' H' n => h Hi' H' ⟨n.sub, n.im, fun a u _ e => n.al a u e, fun a e => some_ne n.al e, n.cap⟩
    | st => exact h
theorem jk_go {σ : L2.St} {Hi1 H1 : Hp} {m : M (List α × List β)} {D : Ends} (h : JK X K p q ks rs L E rest m) (hb : BsK K b p q ks rs) (en : EnvOk b L σ Hi1 H1) (hm : noMu L) (hz : PZ K E ⟨b.Hi, b.H, [p, q]⟩ m (pKK K b p q D)) : wpB X rest D σ H1 :=
  h.go σ ⟨Hi1, H1, []⟩ (en.rebase hm en.ok.sub) (hb.next en.ok) D (PZ.base (fun _ _ o => (hb.lift en.ok).over o) (fun r z σ2 Hi2 H2 kvs rvs o => z σ2 Hi2 H2 kvs rvs ((hb.lift en.ok).over o)) hz)
theorem jk_st {m1 : M S} {Lf : S → List En} {m2 : S → M (List α × List β)} (h : ∀ b, BsK K b p q ks rs → J1 X K b L E st m1 Lf) (h2 : ∀ s, JK X K p q ks rs (Lf s) E rest (m2 s)) (hm : ∀ s, noMu (Lf s)) : JK X K p q ks rs L E (st :: rest) (m1 >>= fun s => m2 s) :=
  ⟨fun σ b en hb D hz => PSs.wp (pss_cons ps_wp pss_wp) ((h b hb).go σ b.Hi b.H en _ (PZ.base (fun _ _ o => hb.lift o) (fun s z σ' Hi' H' en' => jk_go (h2 s) hb en' (hm s) z) (PZ.bindz hz)))⟩
/-- if c: s1 else: s2, and what comes behind is told for each branch -/
theorem jk_if2 {mc : M Bool} {m1 : M S} {m2 : M S2} {L1 : S → List En} {L2' : S2 → List En} {n1 : S → M (List α × List β)} {n2 : S2 → M (List α × List β)} (h : ∀ b, BsK K b p q ks rs → JT X K b L E c mc)
    (h1 : ∀ b, BsK K b p q ks rs → J1 X K b L E s1 m1 L1) (h2 : ∀ b, BsK K b p q ks rs → J1 X K b L E s2 m2 L2') (k1 : ∀ s, JK X K p q ks rs (L1 s) E rest (n1 s)) (k2 : ∀ s, JK X K p q ks rs (L2' s) E rest (n2 s)) (hm1 : ∀ s, noMu (L1 s)) (hm2 : ∀ s, noMu (L2' s)) :
    JK X K p q ks rs L E (.If c [s1] [s2] pos :: rest) (mc >>= fun t => if t = true then (m1 >>= fun s => n1 s) else (m2 >>= fun s => n2 s)) :=
  ⟨fun σ b en hb D hz => PSs.wp (pss_cons (ps_if pt_wp (pss_one ps_wp) (pss_one ps_wp)) pss_wp) ((h b hb).go σ b.Hi b.H en _ ((PZ.pxK hb hz).imp fun t Hi' H' x q => by
    cases t with
    | true =>
      rw [if_pos rfl] at q ⊢
      exact (h1 b hb).go σ Hi' H' (en.nx x) _ (PZ.base (fun _ _ o => hb.lift o) (fun s z σ' Hi' H' en' => jk_go (k1 s) hb en' (hm1 s) z) (PZ.bindz q))
    | false =>
      rw [if_neg Bool.false_ne_true] at q ⊢
      exact (h2 b hb).go σ Hi' H' (en.nx x) _ (PZ.base (fun _ _ o => hb.lift o) (fun s z σ' Hi' H' en' => jk_go (k2 s) hb en' (hm2 s) z) (PZ.bindz q))))⟩
/-- if c: raise -/
theorem jk_ifR {mc : M Bool} {ma m2 : M (List α × List β)} (h : ∀ b, BsK K b p q ks rs → JT X K b L E c mc) (h1 : ∀ b, BsK K b p q ks rs → JS X K b L E a tlAny ma (fun _ _ => False)) (hma : ∀ x, ma ≠ .ok x) (h2 : JK X K p q ks rs L E rest m2) (hm : noMu L) :
    JK X K p q ks rs L E (.If c a [] pos :: rest) (mc >>= fun t => if t = true then ma else m2) :=
  ⟨fun σ b en hb D hz => PSs.wp (pss_cons (ps_if pt_wp pss_wp pss_nil) pss_wp) ((h b hb).go σ b.Hi b.H en _ ((PZ.pxK hb hz).imp fun t Hi' H' x q => by
    cases t with
    | true =>
      rw [if_pos rfl] at q ⊢
      refine (h1 b hb).go σ Hi' H' (en.nx x) _ trivial ?_
      cases hx : ma with
      | ok z => exact absurd hx (hma z)
      | error z =>
        rw [hx] at q
        cases z with
        | rs c => exact fun Hi' H' o => q Hi' H' (hb.lift o)
        | st => exact q
    | false =>
      rw [if_neg Bool.false_ne_true] at q ⊢
      exact jk_go h2 hb (en.nx x) hm q))⟩
end
end G

set_option Elab.async false
set_option linter.all false
set_option maxRecDepth 100000
set_option maxHeartbeats 2000000
namespace G
open PySem L2 TL
section
variable {X : Cx} {K : Fg} {b : Bs} {L : List En} {E : XK} {e c : Expr} {α β γ : Type} [Py α] [Py β] [Py γ] {pos p2 : Pos} {p q : Addr} {ks : List α} {rs : List β}
theorem okK {σ : L2.St} {Hi1 H1 : Hp} {P : Addr} {u w : HO} (hb : BsK K b p q ks rs) (o : Ok b Hi1 H1) (hP : P = p ∨ P = q) (h1 : H1 P = some w) (n1 : Hi1 P = none) : Ok ⟨b.Hi, b.H, [p, q]⟩ Hi1 (upd H1 P u) where
  sub := fun a w e => by rw [upd_ne (ne_of_none e n1)]; exact o.sub a w e
  base := o.base
  fr := fun a w n e => by
    have hn : a ≠ P := fun z => n (by rw [z]; rcases hP with z | z <;> rw [z] <;> simp)
    rw [upd_ne hn]; exact o.fr a w (by rw [hb.own]; simp) e
  keep := fun a h => by
    by_cases hn : a = P
    · subst hn; rw [upd_same]; exact fun z => nomatch z
    · rw [upd_ne hn]; exact o.keep a h
  cap := o.cap
theorem jk_appP {m : M α} (i : Nat) {x : Str} {apos : Pos} {pn : Pos} (h : ∀ b, BsK K b p q ks rs → JE X K b L E e m) (hL : L[i]? = some (.im (prR p)) := by rfl) (hN : X.N[i]? = some x := by rfl) (hv : Vis X.env.scope x := by first | exact Or.inl rfl | exact Or.inr (Or.inl rfl) | exact Or.inr (Or.inr rfl))
    (hd : (x == ("__debug__" : Str)) = false := by decide) (hcd : (x == ("__classdict__" : Str)) = false := by decide) (hs1 : starEach [e] X.env = (false, eval e X.env) :: starEach [] X.env := by rfl)
    (hbase : attributeBase (.Name x pn) "append" X.env (eval (.Name x pn) X.env) = eval (.Name x pn) X.env := by rfl)
    (hfew : ((backTo p2 (starEach [e] X.env)).all (fun x => !x.1) && (backToKw p2 (keywordEach [] X.env)).all (fun x => x.1.isSome) && decide ([e].length + ([] : List Keyword).length + (if ([] : List Keyword).isEmpty then 0 else 1) < 30)) = true := by rfl)
    (hline : (apos.endLine == p2.line) = true := by rfl) (hplain : (backTo p2 (starEach [] X.env)).any (·.1) = false := by rfl)
    (hs : swapsWith (.Call (.Attribute (.Name x pn) "append" apos) [e] [] p2) none pos.line X.env = pure false := by rfl) :
    JK X K p q ks rs L E [.Expr (.Call (.Attribute (.Name x pn) "append" apos) [e] [] p2) pos] (m >>= fun a => chk (ks.length < SZ) >>= fun _ => pure (ks ++ [a], rs)) :=
  ⟨fun σ b en hb D hz => by
    obtain ⟨kvs, c1, c2⟩ := hb.cp
    obtain ⟨rvs, d1, d2⟩ := hb.cq
    obtain ⟨v0, h1, h0⟩ := en.im i _ hL
    have h0 : v0 = V.ref p := h0
    subst h0
    refine PSs.wp (pss_one (ps_expr (pe_bm PySem.F.plainAttrs_list PySem.F.slot_list_append PySem.F.type_list_append mt_append (pe_var hN hv hd hcd) (pa_cons pe_wp pa_nil hs1) hbase hfew hline hs1 hplain) hs)) ?_
    refine ⟨_, h1, .inl ⟨rfl, _, SqL.of c1⟩, (h b hb).go σ b.Hi b.H en _ ((PZ.pxK hb hz).imp fun a Hi' H' y z v rv => ?_)⟩
    obtain ⟨ch, z⟩ := PZ.chk z
    have en' := en.nx y
    have np : Hi' p = none := (hb.next en'.ok).np
    have nq : Hi' q = none := (hb.next en'.ok).nq
    have hp1 := y.al _ _ c1
    have hq1 := y.al _ _ d1
    refine ⟨p, kvs, v, rfl, rfl, hp1, by rw [← c2.length]; exact ch, ?_⟩
    exact (show pKK K b p q D (ks ++ [a], rs) from z) _ Hi' _ _ rvs (okK (σ := σ) hb en'.ok (.inl rfl) hp1 np) upd_same (by rw [upd_ne (Ne.symm hb.ne)]; exact hq1) np nq ((c2.mono y.im).app (.cons rv .nil)) (d2.mono y.im)⟩
theorem jk_appQ {m : M β} (i : Nat) {x : Str} {apos : Pos} {pn : Pos} (h : ∀ b, BsK K b p q ks rs → JE X K b L E e m) (hL : L[i]? = some (.im (prR q)) := by rfl) (hN : X.N[i]? = some x := by rfl) (hv : Vis X.env.scope x := by first | exact Or.inl rfl | exact Or.inr (Or.inl rfl) | exact Or.inr (Or.inr rfl))
    (hd : (x == ("__debug__" : Str)) = false := by decide) (hcd : (x == ("__classdict__" : Str)) = false := by decide) (hs1 : starEach [e] X.env = (false, eval e X.env) :: starEach [] X.env := by rfl)
    (hbase : attributeBase (.Name x pn) "append" X.env (eval (.Name x pn) X.env) = eval (.Name x pn) X.env := by rfl)
    (hfew : ((backTo p2 (starEach [e] X.env)).all (fun x => !x.1) && (backToKw p2 (keywordEach [] X.env)).all (fun x => x.1.isSome) && decide ([e].length + ([] : List Keyword).length + (if ([] : List Keyword).isEmpty then 0 else 1) < 30)) = true := by rfl)
    (hline : (apos.endLine == p2.line) = true := by rfl) (hplain : (backTo p2 (starEach [] X.env)).any (·.1) = false := by rfl)
    (hs : swapsWith (.Call (.Attribute (.Name x pn) "append" apos) [e] [] p2) none pos.line X.env = pure false := by rfl) :
    JK X K p q ks rs L E [.Expr (.Call (.Attribute (.Name x pn) "append" apos) [e] [] p2) pos] (m >>= fun a => chk (rs.length < SZ) >>= fun _ => pure (ks, rs ++ [a])) :=
  ⟨fun σ b en hb D hz => by
    obtain ⟨kvs, c1, c2⟩ := hb.cp
    obtain ⟨rvs, d1, d2⟩ := hb.cq
    obtain ⟨v0, h1, h0⟩ := en.im i _ hL
    have h0 : v0 = V.ref q := h0
    subst h0
    refine PSs.wp (pss_one (ps_expr (pe_bm PySem.F.plainAttrs_list PySem.F.slot_list_append PySem.F.type_list_append mt_append (pe_var hN hv hd hcd) (pa_cons pe_wp pa_nil hs1) hbase hfew hline hs1 hplain) hs)) ?_
    refine ⟨_, h1, .inl ⟨rfl, _, SqL.of d1⟩, (h b hb).go σ b.Hi b.H en _ ((PZ.pxK hb hz).imp fun a Hi' H' y z v rv => ?_)⟩
    obtain ⟨ch, z⟩ := PZ.chk z
    have en' := en.nx y
    have np : Hi' p = none := (hb.next en'.ok).np
    have nq : Hi' q = none := (hb.next en'.ok).nq
    have hp1 := y.al _ _ c1
    have hq1 := y.al _ _ d1
    refine ⟨q, rvs, v, rfl, rfl, hq1, by rw [← d2.length]; exact ch, ?_⟩
    exact (show pKK K b p q D (ks, rs ++ [a]) from z) _ Hi' _ kvs _ (okK (σ := σ) hb en'.ok (.inr rfl) hq1 nq) (by rw [upd_ne hb.ne]; exact hp1) upd_same np nq (c2.mono y.im) ((d2.mono y.im).app (.cons rv .nil))⟩
end
end G

set_option Elab.async false
set_option linter.all false
set_option maxRecDepth 100000
set_option maxHeartbeats 2000000
namespace G
open PySem L2 TL
/-! the promise of a def that changes its first two lists, and its call -/
def spK3 (K : Fg) {α β γ : Type} [Py α] [Py β] [Py γ] (f : List α → List β → γ → M (List α × List β)) : Sp := fun vs H Q E => ∃ (ks : List α) (rs : List β) (a : γ) (v : V) (Hi : Hp) (p q : Addr) (kvs rvs : List V),
  vs = [.ref p, .ref q, v] ∧ Same Hi H ∧ p ≠ q ∧ Hi p = none ∧ Hi q = none ∧ H p = some (.lst kvs) ∧ H q = some (.lst rvs) ∧ Rl K Hi ks kvs ∧ Rl K Hi rs rvs ∧ Py.rep K Hi a v ∧
    PZ K E ⟨Hi, H, [p, q]⟩ (f ks rs a) (fun r => ∀ Hi' H' kvs' rvs', Ok ⟨Hi, H, [p, q]⟩ Hi' H' → H' p = some (.lst kvs') → H' q = some (.lst rvs') → Hi' p = none → Hi' q = none → Rl K Hi' r.1 kvs' → Rl K Hi' r.2 rvs' → Q .non H')
theorem mkCK3 {α β γ : Type} [Py α] [Py β] [Py γ] {P : Program} {w : World} {K : Fg} {mg : Str → Option Value} {base : Heap} {x q0 : Str} {fa : Addr} {N : List Str} {p0 p1 p2 : Str} {args : Arguments} {body : List Stmt} {sc : Scope} {k : Nat} {f : List α → List β → γ → M (List α × List β)} {fd : FuncData} (F : FunD K x q0 args body sc [] [] fa fd) (S : FnScope N [p0, p1, p2] sc)
    (h : ∀ (cdv : Value) (A : Around) (outer : List Env) (s : Shared) (H : Hp) (E : XK), Room k (cxOf (L2.CX P w) P w K mg base N q0 sc fa cdv A outer s H E).A → ∀ (p q : Addr) (ks : List α) (rs : List β) (a : γ), JK (cxOf (L2.CX P w) P w K mg base N q0 sc fa cdv A outer s H E) K p q ks rs ([.im (prR p), .im (prR q), .im (rp K a)] ++ List.replicate (N.length - 3) .no) E body (f ks rs a)) : FnOk P w K mg base (L2.CX P w) (k + 1) fa fd [p0, p1, p2] (spK3 K f) := by
  refine F.ok S (fun vs H Q E hh => ?_) (fun cdv A outer s H vs Q E hr hh => ?_)
  · obtain ⟨ks, rs, a, v, Hi, p, q, kvs, rvs, rfl, _⟩ := hh
    rfl
  · obtain ⟨ks, rs, a, v, Hi, p, q, kvs, rvs, rfl, sm, ne, np, nq, cp, cq, rk, rr, ra, z⟩ := hh
    exact ⟨_, pss_wp, (h cdv A outer s H E hr p q ks rs a).go _ ⟨Hi, H, []⟩ (EnvOk.start (ps := [prR p, prR q, rp K a]) sm rfl (Paired.cons rfl (Paired.cons rfl (Paired.cons ra Paired.nil)))) ⟨rfl, ne, np, nq, ⟨kvs, cp, rk⟩, ⟨rvs, cq, rr⟩⟩ _ (PZ.imp z fun r z σ' Hi' H' k1 k2 o => z Hi' H' k1 k2 o)⟩
theorem mkFK3 {α β γ : Type} [Py α] [Py β] [Py γ] {P : Program} {w : World} {K : Fg} {mg : Str → Option Value} {base : Heap} {x : Str} {N : List Str} {p0 p1 p2 : Str} {args : Arguments} {body : List Stmt} {sc : Scope} {k : Nat} {f : List α → List β → γ → M (List α × List β)} (F : ∃ fd, FunD K x x args body sc [] [] (He.ga K x) fd) (g : mg x = some (.ref (He.ga K x))) (S : FnScope N [p0, p1, p2] sc)
    (hb : ∀ (kV doc pm : Value) (an : Option Addr) (cdv ct : Value) (us : List Value), us.length = [p0, p1, p2].length → bindArgs (PySem.W.fnOf x x args body sc .none kV doc pm an cdv ct) ⟨us, []⟩ = pure ([p0, p1, p2].zip us))
    (h : ∀ (cdv : Value) (A : Around) (outer : List Env) (s : Shared) (H : Hp) (E : XK), Room k (cxOf (L2.CX P w) P w K mg base N x sc (He.ga K x) cdv A outer s H E).A → ∀ (p q : Addr) (ks : List α) (rs : List β) (a : γ), JK (cxOf (L2.CX P w) P w K mg base N x sc (He.ga K x) cdv A outer s H E) K p q ks rs ([.im (prR p), .im (prR q), .im (rp K a)] ++ List.replicate (N.length - 3) .no) E body (f ks rs a)) : OkF P w K mg base x (k + 1) (spK3 K f) := by
  obtain ⟨fd, F⟩ := F
  exact ⟨_, fd, [p0, p1, p2], g, F.kp, mkCK3 F S h, F.bindsN hb⟩
section
variable {X : Cx} {K : Fg} {b : Bs} {L : List En} {E : XK} {e : Expr} {α β γ : Type} [Py α] [Py β] [Py γ] {pos pos0 : Pos} {ks : List α} {rs : List β}
theorem j1_callK {m : M γ} {f : List α → List β → γ → M (List α × List β)} {x y1 y2 : Str} {p pn1 pn2 : Pos} {k : Nat} (i j : Nat) (F : OkF X.prog X.w X.K X.mg X.base x k (spK3 K f)) (hr : Room k X.A) (hx : Passes (L2.CX X.prog X.w) X E) (h : JE X K b L E e m)
    (hi : L[i]? = some (.mu (ctL K ks)) := by rfl) (hj : L[j]? = some (.mu (ctL K rs)) := by rfl) (hij : i ≠ j := by decide) (hN1 : X.N[i]? = some y1 := by rfl) (hN2 : X.N[j]? = some y2 := by rfl)
    (hv1 : Vis X.env.scope y1 := by first | exact Or.inl rfl | exact Or.inr (Or.inl rfl) | exact Or.inr (Or.inr rfl)) (hv2 : Vis X.env.scope y2 := by first | exact Or.inl rfl | exact Or.inr (Or.inl rfl) | exact Or.inr (Or.inr rfl))
    (hd1 : (y1 == ("__debug__" : Str)) = false := by decide) (hcd1 : (y1 == ("__classdict__" : Str)) = false := by decide) (hd2 : (y2 == ("__debug__" : Str)) = false := by decide) (hcd2 : (y2 == ("__classdict__" : Str)) = false := by decide)
    (hg : Gl X x := by rfl) (hdb : (x == ("__debug__" : Str)) = false := by decide) (s0 : starEach [.Name y1 pn1, .Name y2 pn2, e] X.env = (false, eval (.Name y1 pn1) X.env) :: starEach [.Name y2 pn2, e] X.env := by rfl)
    (s1 : starEach [.Name y2 pn2, e] X.env = (false, eval (.Name y2 pn2) X.env) :: starEach [e] X.env := by rfl) (s2 : starEach [e] X.env = (false, eval e X.env) :: starEach [] X.env := by rfl) (hpl : (backTo pos0 (starEach [.Name y2 pn2, e] X.env)).any (·.1) = false := by rfl)
    (hs : swapsWith (.Call (.Name x p) [.Name y1 pn1, .Name y2 pn2, e] [] pos0) none pos.line X.env = pure false := by rfl) :
    J1 X K b L E (.Expr (.Call (.Name x p) [.Name y1 pn1, .Name y2 pn2, e] [] pos0) pos) (m >>= fun a => f ks rs a) (fun r => (L.set i (.mu (ctL K r.1))).set j (.mu (ctL K r.2))) :=
  ⟨fun σ Hi H en D hz => by
    obtain ⟨fa, fd, ps, F1, F2, F3, F4⟩ := F.ex
    obtain ⟨u, o, u1, u2, u3, u4, u5⟩ := en.mu i _ hi
    obtain ⟨w, o', w1, w2, w3, w4, w5⟩ := en.mu j _ hj
    refine PS.wp (ps_expr (pe_call F3 hr hg F1 F2 F4 .nil hx (pa_cons (pe_var hN1 hv1 hd1 hcd1) (pa_cons (pe_var hN2 hv2 hd2 hcd2) (pa_cons pe_wp pa_nil s2) s1) s0) hdb s0 hpl) hs) ?_
    refine ⟨_, u1, _, w1, h.go σ Hi H en _ ((PZ.bind en hz).imp fun a Hi1 H1 n1 z v rv => ?_)⟩
    have en1 := en.nx n1
    obtain ⟨u', o1, g1, g2, g3, g4, kvs, rfl, g5⟩ := en1.mu i _ hi
    rw [u1] at g1
    cases g1
    obtain ⟨w', o2, k1, k2, k3, k4, rvs, rfl, k5⟩ := en1.mu j _ hj
    rw [w1] at k1
    cases k1
    have ne : u ≠ w := fun y => hij (en1.dis i j _ _ u hi hj u1 (by rw [y]; exact w1))
    refine ⟨ks, rs, a, v, Hi1, u, w, kvs, rvs, rfl, en1.sub, ne, g3, k3, g2, k2, g5, k5, rv, ?_⟩
    cases hf : f ks rs a with
    | error y =>
      rw [hf] at z
      cases y with
      | rs c => exact fun Hi' H' o => z Hi' H' ⟨o.sub, en1.ok.base.trans o.base, fun a w' hn hb => o.fr a w' (fun y => by
          rcases List.mem_cons.mp y with y | y
          · subst y
            rcases g4 with y | y
            · exact hn y
            · rw [y] at hb; cases hb
          · have y := List.mem_singleton.mp y
            subst y
            rcases k4 with y | y
            · exact hn y
            · rw [y] at hb; cases hb) (en1.ok.fr a w' hn hb), fun a hb => o.keep a (en1.ok.keep a hb), fun a hb n => o.cap a (en1.ok.keep a hb) (en1.ok.cap a hb n)⟩
      | st => exact z
    | ok r =>
      rw [hf] at z
      exact fun Hi' H' kvs' rvs' o c1 c2 n1 n2 r1 r2 => z σ Hi' H' (en1.two hi hj hij u1 w1 o c1 r1 c2 r2 n1 n2)⟩
end
end G

set_option Elab.async false
set_option linter.all false
set_option maxRecDepth 100000
set_option maxHeartbeats 2000000
namespace G
open PySem L2 TL
section
variable {X : Cx} {K : Fg} {b : Bs} {L : List En} {E : XK} {pos p' p2 : Pos}
/-- another name for what a name stands for -/
theorem j1_alias (i j : Nat) {x y : Str} {P : Pr} (hN : X.N.Nodup) (hL : L[j]? = some (.im P) := by rfl) (hNj : X.N[j]? = some y := by rfl) (hv : Vis X.env.scope y := by first | exact Or.inl rfl | exact Or.inr (Or.inl rfl) | exact Or.inr (Or.inr rfl))
    (hd : (y == ("__debug__" : Str)) = false := by decide) (hcd : (y == ("__classdict__" : Str)) = false := by decide) (hi : X.N[i]? = some x := by rfl) (hx : Loc X.env.scope x := by first | exact Or.inl rfl | exact Or.inr rfl)
    (hs : swapsWith (.Name y p2) (some (.Name x p')) pos.line X.env = pure false := by rfl) (hf : X.fn x = true ∨ X.env.scope.names.lookup x = some .local := by first | exact .inl rfl | exact .inr rfl) :
    J1 X K b L E (.Assign [.Name x p'] (.Name y p2) pos) (pure ()) (fun _ => L.set i (.im P)) :=
  ⟨fun σ Hi H en D hz => by
    obtain ⟨v, h1, h2⟩ := en.im j _ hL
    refine PS.wp (ps_set hN hi hx (pe_var hNj hv hd hcd) hs hf) ⟨v, h1, ?_⟩
    exact (show ∀ σ' Hi' H', EnvOk b (L.set i (.im P)) σ' Hi' H' → D.nx σ' H' from hz) _ Hi H (en.set h2)⟩
end
end G

set_option Elab.async false
set_option linter.all false
set_option maxRecDepth 100000
set_option maxHeartbeats 2000000
namespace G
open PySem L2 TL
def replT (x y z : Tx) : M Tx := chk (x.length + (x.length + 1) * z.length ≤ 16777216) >>= fun _ => pure (Txt.replace (G.S x) (G.S y) (G.S z)).cps.toList
section
variable {X : Cx} {K : Fg} {b : Bs} {L : List En} {E : XK} {e : Expr} {te : TE} {α : Type} [Py α]
/-- x.join(e).replace(y, z) of written texts: the receiver's first sign lays the token -/
theorem pe_joinRepl {x y z : Str} {i j k : Nat} {cx c0 c1 ap p2 apos pos : Pos} (he : PE X e te) (hyz : (y == z) = false) 
    (hs : starEach [e] X.env = [(false, eval e X.env)]) (hbi : attributeBase (.Constant (.str x) i cx) "join" X.env (eval (.Constant (.str x) i cx) X.env) = eval (.Constant (.str x) i cx) X.env) (hli : (ap.endLine == p2.line) = true)
    (hst : starEach [.Constant (.str y) j c0, .Constant (.str z) k c1] X.env = [(false, eval (.Constant (.str y) j c0) X.env), (false, eval (.Constant (.str z) k c1) X.env)])
    (hbase : attributeBase (.Call (.Attribute (.Constant (.str x) i cx) "join" ap) [e] [] p2) "replace" X.env (eval (.Call (.Attribute (.Constant (.str x) i cx) "join" ap) [e] [] p2) X.env) = eval (.Call (.Attribute (.Constant (.str x) i cx) "join" ap) [e] [] p2) X.env) (hline : (apos.endLine == pos.line) = true) :
    PE X (.Call (.Attribute (.Call (.Attribute (.Constant (.str x) i cx) "join" ap) [e] [] p2) "replace" apos) [.Constant (.str y) j c0, .Constant (.str z) k c1] [] pos)
      (fun σ H Q => te σ H fun v H1 => rJoin X.K (.str x) [v] H1 fun u H2 => ∃ w, u = .str w ∧ w.length + (w.length + 1) * z.length ≤ 16777216 ∧ Q (.str (Txt.replace w y z)) H2) := by
  refine ⟨fun pins s σ H Q I h => ?_⟩
  have first : wpAny (model X.prog X.w) X.A (eval (.Call (.Attribute (.Constant (.str x) i cx) "join" ap) [e] [] p2) X.env)
      (fun v s' => s.toks + 1 ≤ s'.toks ∧ EP X pins σ (fun u H2 => ∃ w, u = .str w ∧ w.length + (w.length + 1) * z.length ≤ 16777216 ∧ Q (.str (Txt.replace w y z)) H2) v s') X.xe s := by
    refine PySem.Call_method1 hbi hs hli (Calls.Constant_str ?_)
    refine ⟨"str", _, PySem.F.plainAttrs_str, PySem.F.slot_str_join, PySem.F.type_str_join, typeIs_str _ _ _, (fun _ e => nomatch e), ?_⟩
    refine wpAny_mono (wpAny_toks (Q := EP X pins σ (fun u H2 => ∃ w, u = .str w ∧ w.length + (w.length + 1) * z.length ≤ 16777216 ∧ Q (.str (Txt.replace w y z)) H2)) (E := X.xe) ?_) (fun _ _ q => q) fun _ _ q => q.2
    refine Calls.callWith_builtin rfl (Calls.evalArgs_plain (Calls.spliced_cons ?_))
    exact thn (he.run pins _ σ H _ (I.tok _) h) fun u s2 ⟨y1, H2, I2, r2, q2⟩ => Calls.spliced_nil (mt_join pins s2 σ H2 (.str x) [y1] _ [u] _ I2 ⟨s.toks, rfl⟩ (.cons r2 .nil) q2)
  refine PySem.Call_method2 hbase hst hline (wpAny_mono first (fun v s1 q => ?_) fun _ _ z => z)
  obtain ⟨hk, v', H1, I1, r1, w, e1, hb, q⟩ := q
  subst e1
  obtain ⟨tw, e2⟩ := r1
  subst e2
  refine ⟨"str", _, PySem.F.plainAttrs_str, PySem.F.slot_str_replace, PySem.F.type_str_replace, typeIs_str _ _ _, (fun _ e => nomatch e), Calls.callWith_builtin rfl (Calls.evalArgs_plain (Calls.spliced_cons ?_))⟩
  refine Calls.Constant_str (Calls.spliced_cons (Calls.Constant_str (Calls.spliced_nil ?_)))
  exact PySem.SC.replace (by show s1.toks ≠ 0; omega) (by show s1.toks + 1 ≠ 0; omega) (by show s1.toks ≠ s1.toks + 1; omega) hyz hb fun t' k => ⟨.str (Txt.replace w y z), H1, I1.tok k, ⟨t', rfl⟩, q⟩
theorem je_joinRepl {x y z : String} {i j k : Nat} {cx c0 c1 ap p2 apos pos : Pos} {f : Tx → α → M Tx} {m : M α} (hr : ∀ E, RM1 K E (rJoin K) f) (he : JE X K b L E e m) (hyz : (Str.ofString y == Str.ofString z) = false := by decide +kernel) (hK : X.K = K := by rfl)
    (hs : starEach [e] X.env = [(false, eval e X.env)] := by rfl) (hbi : attributeBase (.Constant (.str (Str.ofString x)) i cx) "join" X.env (eval (.Constant (.str (Str.ofString x)) i cx) X.env) = eval (.Constant (.str (Str.ofString x)) i cx) X.env := by rfl) (hli : (ap.endLine == p2.line) = true := by rfl)
    (hst : starEach [.Constant (.str (Str.ofString y)) j c0, .Constant (.str (Str.ofString z)) k c1] X.env = [(false, eval (.Constant (.str (Str.ofString y)) j c0) X.env), (false, eval (.Constant (.str (Str.ofString z)) k c1) X.env)] := by rfl)
    (hbase : attributeBase (.Call (.Attribute (.Constant (.str (Str.ofString x)) i cx) "join" ap) [e] [] p2) "replace" X.env (eval (.Call (.Attribute (.Constant (.str (Str.ofString x)) i cx) "join" ap) [e] [] p2) X.env) = eval (.Call (.Attribute (.Constant (.str (Str.ofString x)) i cx) "join" ap) [e] [] p2) X.env := by rfl) (hline : (apos.endLine == pos.line) = true := by rfl) :
    JE X K b L E (.Call (.Attribute (.Call (.Attribute (.Constant (.str (Str.ofString x)) i cx) "join" ap) [e] [] p2) "replace" apos) [.Constant (.str (Str.ofString y)) j c0, .Constant (.str (Str.ofString z)) k c1] [] pos)
      (m >>= fun v => f (tx x) v >>= fun w => replT w (tx y) (tx z)) := by
  subst hK
  obtain ⟨t, d, p⟩ := he.ex
  refine .of ⟨_, pe_joinRepl d hyz hs hbi hli hst hbase hline, fun σ Hi H en Q hq => p σ Hi H en _ (hq.bind.imp fun v Hi1 H1 n1 q u ru => ?_)⟩
  refine hr E (tx x) v _ u Hi1 H1 _ n1.sub (congrArg V.str (S_tx x).symm) ru (q.bind.imp fun w Hi2 H2 n2 q2 u2 r2 => ?_)
  have r2 : u2 = .str (G.S w) := r2
  subst r2
  obtain ⟨c, q2⟩ := PX.chk q2
  refine ⟨_, rfl, ?_, q2.here n2.sub _ ?_⟩
  · rw [S_length, ← S_tx, S_length]; exact c
  · rw [S_tx, S_tx]; rfl
end
end G

set_option Elab.async false
set_option linter.all false
set_option maxRecDepth 100000
set_option maxHeartbeats 2000000
namespace G
open PySem L2 TL
structure T5 (α β γ δ ε : Type) where
  a : α
  b : β
  c : γ
  d : δ
  e : ε
  deriving DecidableEq
instance instPyT5 {α β γ δ ε : Type} [Py α] [Py β] [Py γ] [Py δ] [Py ε] : Py (T5 α β γ δ ε) := ⟨fun K H x v => ∃ p v1 v2 v3 v4 v5, v = .ref p ∧ SqT K H p [v1, v2, v3, v4, v5] ∧ Py.rep K H x.a v1 ∧ Py.rep K H x.b v2 ∧ Py.rep K H x.c v3 ∧ Py.rep K H x.d v4 ∧ Py.rep K H x.e v5,
  fun e ⟨p, v1, v2, v3, v4, v5, h1, h2, h3, h4, h5, h6, h7⟩ => ⟨p, v1, v2, v3, v4, v5, h1, sqt_mono e h2, Py.mono e h3, Py.mono e h4, Py.mono e h5, Py.mono e h6, Py.mono e h7⟩⟩
section
variable {X : Cx} {K : Fg} {b : Bs} {L : List En} {E : XK} {e e1 e2 e3 e4 e5 : Expr} {α β γ δ ε : Type} [Py α] [Py β] [Py γ] [Py δ] [Py ε] {m1 : M α} {m2 : M β} {m3 : M γ} {m4 : M δ} {m5 : M ε} {pos : Pos}
theorem je_quad (h1 : JE X K b L E e1 m1) (h2 : JE X K b L E e2 m2) (h3 : JE X K b L E e3 m3) (h4 : JE X K b L E e4 m4) (hs : starEach [e1, e2, e3, e4] X.env = (false, eval e1 X.env) :: starEach [e2, e3, e4] X.env := by rfl)
    (hs2 : starEach [e2, e3, e4] X.env = (false, eval e2 X.env) :: starEach [e3, e4] X.env := by rfl) (hs3 : starEach [e3, e4] X.env = (false, eval e3 X.env) :: starEach [e4] X.env := by rfl) (hs4 : starEach [e4] X.env = (false, eval e4 X.env) :: starEach [] X.env := by rfl) :
    JE X K b L E (.Tuple [e1, e2, e3, e4] x1 pos) (m1 >>= fun x => m2 >>= fun y => m3 >>= fun z => m4 >>= fun u => pure (T4.mk x y z u)) := by
  obtain ⟨t1, d1, p1⟩ := h1.ex
  obtain ⟨t2, d2, p2⟩ := h2.ex
  obtain ⟨t3, d3, p3⟩ := h3.ex
  obtain ⟨t4, d4, p4⟩ := h4.ex
  refine .of ⟨tTup (tCons t1 (tCons t2 (tCons t3 (tCons t4 tNil)))), pe_tup (pa_cons d1 (pa_cons d2 (pa_cons d3 (pa_cons d4 pa_nil hs4) hs3) hs2) hs), fun σ Hi H en Q h => p1 σ Hi H en _ (h.bind.imp fun x Hi1 H1 n1 k v rv => p2 σ Hi1 H1 (en.nx n1) _
    (k.bind.imp fun y Hi2 H2 n2 k2 w rw => p3 σ Hi2 H2 ((en.nx n1).nx n2) _ (k2.bind.imp fun z Hi3 H3 n3 k3 u ru => p4 σ Hi3 H3 (((en.nx n1).nx n2).nx n3) _ (k3.bind.imp fun z4 Hi4 H4 n4 k4 u4 ru4 => ⟨by show 4 ≤ sizeLine; decide, fun q hq => ?_⟩))))⟩
  have sm := same_new (o := .tup [v, w, u, u4]) (hi_none n4.sub hq)
  exact k4.go (Nx.new n4.sub hq) _ ⟨q, v, w, u, u4, rfl, .of upd_same, Py.mono (((n2.im.trans n3.im).trans n4.im).trans sm) rv, Py.mono ((n3.im.trans n4.im).trans sm) rw, Py.mono (n4.im.trans sm) ru, Py.mono sm ru4⟩
theorem je_quin (h1 : JE X K b L E e1 m1) (h2 : JE X K b L E e2 m2) (h3 : JE X K b L E e3 m3) (h4 : JE X K b L E e4 m4) (h5 : JE X K b L E e5 m5) (hs : starEach [e1, e2, e3, e4, e5] X.env = (false, eval e1 X.env) :: starEach [e2, e3, e4, e5] X.env := by rfl)
    (hs2 : starEach [e2, e3, e4, e5] X.env = (false, eval e2 X.env) :: starEach [e3, e4, e5] X.env := by rfl) (hs3 : starEach [e3, e4, e5] X.env = (false, eval e3 X.env) :: starEach [e4, e5] X.env := by rfl) (hs4 : starEach [e4, e5] X.env = (false, eval e4 X.env) :: starEach [e5] X.env := by rfl) (hs5 : starEach [e5] X.env = (false, eval e5 X.env) :: starEach [] X.env := by rfl) :
    JE X K b L E (.Tuple [e1, e2, e3, e4, e5] x1 pos) (m1 >>= fun x => m2 >>= fun y => m3 >>= fun z => m4 >>= fun u => m5 >>= fun w => pure (T5.mk x y z u w)) := by
  obtain ⟨t1, d1, p1⟩ := h1.ex
  obtain ⟨t2, d2, p2⟩ := h2.ex
  obtain ⟨t3, d3, p3⟩ := h3.ex
  obtain ⟨t4, d4, p4⟩ := h4.ex
  obtain ⟨t5, d5, p5⟩ := h5.ex
  refine .of ⟨tTup (tCons t1 (tCons t2 (tCons t3 (tCons t4 (tCons t5 tNil))))), pe_tup (pa_cons d1 (pa_cons d2 (pa_cons d3 (pa_cons d4 (pa_cons d5 pa_nil hs5) hs4) hs3) hs2) hs), fun σ Hi H en Q h => p1 σ Hi H en _ (h.bind.imp fun x Hi1 H1 n1 k v rv => p2 σ Hi1 H1 (en.nx n1) _
    (k.bind.imp fun y Hi2 H2 n2 k2 w rw => p3 σ Hi2 H2 ((en.nx n1).nx n2) _ (k2.bind.imp fun z Hi3 H3 n3 k3 u ru => p4 σ Hi3 H3 (((en.nx n1).nx n2).nx n3) _ (k3.bind.imp fun z4 Hi4 H4 n4 k4 u4 ru4 => p5 σ Hi4 H4 ((((en.nx n1).nx n2).nx n3).nx n4) _ (k4.bind.imp fun z5 Hi5 H5 n5 k5 u5 ru5 => ⟨by show 5 ≤ sizeLine; decide, fun q hq => ?_⟩)))))⟩
  have sm := same_new (o := .tup [v, w, u, u4, u5]) (hi_none n5.sub hq)
  exact k5.go (Nx.new n5.sub hq) _ ⟨q, v, w, u, u4, u5, rfl, .of upd_same, Py.mono ((((n2.im.trans n3.im).trans n4.im).trans n5.im).trans sm) rv, Py.mono (((n3.im.trans n4.im).trans n5.im).trans sm) rw, Py.mono ((n4.im.trans n5.im).trans sm) ru, Py.mono (n5.im.trans sm) ru4, Py.mono sm ru5⟩
/-- a place of a tuple of unlike things -/
def At (α β : Type) [Py α] [Py β] (i : Nat) (g : α → β) : Prop := ∀ (K : Fg) (H : Hp) (x : α) (v : V), Py.rep K H x v → ∃ p vs u, v = .ref p ∧ SqT K H p vs ∧ atI vs (i : Int) = some u ∧ Py.rep K H (g x) u
theorem at_q0 : At (T4 α β γ δ) α 0 T4.a := fun K H x v ⟨p, v1, v2, v3, v4, h1, h2, h3, h4, h5, h6⟩ => ⟨p, _, v1, h1, h2, rfl, h3⟩
theorem at_q1 : At (T4 α β γ δ) β 1 T4.b := fun K H x v ⟨p, v1, v2, v3, v4, h1, h2, h3, h4, h5, h6⟩ => ⟨p, _, v2, h1, h2, rfl, h4⟩
theorem at_q2 : At (T4 α β γ δ) γ 2 T4.c := fun K H x v ⟨p, v1, v2, v3, v4, h1, h2, h3, h4, h5, h6⟩ => ⟨p, _, v3, h1, h2, rfl, h5⟩
theorem at_q3 : At (T4 α β γ δ) δ 3 T4.d := fun K H x v ⟨p, v1, v2, v3, v4, h1, h2, h3, h4, h5, h6⟩ => ⟨p, _, v4, h1, h2, rfl, h6⟩
theorem at_v0 : At (T5 α β γ δ ε) α 0 T5.a := fun K H x v ⟨p, v1, v2, v3, v4, v5, h1, h2, h3, h4, h5, h6, h7⟩ => ⟨p, _, v1, h1, h2, rfl, h3⟩
theorem at_v1 : At (T5 α β γ δ ε) β 1 T5.b := fun K H x v ⟨p, v1, v2, v3, v4, v5, h1, h2, h3, h4, h5, h6, h7⟩ => ⟨p, _, v2, h1, h2, rfl, h4⟩
theorem at_v2 : At (T5 α β γ δ ε) γ 2 T5.c := fun K H x v ⟨p, v1, v2, v3, v4, v5, h1, h2, h3, h4, h5, h6, h7⟩ => ⟨p, _, v3, h1, h2, rfl, h5⟩
theorem at_v3 : At (T5 α β γ δ ε) δ 3 T5.d := fun K H x v ⟨p, v1, v2, v3, v4, v5, h1, h2, h3, h4, h5, h6, h7⟩ => ⟨p, _, v4, h1, h2, rfl, h6⟩
theorem at_v4 : At (T5 α β γ δ ε) ε 4 T5.e := fun K H x v ⟨p, v1, v2, v3, v4, v5, h1, h2, h3, h4, h5, h6, h7⟩ => ⟨p, _, v5, h1, h2, rfl, h7⟩
theorem je_at {m : M α} {g : α → β} {i j : Nat} {p2 : Pos} (a : At α β i g) (h : JE X K b L E e m) (hK : X.K = K := by rfl) : JE X K b L E (.Subscript e (.Constant (.int (i : Int)) j p2) pos) (m >>= fun x => (pure (g x) : M β)) := by
  obtain ⟨t, d, p⟩ := h.ex
  refine .of ⟨tOp (rIxT K) t (tC (.int i)), pe_ix (by rw [← hK]; exact ix_tup) d pe_int (fun _ _ => rfl), fun σ Hi H en Q h => p σ Hi H en _ (h.bind.imp fun x Hi1 H1 n1 k v rv => ?_)⟩
  obtain ⟨q, vs, u, rfl, g1, g2, g3⟩ := a K Hi1 x v rv
  exact ⟨q, _, i, u, rfl, rfl, sqt_mono n1.sub g1, g2, k.here n1.sub _ g3⟩
/-- list(t) of a triple of like things -/
theorem ra_lst3 (hK : X.K = K := by rfl) : RA1 K E (fun xs H Q => ∃ p ys, xs = [.ref p] ∧ (SqL X.K H p ys ∨ SqT X.K H p ys) ∧ ∀ l, H l = none → Q (.ref l) (upd H l (.lst ys))) (fun x : T3 α α α => (pure [x.a, x.b, x.c] : M (List α))) := by
  subst hK
  rintro x v Hi H Q s ⟨p, v1, v2, v3, rfl, h2, h3, h4, h5⟩ h
  exact ⟨p, _, rfl, .inr (sqt_mono s h2), fun r hr => PX.go (a := [x.a, x.b, x.c]) h (Nx.new s hr) _ ⟨r, _, rfl, .of upd_same, Rl.mono (xs := [x.a, x.b, x.c]) (same_new (hi_none s hr)) (Paired.cons h3 (Paired.cons h4 (Paired.cons h5 Paired.nil)))⟩⟩
end
end G

set_option Elab.async false
set_option linter.all false
set_option maxRecDepth 100000
set_option maxHeartbeats 2000000
namespace G
open PySem L2 TL
section
variable {X : Cx} {K : Fg} {b : Bs} {L : List En} {E : XK} {e e1 e2 : Expr} {α β γ δ : Type} [Py α] [Py β] [Py γ] {pos : Pos}
/-- t + u of tuples -/
def catU (xs ys : Tup α) : M (Tup α) := chk (List.length (α := α) xs + List.length (α := α) ys ≤ SZ) >>= fun _ => (pure (show List α from (show List α from xs) ++ (show List α from ys)) : M (Tup α))
theorem rl_nil {H : Hp} {vs : List V} (h : Rl K H ([] : List α) vs) : vs = [] := by cases h; rfl
theorem rl_nil2 {H : Hp} {xs : List α} (h : Rl K H xs []) : xs = [] := by cases h; rfl
theorem ro_catU (hK : X.K = K := by rfl) : RO K E (rCatA X.K) (catU (α := α)) := by
  subst hK
  rintro xs ys v w Hi H Q s ⟨p, vs, rfl, h1, h2⟩ ⟨q, ws, rfl, g1, g2⟩ h
  obtain ⟨c, h⟩ := PX.chk h
  refine ⟨p, q, vs, ws, rfl, rfl, sqt_mono s h1, sqt_mono s g1, by rw [← h2.length, ← g2.length]; exact c, fun e => ?_, fun _ e => ?_, fun _ _ r hr => ?_⟩
  · subst e
    have e2 := rl_nil2 h2
    exact PX.here (α := Tup α) h s _ ⟨q, ws, rfl, g1, by rw [e2]; exact g2⟩
  · subst e
    have e2 := rl_nil2 g2
    exact PX.here (α := Tup α) h s _ ⟨p, vs, rfl, h1, by rw [e2]; show Rl X.K Hi (List.append xs []) vs; rw [show List.append xs [] = xs from List.append_nil xs]; exact h2⟩
  · exact PX.go (α := Tup α) h (Nx.new s hr) _ ⟨r, _, rfl, .of upd_same, (h2.app g2).mono (same_new (hi_none s hr))⟩
/-! a tuple of like things is a tuple of any many -/
theorem co_t3U : ∀ (H : Hp) (x : T3 α α α) (v : V), Py.rep K H x v → Py.rep K H (show Tup α from [x.a, x.b, x.c]) v := fun H x v ⟨p, v1, v2, v3, h1, h2, h3, h4, h5⟩ => ⟨p, _, h1, h2, .cons h3 (.cons h4 (.cons h5 .nil))⟩
theorem co_pU : ∀ (H : Hp) (x : α × α) (v : V), Py.rep K H x v → Py.rep K H (show Tup α from [x.1, x.2]) v := fun H x v ⟨p, v1, v2, h1, h2, h3, h4⟩ => ⟨p, _, h1, h2, .cons h3 (.cons h4 .nil)⟩
theorem co_list {g : α → β} (hg : ∀ (H : Hp) (x : α) (v : V), Py.rep K H x v → Py.rep K H (g x) v) : ∀ (H : Hp) (xs : List α) (v : V), Py.rep K H xs v → Py.rep K H (xs.map g) v := by
  rintro H xs v ⟨p, vs, h1, h2, h3⟩
  refine ⟨p, vs, h1, h2, ?_⟩
  clear h1 h2
  induction h3 with
  | nil => exact .nil
  | cons r _ ih => exact .cons (hg H _ _ r) ih
/-- list(x) of a list that a name holds, held -/
theorem jf_listM {xs : List α} {p2 pn : Pos} {x : Str} {mg : Str → Option Value} (i : Nat) (hm : mg "list" = none) (hL : L[i]? = some (.mu (ctL K xs)) := by rfl) (hN : X.N[i]? = some x := by rfl) (hv : Vis X.env.scope x := by first | exact Or.inl rfl | exact Or.inr (Or.inl rfl) | exact Or.inr (Or.inr rfl))
    (hd : (x == ("__debug__" : Str)) = false := by decide) (hcd : (x == ("__classdict__" : Str)) = false := by decide) (hK : X.K = K := by rfl) (hM : X.mg = mg := by rfl) (hg : Gl X "list" := by rfl)
    (he : starEach [.Name x pn] X.env = (false, eval (.Name x pn) X.env) :: starEach [] X.env := by rfl) (hpl : (backTo pos (starEach [] X.env)).any (·.1) = false := by rfl) :
    JF X K b L E (.Call (.Name "list" p2) [.Name x pn] [] pos) (ctL K) (pure xs : M (List α)) := by
  subst hK
  refine ⟨fun σ Hi H en Q hq => ?_⟩
  obtain ⟨p, vs, h1, h2, r⟩ := en.muL hL
  refine PE.wp (pe_callTy call_list_of hg (by rw [hM]; exact hm) bt_list (pa_cons (pe_var hN hv hd hcd) pa_nil he) (by decide) (by decide) he hpl) ⟨_, h1, p, vs, rfl, .inl (SqL.of h2), fun r' hr => ?_⟩
  exact (PX.go (a := xs) hq (Nx.temp en.sub hr)) r' _ upd_same hr (hi_none en.sub hr) ⟨_, rfl, r⟩
/-! a text within a text -/
def inG (x t : Tx) : Bool := !(Builtin.Str.occurrences (G.S t) (G.S x) 0 (G.S t).length 1).isEmpty
theorem ro_inG : RO K E (fun x y H Q => ∃ i j, x = .str i ∧ y = .str j ∧ Q (.bl (!(Builtin.Str.occurrences j i 0 j.length 1).isEmpty)) H) (fun x t : Tx => (pure (inG x t) : M Bool)) := by
  rintro x t v w Hi H Q s rfl rfl h
  exact ⟨G.S x, G.S t, rfl, rfl, h.here s _ rfl⟩
theorem ra_max2 : RA2 K E (fun xs H Q => ∃ i j, xs = [.int i, .int j] ∧ Q (.int (if j > i then j else i)) H) (fun i j : Int => (pure (if j > i then j else i) : M Int)) := by
  rintro i j v w Hi H Q s rfl rfl h
  exact ⟨i, j, rfl, h.here s _ rfl⟩
end
end G

set_option Elab.async false
set_option linter.all false
set_option maxRecDepth 100000
set_option maxHeartbeats 2000000
namespace G
open PySem L2 TL PySem.Spec PyProof.Rows
/-! ### texts with their tokens: a def of one text that replaces, by a for over written texts -/
section
variable {X : Cx} {pins : List (Addr × Obj)} {σ : L2.St} {H : Hp} {s : Shared}
/-- a local name has been put: the caller says what now stands in the frame -/
theorem inv_put (I : Inv X pins σ H s) (nd : X.N.Nodup) {i : Nat} {x : Str} (hi : X.N[i]? = some x) (hk : X.env.kindOf x = some .local) {v : V} {u : Value} (r : RelV v u) {m : Str → Option Value} (hn : s.heap.Ns X.env.locals m) {h' : Heap} {tk : Nat}
    (hn' : h'.Ns X.env.locals (fun y => if y = x then some u else m y)) (sb : Heap.SameBut X.env.locals s.heap h') : Inv X pins (σ.set i (some v)) H { s with heap := h', toks := tk } := by
  obtain ⟨m0, n0, look⟩ := id I.loc
  have em : ∀ y, m0 y = m y := fun y => n0.agree hn y
  have big : ∀ {b : Addr} {o : Obj}, X.s_0.heap.get? b = some o → b ≠ X.env.locals := fun {b o} e z => Nat.lt_irrefl b (Nat.lt_of_lt_of_le (Heap.lt_size e) (by rw [z]; exact I.ok.above))
  have st : ∀ {b : Addr} {o : Obj}, b ≠ X.env.locals → s.heap.get? b = some o → h'.get? b = some o := fun {b o} n e => (sb.2 b n).trans e
  have cl : ∀ {y : Str} {c : Addr}, X.env.cells.lookup y = some c → c ≠ X.env.locals := fun {y c} e => I.cne y c e
  exact {
    ok := I.ok
    os := I.os
    bare := I.bare
    free := I.free
    freeC := I.freeC
    len := (List.length_set ..).trans I.len
    cell := fun y c e => by
      obtain ⟨w, hw⟩ := I.cell y c e
      exact ⟨w, hw.sameBut sb (cl e)⟩
    pin := fun p hp => by
      have q := I.pin p hp
      exact ⟨st q.2.2.1 q.1, q.2⟩
    hok := fun b ob e => by
      refine (I.hok b ob e).stay (fun c w hc q => st (fun z => ?_) q) (fun _ q => q) (fun _ _ q => q)
      have f : H c = none := by rw [z]; exact I.free
      rcases hc with hc | hc
      · rw [hc, e] at f; cases f
      · rw [hc] at f; cases f
    base := {
      keep := fun b o e n hb hx => st (big e) (I.base.keep b o e n hb hx)
      slot := fun b o e n hb hx => by
        obtain ⟨sl, q⟩ := I.base.slot b o e n hb hx
        exact ⟨sl, st (big e) q⟩
      free := I.base.free
      there := fun b o e hx => by
        obtain ⟨o', q⟩ := I.base.there b o e hx
        exact ⟨o', st (big e) q⟩
      tups := I.base.tups
      frzs := I.base.frzs
      tbls := I.base.tbls }
    loc := by
      refine ⟨_, hn', fun j y w e1 e2 vis => ?_⟩
      by_cases hj : j = i
      · rw [hj] at e1 e2
        have ey : x = y := Option.some.inj (hi.symm.trans e1)
        have hl : i < σ.length := by rw [I.len]; exact (List.getElem?_eq_some_iff.mp hi).1
        rw [List.getElem?_set_self hl] at e2
        have ev : v = w := Option.some.inj (Option.some.inj e2)
        rw [← ey, ← ev]
        exact ⟨u, r, .inl ⟨hk, if_pos rfl⟩⟩
      · rw [List.getElem?_set_ne (fun z => hj z.symm)] at e2
        obtain ⟨u', r', q⟩ := look j y w e1 e2 vis
        refine ⟨u', r', ?_⟩
        rcases q with ⟨k, q⟩ | ⟨k, c, e, q⟩
        · have ne : y ≠ x := fun z => hj (nodup_ix nd e1 (z ▸ hi))
          exact .inl ⟨k, (if_neg ne).trans ((em y).symm.trans q)⟩
        · exact .inr ⟨k, c, e, q.sameBut sb (cl e)⟩ }
end
/-- a def of one name: its frame is laid with a token, so its body may lean on one -/
theorem okT1 {P : Program} {w : World} {K : Fg} {mg : Str → Option Value} {base : Heap} {CX : CXT} {N : List Str} {p0 x : Str} {k : Nat} {sp : Sp} {params : Arguments} {body : List Stmt} {scope : Scope} {f : Addr} {fd : FuncData}
    (F : FunD K x x params body scope [] [] f fd) (S : FnScope N [p0] scope) (nc : ∀ y ∈ scope.names, y.2 ≠ .cell) (hl : scope.names.lookup p0 = some .local) (hcs : ∀ n, cellsFrom n scope.names [] = [])
    (len : ∀ vs H Q E, sp vs H Q E → vs.length = [p0].length)
    (hbody : ∀ (cdv : Value) (A : Around) (outer : List Env) (s : Shared) (H : Hp) (vs : List V) (Q : VK) (E : XK), Room k (A.deeper (envOfC x scope s.heap.objs.size f cdv)) → sp vs H Q E →
      ∃ t, PSsT (cxOf CX P w K mg base N x scope f cdv A outer s H E) body t ∧ t { nx := fun _ H' => Q .non H', rt := Q } (L2.start N vs) H) : FnOk P w K mg base CX (k + 1) f fd [p0] sp := by
  obtain ⟨oc, od, dV, kV, doc, pm, an, cdv, ct, osl, rfl, lk, hcd, _, _⟩ := F.ex
  refine ⟨len, fun A outer s H args us vs Q E hr e0 hb r hsp => ?_⟩
  have hv := len _ _ _ _ hsp
  have hu : us.length = 1 := by rw [← r.length]; exact hv
  have lim : s.heap.NoLimit := e0.mod.nolimit.keeps fun b o e => (e0.bs b o e).1
  match us, hu with
  | [u0], _ =>
  refine codeAny_call_function hr.depth ((e0.mod.kin.keeps fun b o e => (e0.bs b o e).1) _ _ lk) rfl S.co S.gen rfl (PySem.W.codeRec_of (e0.mod.kin.keeps fun b o e => (e0.bs b o e).1) hcd) (hb _ _ _ _ ?_)
  refine wpAny_newFunctionEnv nc (fun y hy => ?_) (fun h' hns hsb => ?_) S.kind
  · have ey : y = (p0, u0) := by simpa using hy
    rw [ey]; exact hl
  have kp : ∀ b o, s.heap.get? b = some o → h'.get? b = some o := fun b o e =>
    (hsb.2 b (Nat.ne_of_lt (Heap.lt_size e))).trans (Heap.get?_push_of_some _ e)
  have ee : newEnv scope s.heap.objs.size mainGlobals [] (x ++ ".<locals>.") (some f) cdv none builtinsNs = envOfC x scope s.heap.objs.size f cdv := by
    unfold envOfC newEnv
    rw [hcs]
  have ic : InCallC s s.heap.objs.size (bindL (envOfC x scope s.heap.objs.size f cdv).kindOf ([p0].zip [u0]) fun _ => none) (cellsFrom (s.heap.objs.size + 1) scope.names []) (bindC (envOfC x scope s.heap.objs.size f cdv).kindOf ([p0].zip [u0]) fun _ => none) { s with heap := h', toks := s.toks + 1 } := by
    rw [hcs]
    refine ⟨⟨⟨h', s.toks + 1, rfl⟩, ?_, kp, Nat.le_refl _⟩, fun n c e => (nomatch e), List.Pairwise.nil, fun n c e => (nomatch e)⟩
    obtain ⟨o, es, ep, a1, a2, a3, a4⟩ := hns
    refine ⟨o, es, ep, a1, a2, a3, fun name => (a4 name).trans ?_⟩
    show List.lookup name [(p0, u0)] = (if scope.names.lookup p0 = some .local then fun y => if y = p0 then some u0 else none else fun _ => none) name
    rw [if_pos hl]
    show (match name == p0 with | true => some u0 | false => none) = if name = p0 then some u0 else none
    by_cases hh : name = p0
    · rw [if_pos hh, hh]; simp
    · rw [if_neg hh, beq_false_of_ne hh]
  rw [show (newEnv scope s.heap.objs.size mainGlobals [] (x ++ ".<locals>.") (some f) cdv none builtinsNs) = envOfC x scope s.heap.objs.size f cdv from ee]
  refine ⟨lim.keeps kp, codeAny_func ?_⟩
  obtain ⟨t, ht, hq⟩ := hbody cdv A outer s H vs Q E (hr.deeper _) hsp
  have I : Inv (cxOf CX P w K mg base N x scope f cdv A outer s H E) [] (L2.start N vs) H { s with heap := h', toks := s.toks + 1 } := inv_start S hr.hd e0 hv r ic
  refine wpAny_mono (ht [] _ (L2.start N vs) H _ (Nat.le_add_left 1 s.toks) I hq) (fun fl s' hs => ?_) fun _ _ hs => hs
  cases fl with
  | ret u =>
    obtain ⟨v, _, H', J, rv, q⟩ := hs
    exact ⟨v, H', J.os, J.bare, J.base, J.hok, rv, q⟩
  | next =>
    obtain ⟨_, H', J, q⟩ := hs
    exact ⟨V.non, H', J.os, J.bare, J.base, J.hok, rfl, q⟩
  | brk =>
    obtain ⟨_, _, _, q⟩ := hs
    exact q.elim
  | cont =>
    obtain ⟨_, _, _, q⟩ := hs
    exact q.elim
/-! the loop: for x in [c, ..]: y = y.replace(x + z, x) -/
def sgStep (z l c : Str) : Str := Txt.replace l (c ++ z) c
def sgAll (z : Str) (l : Str) (cs : List Str) : Str := cs.foldl (sgStep z) l
def SgFit (z : Str) : Str → List Str → Prop
  | _, [] => True
  | l, c :: r => l.length + (l.length + 1) * c.length ≤ 16777216 ∧ SgFit z (sgStep z l c) r
section
variable {X : Cx} {pins : List (Addr × Obj)} {σ : L2.St} {H : Hp} {s : Shared}
/-- one turn's body, the frame known -/
theorem sg_body {ix iy : Nat} {x y z c l : Str} {t : Tok} {jz : Nat} {q1 q2 q3 q4 q5 q6 ap cp sp : Pos} {m : Str → Option Value} {Q : Flow → Shared → Prop} (I : Inv X pins σ H s) (nd : X.N.Nodup) (hix : X.N[ix]? = some x) (hiy : X.N[iy]? = some y)
    (hkx : X.env.kindOf x = some .local) (hky : X.env.kindOf y = some .local) (hvy : Vis X.env.scope y) (dx : (x == ("__debug__" : Str)) = false) (dy : (y == ("__debug__" : Str)) = false) (cy : (y == ("__classdict__" : Str)) = false)
    (hn : s.heap.Ns X.env.locals m) (hmx : m x = some (.str c t)) (t0 : t ≠ 0) (t1 : @LT.lt Nat _ t s.toks) (hy : σ[iy]? = some (some (.str l))) (c0 : c.length ≠ 0) (z0 : z.length ≠ 0) (hcz : c.length + z.length ≤ sizeLine) (ne : ((c ++ z) == c) = false)
    (fit : l.length + (l.length + 1) * c.length ≤ 16777216)
    (hst : starEach [.BinOp (.Name x q1) .Add (.Constant (.str z) jz q2) q3, .Name x q4] X.env = [(false, eval (.BinOp (.Name x q1) .Add (.Constant (.str z) jz q2) q3) X.env), (false, eval (.Name x q4) X.env)])
    (hbase : attributeBase (.Name y q5) "replace" X.env (eval (.Name y q5) X.env) = eval (.Name y q5) X.env) (hline : (ap.endLine == cp.line) = true)
    (hsw : swapsWith (.Call (.Attribute (.Name y q5) "replace" ap) [.BinOp (.Name x q1) .Add (.Constant (.str z) jz q2) q3, .Name x q4] [] cp) (some (.Name y q6)) sp.line X.env = pure false)
    (fin : ∀ (h' : Heap) (k : Nat), s.toks ≤ k → Inv X pins (σ.set iy (some (.str (sgStep z l c)))) H { s with heap := h', toks := k } → Heap.SameBut X.env.locals s.heap h' → Q .next { s with heap := h', toks := k }) :
    wpAny (model X.prog X.w) X.A (execs [.Assign [.Name y q6] (.Call (.Attribute (.Name y q5) "replace" ap) [.BinOp (.Name x q1) .Add (.Constant (.str z) jz q2) q3, .Name x q4] [] cp) sp] X.env) Q X.xe s := by
  have noc : (X.env.scope.kind == .class || (X.env.scope.kind == .module && X.env.locals != X.env.globals)) = false := by rw [I.ok.kind]; rfl
  refine PySem.wpAny_with_toks (n := s.toks) (Nat.le_refl _) ?_
  refine wpAny_execs_cons (wpAny_Assign_Name (PySem.Call_method2 hbase hst hline (raw_name hiy hvy I hy (fun v r => ?_) dy cy)) hsw)
  obtain ⟨tl, e⟩ := r
  subst e
  refine ⟨"str", _, PySem.F.plainAttrs_str, PySem.F.slot_str_replace, PySem.F.type_str_replace, typeIs_str _ _ _, (fun _ e => nomatch e), Calls.callWith_builtin rfl (Calls.evalArgs_plain (Calls.spliced_cons ?_))⟩
  refine wpAny_BinOp (wpAny_Name (wpAny_loadName_local I.ok.kind hkx hn hmx (Calls.Constant_str ?_)) dx)
  refine PySem.P.add_str ?_
  rw [if_neg (by simpa using c0), if_neg (by simpa using z0)]
  refine ⟨by rw [size_cat]; exact hcz, ?_⟩
  refine Calls.spliced_cons (wpAny_Name (wpAny_loadName_local (s := { s with toks := s.toks + 1 + 1 }) I.ok.kind hkx hn hmx (Calls.spliced_nil ?_)) dx)
  refine PySem.SC.replace (by show s.toks + 1 ≠ 0; omega) t0 (fun e => by have e : s.toks + 1 = t := e; rw [← e] at t1; omega) ne fit fun t' k => ?_
  refine wpAny_storeName_local hky hn (fun h' hn' sb => ?_) noc
  refine wpAny_execs_nil fun hk => ?_
  exact fin h' _ hk (inv_put I nd hiy hky (v := .str (sgStep z l c)) ⟨_, rfl⟩ hn hn' sb) sb
theorem sg_star {c : Str} {j : Nat} {p : Pos} {es : List Expr} {env : Env} : starEach (Expr.Constant (.str c) j p :: es) env = (false, eval (Expr.Constant (.str c) j p) env) :: starEach es env := rfl
theorem sg_bt {pos : Pos} {t : Sem Value} {L : List (Bool × Sem Value)} : backTo pos ((false, t) :: L) = (false, t) :: backTo pos L := rfl
/-- written texts: each has a token of its own -/
theorem sg_lits {M : Model} {A : Around} {env : Env} {pos : Pos} {E : Value → Shared → Prop} : ∀ (cs : List (Str × Nat × Pos)) (s : Shared) (Q : List Value → Shared → Prop),
    (∀ (us : List Value) (tk : Nat), us.length = cs.length → (∀ (i : Nat) (c : Str × Nat × Pos), cs[i]? = some c → ∃ t : Nat, us[i]? = some (Value.str c.1 t) ∧ s.toks ≤ t ∧ t < tk) → s.toks ≤ tk → Q us { s with toks := tk }) →
    wpAny M A (spliced (backTo pos (starEach (cs.map fun q => Expr.Constant (.str q.1) q.2.1 q.2.2) env))) Q E s
  | [], s, Q, h => Calls.spliced_nil (h [] s.toks rfl (fun i c e => by simp at e) (Nat.le_refl _))
  | c :: cs, s, Q, h => by
    have e : starEach ((c :: cs).map fun q => Expr.Constant (.str q.1) q.2.1 q.2.2) env = (false, eval (Expr.Constant (.str c.1) c.2.1 c.2.2) env) :: starEach (cs.map fun q => Expr.Constant (.str q.1) q.2.1 q.2.2) env := by
      rw [List.map_cons]
      exact sg_star
    rw [e, sg_bt]
    refine Calls.spliced_cons (Calls.Constant_str (sg_lits cs _ _ fun us tk hl hu hk => ?_))
    have hk : s.toks + 1 ≤ tk := hk
    refine h (Value.str c.1 s.toks :: us) tk (congrArg Nat.succ hl) (fun i d e => ?_) (by omega)
    cases i with
    | zero =>
      have e : c = d := Option.some.inj e
      exact ⟨s.toks, by rw [← e]; rfl, Nat.le_refl _, by omega⟩
    | succ i =>
      obtain ⟨t, h1, h2, h3⟩ := hu i d e
      have h2 : s.toks + 1 ≤ t := h2
      exact ⟨t, h1, by omega, h3⟩
theorem pst_signs {ix iy : Nat} {x y z : Str} {cs : List (Str × Nat × Pos)} {es : List Expr} {jz : Nat} {q0 lp q1 q2 q3 q4 q5 q6 ap cp sp pos : Pos} (hes : es = cs.map fun q => Expr.Constant (.str q.1) q.2.1 q.2.2) (hp : PassesOwn (model X.prog X.w) X.A X.env X.xe) (hc : X.calm = true)
    (nd : X.N.Nodup) (hix : X.N[ix]? = some x) (hiy : X.N[iy]? = some y) (hxy : ix ≠ iy) (hkx : X.env.kindOf x = some .local) (hky : X.env.kindOf y = some .local) (hvy : Vis X.env.scope y) (dx : (x == ("__debug__" : Str)) = false) (dy : (y == ("__debug__" : Str)) = false) (cy : (y == ("__classdict__" : Str)) = false)
    (good : ∀ q ∈ cs, q.1.length ≠ 0 ∧ q.1.length + z.length ≤ sizeLine ∧ ((q.1 ++ z) == q.1) = false) (z0 : z.length ≠ 0) (few : cs.length ≤ sizeLine)
    (hst : starEach [.BinOp (.Name x q1) .Add (.Constant (.str z) jz q2) q3, .Name x q4] X.env = [(false, eval (.BinOp (.Name x q1) .Add (.Constant (.str z) jz q2) q3) X.env), (false, eval (.Name x q4) X.env)])
    (hbase : attributeBase (.Name y q5) "replace" X.env (eval (.Name y q5) X.env) = eval (.Name y q5) X.env) (hline : (ap.endLine == cp.line) = true)
    (hsw : swapsWith (.Call (.Attribute (.Name y q5) "replace" ap) [.BinOp (.Name x q1) .Add (.Constant (.str z) jz q2) q3, .Name x q4] [] cp) (some (.Name y q6)) sp.line X.env = pure false)
    (hs : ∀ v, foldedSetIterable (.List es lp) X.env v = pure v) :
    PST X (.For (.Name x q0) (.List es lp) [.Assign [.Name y q6] (.Call (.Attribute (.Name y q5) "replace" ap) [.BinOp (.Name x q1) .Add (.Constant (.str z) jz q2) q3, .Name x q4] [] cp) sp] [] pos)
      (fun D σ H => ∃ l0, σ[iy]? = some (some (.str l0)) ∧ SgFit z l0 (cs.map Prod.fst) ∧ ∀ o, D.nx ((σ.set ix o).set iy (some (.str (sgAll z l0 (cs.map Prod.fst))))) H) := by
  subst hes
  intro pins s σ H D h0 I h
  obtain ⟨l0, hl0, fit0, post⟩ := h
  refine wpAny_For (wpAny_List_spliced (sg_lits cs s _ fun us tk hlen hus htk => ⟨by rw [hlen]; exact few, ?_⟩)) hs
  have Ia : Inv X pins σ H { s with heap := s.heap.push { cls := .type "list", data := .seq us.toArray }, toks := tk } := I.kept (t' := tk) fun b o e => Heap.get?_push_of_some _ e
  have la : (s.heap.push { cls := .type "list", data := .seq us.toArray }).IsList s.heap.objs.size us.toArray := ⟨_, Heap.get?_push_size _ rfl, rfl, 0, rfl⟩
  have aL : s.heap.objs.size ≠ X.env.locals := Nat.ne_of_gt I.lt
  refine wpAny_pyIter_list (s := { s with heap := s.heap.push { cls := .type "list", data := .seq us.toArray }, toks := tk }) la ?_
  have Ib := Ia.kept (t' := tk) (h' := (s.heap.push { cls := .type "list", data := .seq us.toArray }).push { cls := .type "list_iterator", data := .fields #[.ref s.heap.objs.size, .int 0 0] }) fun b o e => Heap.get?_push_of_some _ e
  obtain ⟨f0, f1, f2, f3, f4, f5⟩ := Ia.fpOk (Nat.le_refl _) (Ia.hok.fresh (Nat.le_refl _))
  have ai : s.heap.objs.size ≠ (s.heap.push { cls := .type "list", data := .seq us.toArray }).objs.size := by rw [Heap.size_push]; exact Nat.ne_of_lt (Nat.lt_succ_self _)
  have lit : ((s.heap.push { cls := .type "list", data := .seq us.toArray }).push { cls := .type "list_iterator", data := .fields #[.ref s.heap.objs.size, .int 0 0] }).IsListIter (s.heap.push { cls := .type "list", data := .seq us.toArray }).objs.size s.heap.objs.size 0 := ⟨_, Heap.get?_push_size _ rfl, rfl, rfl⟩
  have la2 := la.push { cls := .type "list_iterator", data := .fields #[.ref s.heap.objs.size, .int 0 0] }
  have hx0 : ix < σ.length := by rw [I.len]; exact (List.getElem?_eq_some_iff.mp hix).1
  have sh0 : σ = (σ.set ix σ[ix]).set iy (some (.str l0)) := by
    rw [List.set_getElem_self]
    refine List.ext_getElem? fun j => ?_
    by_cases hj : iy = j
    · rw [← hj, hl0, List.getElem?_set_self (List.getElem?_eq_some_iff.mp hl0).1]
    · rw [List.getElem?_set_ne hj]
  have hy0 : iy < σ.length := (List.getElem?_eq_some_iff.mp hl0).1
  have shx : ∀ (o : Option V) (l : Str) (p : Option V), ((σ.set ix o).set iy (some (.str l))).set ix p = (σ.set ix p).set iy (some (.str l)) := fun o l p => by
    rw [List.set_comm _ _ (fun e => hxy e.symm), List.set_set]
  have shy : ∀ (o : Option V) (l l' : Str), ((σ.set ix o).set iy (some (V.str l))).set iy (some (.str l')) = (σ.set ix o).set iy (some (.str l')) := fun o l l' => List.set_set ..
  have aty : ∀ (o : Option V) (l : Str), ((σ.set ix o).set iy (some (V.str l)))[iy]? = some (some (.str l)) := fun o l => List.getElem?_set_self (by rw [List.length_set]; exact hy0)
  have noc : (X.env.scope.kind == .class || (X.env.scope.kind == .module && X.env.locals != X.env.globals)) = false := by rw [I.ok.kind]; rfl
  revert Ib lit la2 f0 f1 f2 f3 f4 f5 ai
  generalize (s.heap.push { cls := .type "list", data := .seq us.toArray }).push { cls := .type "list_iterator", data := .fields #[.ref s.heap.objs.size, .int 0 0] } = hp0
  generalize (s.heap.push { cls := .type "list", data := .seq us.toArray }).objs.size = it
  intro Ib f0 f1 f2 f3 f4 f5 ai lit la2
  refine codeAny_forLoop_any (fun n s' => ∃ (i : Nat) (l : Str) (o : Option V), n + i = cs.length ∧ Inv X pins ((σ.set ix o).set iy (some (.str l))) H s' ∧ SgFit z l ((cs.map Prod.fst).drop i) ∧ sgAll z l ((cs.map Prod.fst).drop i) = sgAll z l0 (cs.map Prod.fst) ∧
    s'.heap.IsListIter it s.heap.objs.size i ∧ s'.heap.IsList s.heap.objs.size us.toArray ∧ tk ≤ s'.toks) ?_ cs.length ⟨0, l0, σ[ix], rfl, by rw [← sh0]; exact Ib, fit0, rfl, lit, la2, Nat.le_refl _⟩
  rintro n s3 ⟨i, l, o, hn, I3, hfit, hall, hit, hl, hk3⟩
  cases hci : cs[i]? with
  | none =>
    have hui : us.toArray[i]? = none := by
      have := List.getElem?_eq_none_iff.mp hci
      simp; omega
    refine wpAny_passesOwn hp (wpAny_pyNext_list_end (I3.ok.hd hc) hit hl hui fun h' eb => ?_)
    refine wpAny_execs_nil ⟨_, H, I3.turned (t' := s3.toks) (fun b o hb e => eb b o hb e) f0 f1 f3 f4 f5, ?_⟩
    have hd : (cs.map Prod.fst).drop i = [] := List.drop_eq_nil_of_le (by rw [List.length_map]; exact List.getElem?_eq_none_iff.mp hci)
    rw [hd] at hall
    have hall : l = sgAll z l0 (cs.map Prod.fst) := hall
    rw [hall]
    exact post o
  | some q =>
    obtain ⟨t, hu, t0, t1⟩ := hus i q hci
    have hui : us.toArray[i]? = some (.str q.1 t) := by simpa using hu
    have hil : i < cs.length := (List.getElem?_eq_some_iff.mp hci).1
    have hd : (cs.map Prod.fst).drop i = q.1 :: (cs.map Prod.fst).drop (i + 1) := by
      rw [List.drop_eq_getElem_cons (by rw [List.length_map]; exact hil), List.getElem_map]
      rw [show cs[i] = q from (List.getElem?_eq_some_iff.mp hci).2]
    rw [hd] at hfit hall
    obtain ⟨g1, g2, g3⟩ := good q (List.mem_of_getElem? hci)
    refine wpAny_passesOwn hp (wpAny_pyNext_list_item hit hl hui fun h1 st1 sb1 => ?_)
    have I4 : Inv X pins ((σ.set ix o).set iy (some (.str l))) H { s3 with heap := h1 } := I3.turned (t' := s3.toks) (fun b o hb e => (sb1.2 b hb).trans e) f0 f1 f3 f4 f5
    obtain ⟨oi, e1, e2, e3⟩ := id st1
    refine go_of (s := { s3 with heap := h1 }) e1 e2 e3 (by decide) ?_
    obtain ⟨m, hm, _⟩ := id I4.loc
    refine wpAny_assign_Name (wpAny_storeName_local hkx hm (fun h2 hm2 sb2 => ?_) noc)
    have I5 := inv_put (tk := s3.toks + 1) I4 nd hix hkx (v := V.str q.1) (u := Value.str q.1 t) ⟨_, rfl⟩ hm hm2 sb2
    rw [shx] at I5
    refine wpAny_passesOwn hp (sg_body (t := t) I5 nd hix hiy hkx hky hvy dx dy cy hm2 (if_pos rfl) (fun e => by have e : t = (0 : Nat) := e; omega) (show t < s3.toks + 1 by omega) (aty _ _) g1 z0 g2 g3 hfit.1 hst hbase hline hsw fun h3 k3 hk I6 sb3 => ?_)
    rw [shy] at I6
    have hk : s3.toks + 1 ≤ k3 := hk
    refine ⟨n - 1, by omega, i + 1, _, _, by omega, I6, hfit.2, hall, ?_, ?_, by show tk ≤ k3; omega⟩
    · exact st1.at fun b e => (sb3.2 _ f1).trans ((sb2.2 _ f1).trans e)
    · exact hl.at fun b e => (sb3.2 _ aL).trans ((sb2.2 _ aL).trans ((sb1.2 _ ai).trans e))
end
/-! its mirror, and the def's promise -/
def sgM (z : Tx) : Tx → List Tx → M Tx
  | l, [] => pure l
  | l, c :: r => replT l (c ++ z) c >>= fun l' => sgM z l' r
theorem S_cat (a b : Tx) : S a ++ S b = S (a ++ b) := ext_tl (by rw [tl_append] <;> rfl)
theorem S_of (x : Str) : S x.cps.toList = x := ext_tl rfl
theorem sgM_ok {z : Tx} : ∀ (cs : List Tx) (l r : Tx), sgM z l cs = .ok r → SgFit (S z) (S l) (cs.map S) ∧ S r = sgAll (S z) (S l) (cs.map S)
  | [], l, r, h => by
    have h : l = r := Except.ok.inj h
    exact ⟨True.intro, by rw [h]; rfl⟩
  | c :: cs, l, r, h => by
    unfold sgM replT chk at h
    by_cases hf : l.length + (l.length + 1) * c.length ≤ 16777216
    · rw [if_pos hf] at h
      obtain ⟨h1, h2⟩ := sgM_ok cs _ r h
      rw [S_of, ← S_cat] at h1 h2
      refine ⟨⟨by rw [S_length, S_length]; exact hf, h1⟩, h2⟩
    · rw [if_neg hf] at h; cases h
theorem sgM_no {z : Tx} : ∀ (cs : List Tx) (l : Tx) (e : Er), sgM z l cs = .error e → e = .st
  | [], l, e, h => by cases h
  | c :: cs, l, e, h => by
    unfold sgM replT chk at h
    by_cases hf : l.length + (l.length + 1) * c.length ≤ 16777216
    · rw [if_pos hf] at h
      exact sgM_no cs _ e h
    · rw [if_neg hf] at h; cases h; rfl
theorem mkSg {P : Program} {w : World} {K : Fg} {mg : Str → Option Value} {base : Heap} {x : Str} {N : List Str} {p0 sx : Str} {args : Arguments} {body : List Stmt} {sc : Scope} {k : Nat} {cs : List (String × Nat × Pos)} {z a b : String} {es : List Expr}
    {jz j0 j1 : Nat} {q0 lp q1 q2 q3 q4 q5 q6 ap cp sp pos r1 ap2 c0 c1 cp2 rp' : Pos}
    (F : ∃ fd, FunD K x x args body sc [] [] (He.ga K x) fd) (g : mg x = some (.ref (He.ga K x))) (S : FnScope N [p0] sc)
    (hb : ∀ (kV doc pm : Value) (an : Option Addr) (cdv ct : Value) (us : List Value), us.length = [p0].length → bindArgs (PySem.W.fnOf x x args body sc .none kV doc pm an cdv ct) ⟨us, []⟩ = pure ([p0].zip us))
    (hbody : body = [.For (.Name sx q0) (.List es lp) [.Assign [.Name p0 q6] (.Call (.Attribute (.Name p0 q5) "replace" ap) [.BinOp (.Name sx q1) .Add (.Constant (.str (Str.ofString z)) jz q2) q3, .Name sx q4] [] cp) sp] [] pos,
      .Return (some (.Call (.Attribute (.Name p0 r1) "replace" ap2) [.Constant (.str (Str.ofString a)) j0 c0, .Constant (.str (Str.ofString b)) j1 c1] [] cp2)) rp'])
    (hes : es = cs.map fun q => Expr.Constant (.str (Str.ofString q.1)) q.2.1 q.2.2) (nc : ∀ y ∈ sc.names, y.2 ≠ .cell) (hl : sc.names.lookup p0 = some .local) (hls : sc.names.lookup sx = some .local) (hcs : ∀ n, cellsFrom n sc.names [] = [])
    (h0 : N[0]? = some p0) (h1 : N[1]? = some sx) (nd : N.Nodup) (dx : (sx == ("__debug__" : Str)) = false) (dy : (p0 == ("__debug__" : Str)) = false) (cy : (p0 == ("__classdict__" : Str)) = false)
    (good : cs.all (fun q => decide ((tx q.1).length ≠ 0) && decide ((tx q.1).length + (tx z).length ≤ sizeLine) && ((Str.ofString q.1 ++ Str.ofString z) == Str.ofString q.1) == false) = true) (z0 : (tx z).length ≠ 0) (few : cs.length ≤ sizeLine) (hab : (Str.ofString a == Str.ofString b) = false)
    (env : ∀ (cdv : Value) (L : Addr), (fun v : Env =>
      starEach [.BinOp (.Name sx q1) .Add (.Constant (.str (Str.ofString z)) jz q2) q3, .Name sx q4] v = [(false, eval (.BinOp (.Name sx q1) .Add (.Constant (.str (Str.ofString z)) jz q2) q3) v), (false, eval (.Name sx q4) v)] ∧
      attributeBase (.Name p0 q5) "replace" v (eval (.Name p0 q5) v) = eval (.Name p0 q5) v ∧
      swapsWith (.Call (.Attribute (.Name p0 q5) "replace" ap) [.BinOp (.Name sx q1) .Add (.Constant (.str (Str.ofString z)) jz q2) q3, .Name sx q4] [] cp) (some (.Name p0 q6)) sp.line v = pure false ∧
      (∀ u, foldedSetIterable (.List es lp) v u = pure u) ∧
      starEach [.Constant (.str (Str.ofString a)) j0 c0, .Constant (.str (Str.ofString b)) j1 c1] v = [(false, eval (.Constant (.str (Str.ofString a)) j0 c0) v), (false, eval (.Constant (.str (Str.ofString b)) j1 c1) v)] ∧
      attributeBase (.Name p0 r1) "replace" v (eval (.Name p0 r1) v) = eval (.Name p0 r1) v) (envOfC x sc L (He.ga K x) cdv))
    (hline : (ap.endLine == cp.line) = true) (hline2 : (ap2.endLine == cp2.line) = true) :
    OkF P w K mg base x (k + 1) (sp1 K fun l => sgM (tx z) l (cs.map fun q => tx q.1) >>= fun l' => replT l' (tx a) (tx b)) := by
  obtain ⟨fd, F⟩ := F
  refine ⟨_, fd, [p0], g, F.kp, okT1 F S nc hl hcs (fun vs H Q E hh => ?_) (fun cdv A outer s H vs Q E hr hh => ?_), F.bindsN hb⟩
  · obtain ⟨a0, v0, Hi, rfl, _⟩ := hh
    rfl
  · obtain ⟨l0, v0, Hi, rfl, sm, r0, q⟩ := hh
    have r0 : v0 = .str (G.S l0) := r0
    subst r0 hbody
    obtain ⟨e1, e2, e3, e4, e5, e6⟩ := env cdv s.heap.objs.size
    have vy : Vis (cxOf (L2.CX P w) P w K mg base N x sc (He.ga K x) cdv A outer s H E).env.scope p0 := .inl hl
    refine ⟨_, psst_cons (pst_signs (X := cxOf (L2.CX P w) P w K mg base N x sc (He.ga K x) cdv A outer s H E) (ix := 1) (iy := 0) (cs := cs.map fun q => (Str.ofString q.1, q.2.1, q.2.2)) (by rw [hes, List.map_map]; rfl) pasO rfl nd h1 h0 (by decide) hls hl vy dx dy cy ?_ ?_ (by rw [List.length_map]; exact few) e1 e2 hline e3 e4)
      (CwR.psst_one (CwR.pst_ret (CwR.pet_replC (pe_var h0 vy dy cy) hab e5 e6 hline2))), ?_⟩
    · intro c hc
      obtain ⟨q, hq, rfl⟩ := List.mem_map.mp hc
      have := List.all_eq_true.mp good q hq
      simp only [Bool.and_eq_true, decide_eq_true_eq] at this
      obtain ⟨⟨g1, g2⟩, g3⟩ := this
      refine ⟨?_, ?_, by simpa using g3⟩
      · show (Str.ofString q.1).length ≠ 0
        rw [← S_tx, S_length]; exact g1
      · show (Str.ofString q.1).length + (Str.ofString z).length ≤ sizeLine
        rw [← S_tx, S_length, ← S_tx, S_length]; exact g2
    · rw [← S_tx, S_length]; exact z0
    · have es : (cs.map fun q => (Str.ofString q.1, q.2.1, q.2.2)).map Prod.fst = (cs.map fun q => tx q.1).map G.S := by
        rw [List.map_map, List.map_map]
        exact List.map_congr_left fun q _ => (S_tx q.1).symm
      have q : PV K E (sgM (tx z) l0 (cs.map fun q => tx q.1) >>= fun l' => replT l' (tx a) (tx b)) Hi H Q := q
      cases hm : sgM (tx z) l0 (cs.map fun q => tx q.1) with
      | error e =>
        rw [hm, sgM_no _ _ _ hm] at q
        exact q.elim
      | ok l1 =>
        rw [hm] at q
        obtain ⟨fit, all⟩ := sgM_ok _ _ _ hm
        rw [S_tx] at fit all
        obtain ⟨hf, q⟩ := PX.chk (show PX K E (chk (l1.length + (l1.length + 1) * (tx b).length ≤ 16777216) >>= fun _ => (pure (Txt.replace (G.S l1) (G.S (tx a)) (G.S (tx b))).cps.toList : M Tx)) Hi H _ from q)
        refine ⟨G.S l0, rfl, by rw [es]; exact fit, fun o => ?_⟩
        rw [es, ← all]
        refine ⟨.str (G.S l1), ?_, G.S l1, rfl, by rw [S_length, ← S_tx, S_length]; exact hf, ?_⟩
        · rfl
        · have := q Hi H (Nx.refl sm) _ rfl
          rw [S_of, S_tx, S_tx] at this
          exact this
end G

set_option Elab.async false
set_option linter.all false
set_option maxRecDepth 100000
set_option maxHeartbeats 2000000
namespace G
open PySem L2 TL
/-! ### plain lemmas about the mirrors -/
theorem okb {α β : Type} {a : α} {f : α → M β} : ((Except.ok a : M α) >>= f) = f a := rfl
theorem chk_t {p : Prop} [Decidable p] (h : p) : chk p = pure () := by unfold chk; rw [if_pos h]
theorem chk_b {p : Prop} [Decidable p] {α : Type} {f : Unit → M α} (h : p) : (chk p >>= f) = f () := by rw [chk_t h]; rfl
theorem modI_ok {i j : Int} (h : 0 < j) : modI i j = pure (i % j) := by unfold modI; rw [chk_t h]; rfl
theorem divI_ok {i j : Int} (h : 0 < j) (h2 : j < 1073741824) : divI i j = pure (i / j) := by unfold divI; rw [chk_t ⟨h, h2⟩]; rfl
theorem mulI_l {i j : Int} (h : -(2 ^ 64) < i) (h2 : i < 2 ^ 64) : mulI i j = pure (i * j) := by unfold mulI; rw [chk_t (.inl ⟨h, h2⟩)]; rfl
theorem mulI_r {i j : Int} (h : -(2 ^ 64) < j) (h2 : j < 2 ^ 64) : mulI i j = pure (i * j) := by unfold mulI; rw [chk_t (.inr ⟨h, h2⟩)]; rfl
theorem addT_ok {a c : Tx} (h : a.length + c.length ≤ SZ) : addT a c = pure (a ++ c) := by unfold addT; rw [chk_t h]; rfl
theorem lenT_ok {a : Tx} (h : a.length ≤ SZ) : lenT a = pure (a.length : Int) := by unfold lenT; rw [chk_t h]; rfl
theorem inS_one {c : Nat} {t : Tx} : inS [c] t = pure (decide (c ∈ t)) := rfl
theorem ixN_nat {n : Nat} {i : Int} (h0 : 0 ≤ i) (h : i < n) : ixN n i = some i.toNat := by unfold ixN; rw [if_pos h0, if_pos h]
theorem atI_some {α : Type} {xs : List α} {i : Int} (h0 : 0 ≤ i) (h : i < xs.length) : ∃ a, atI xs i = some a ∧ xs[i.toNat]? = some a := by
  unfold atI
  rw [ixN_nat h0 h]
  have hl : i.toNat < xs.length := by omega
  exact ⟨xs[i.toNat], List.getElem?_eq_getElem hl, List.getElem?_eq_getElem hl⟩
theorem atL_ok {α : Type} {xs : List α} {i : Int} (h0 : 0 ≤ i) (h : i < xs.length) : ∃ a, atL xs i = pure a ∧ a ∈ xs := by
  obtain ⟨a, e, e2⟩ := atI_some h0 h
  exact ⟨a, by unfold atL; rw [e]; rfl, List.mem_of_getElem? e2⟩
theorem atT_ok {x : Tx} {i : Int} (h0 : 0 ≤ i) (h : i < x.length) (hz : x.length ≤ SZ) : ∃ c, atT x i = pure [c] ∧ x[i.toNat]? = some c := by
  obtain ⟨a, e, e2⟩ := atI_some h0 h
  exact ⟨a, by unfold atT; rw [chk_t hz, e]; rfl, e2⟩
/-- it comes to an end that is so -/
def Okp {α : Type} (m : M α) (P : α → Prop) : Prop := ∃ a, m = .ok a ∧ P a
section
variable {α β : Type} {m : M α} {f : α → M β} {P : α → Prop} {Q : β → Prop}
theorem Okp.bind (h : Okp m P) (k : ∀ a, P a → Okp (f a) Q) : Okp (m >>= f) Q := by
  obtain ⟨a, rfl, p⟩ := h
  exact k a p
theorem Okp.pure {a : α} (h : P a) : Okp (pure a) P := ⟨a, rfl, h⟩
theorem Okp.chk {p : Prop} [Decidable p] {g : Unit → M β} (h : p) (k : Okp (g ()) Q) : Okp (chk p >>= g) Q := by rw [chk_b h]; exact k
theorem Okp.imp {P' : α → Prop} (h : Okp m P) (k : ∀ a, P a → P' a) : Okp m P' := let ⟨a, e, p⟩ := h; ⟨a, e, k a p⟩
theorem mapE_ok {f : α → M β} : ∀ {xs : List α}, (∀ x ∈ xs, Okp (f x) Q) → Okp (mapE f xs) fun ys => ys.length = xs.length ∧ ∀ y ∈ ys, Q y
  | [], _ => ⟨[], rfl, rfl, fun y h => nomatch h⟩
  | x :: xs, h => by
    obtain ⟨y, e, q⟩ := h x (List.mem_cons_self ..)
    obtain ⟨ys, e2, l, q2⟩ := mapE_ok (xs := xs) fun z hz => h z (List.mem_cons_of_mem _ hz)
    refine ⟨y :: ys, by unfold mapE; rw [e, e2]; rfl, by rw [List.length_cons, List.length_cons, l], fun z hz => ?_⟩
    rcases List.mem_cons.mp hz with e | hz
    · rw [e]; exact q
    · exact q2 z hz
theorem lc_ok {f : α → M β} {xs : List α} (hl : xs.length ≤ SZ) (h : ∀ x ∈ xs, Okp (f x) Q) : Okp (lc f xs) fun ys => ys.length = xs.length ∧ ∀ y ∈ ys, Q y := by
  obtain ⟨ys, e, q⟩ := mapE_ok h
  exact ⟨ys, by unfold lc; rw [chk_b hl, e]; rfl, q⟩
/-- .. with its value -/
theorem mapE_map {f : α → M β} {g : α → β} : ∀ {xs : List α}, (∀ x ∈ xs, f x = .ok (g x)) → mapE f xs = .ok (xs.map g)
  | [], _ => rfl
  | x :: xs, h => by
    unfold mapE
    rw [h x (List.mem_cons_self ..), mapE_map (g := g) fun z hz => h z (List.mem_cons_of_mem _ hz)]
    rfl
theorem lc_map {f : α → M β} {g : α → β} {xs : List α} (hl : xs.length ≤ SZ) (h : ∀ x ∈ xs, f x = .ok (g x)) : lc f xs = .ok (xs.map g) := by
  unfold lc
  rw [chk_b hl, mapE_map h]
  rfl
theorem filE_fil {t : α → M Bool} {p : α → Bool} {f : α → M β} {g : α → β} : ∀ {xs : List α}, (∀ x ∈ xs, t x = .ok (p x)) → (∀ x ∈ xs, p x = true → f x = .ok (g x)) → filE t f xs = .ok ((xs.filter p).map g)
  | [], _, _ => rfl
  | x :: xs, h, h2 => by
    have ih := filE_fil (xs := xs) (t := t) (p := p) (f := f) (g := g) (fun z hz => h z (List.mem_cons_of_mem _ hz)) (fun z hz => h2 z (List.mem_cons_of_mem _ hz))
    unfold filE
    rw [h x (List.mem_cons_self ..), ih]
    show (if p x = true then _ else _) = _
    cases hp : p x with
    | true =>
      rw [if_pos rfl, h2 x (List.mem_cons_self ..) hp, List.filter_cons_of_pos hp]
      rfl
    | false =>
      rw [if_neg Bool.false_ne_true, List.filter_cons_of_neg (by rw [hp]; exact Bool.false_ne_true)]
theorem lf_fil {t : α → M Bool} {p : α → Bool} {f : α → M β} {g : α → β} {xs : List α} (hl : xs.length ≤ SZ) (h : ∀ x ∈ xs, t x = .ok (p x)) (h2 : ∀ x ∈ xs, p x = true → f x = .ok (g x)) : lf t f xs = .ok ((xs.filter p).map g) := by
  unfold lf
  rw [chk_b hl, filE_fil h h2]
  rfl
/-- a search: the first item that answers -/
theorem forT_search {R : Type} {f : Unit → α → M (Tl Unit R)} {p : α → Bool} {r : R} : ∀ {xs : List α}, (∀ x ∈ xs, f () x = .ok (if p x = true then .rt r else .ct ())) → forT f () xs = .ok (if xs.any p = true then .inr r else .inl ())
  | [], _ => rfl
  | x :: xs, h => by
    unfold forT
    rw [h x (List.mem_cons_self ..), List.any_cons]
    cases hp : p x with
    | true => rfl
    | false =>
      show forT f () xs = _
      rw [forT_search (p := p) (r := r) fun z hz => h z (List.mem_cons_of_mem _ hz)]
      rfl
end
theorem SZ_val : SZ = 16777216 := sizeLine_eq
theorem joinL_len : ∀ (s : Tx) (xs : List Tx), (joinL s xs).length ≤ (xs.map (·.length)).sum + xs.length * s.length
  | s, [] => by simp [joinL]
  | s, [x] => by simp [joinL]
  | s, x :: y :: r => by
    have ih := joinL_len s (y :: r)
    have e : joinL s (x :: y :: r) = x ++ (s ++ joinL s (y :: r)) := rfl
    rw [e, List.length_append, List.length_append, List.map_cons, List.sum_cons]
    have : (x :: y :: r).length * s.length = s.length + (y :: r).length * s.length := by
      rw [List.length_cons, Nat.add_mul]; omega
    omega
theorem sum_le {k : Nat} : ∀ {xs : List Tx}, (∀ x ∈ xs, x.length ≤ k) → (xs.map (·.length)).sum ≤ xs.length * k
  | [], _ => by simp
  | x :: xs, h => by
    have ih := sum_le (k := k) (xs := xs) fun z hz => h z (List.mem_cons_of_mem _ hz)
    have h1 := h x (List.mem_cons_self ..)
    rw [List.map_cons, List.sum_cons, List.length_cons, Nat.add_mul]
    omega
theorem joinM_ok {s : Tx} {xs : List Tx} (h : (xs.map (·.length)).sum + xs.length * s.length ≤ 16777216) : joinM s xs = .ok (joinL s xs) := by unfold joinM; rw [chk_b h]; rfl
theorem cut_len {α : Type} (xs : List α) (lo hi : Option Int) : (cut xs lo hi).length ≤ xs.length := by
  unfold cut
  rw [List.length_take, List.length_drop]; omega
theorem rangeL_len (lo : Int) (n : Nat) : (rangeL lo n).length = n := by unfold rangeL; rw [List.length_map, List.length_range]
theorem range1_ok {n : Int} (h : -(2 ^ 62) ≤ n) (h2 : n < 2 ^ 62) : range1 n = .ok (rangeL 0 n.toNat) := by unfold range1; rw [chk_b ⟨h, h2⟩]; rfl
theorem mem_rangeL {lo : Int} {n : Nat} {x : Int} (h : x ∈ rangeL lo n) : lo ≤ x ∧ x < lo + n := by
  unfold rangeL at h
  obtain ⟨i, hi, rfl⟩ := List.mem_map.mp h
  have := List.mem_range.mp hi
  omega
end G

set_option Elab.async false
set_option linter.all false
set_option maxRecDepth 100000
set_option maxHeartbeats 4000000
namespace Q
open PySem L2 G
abbrev cs_Look : List Str := ["Look", "Same", "Unlike"]
abbrev fs_Look : List Str := ["left", "right"]
abbrev F_Look := Tx × Tx × Unit
abbrev C_Look := Ins cs_Look fs_Look F_Look
abbrev cs_Rule : List Str := ["Rule"]
abbrev fs_Rule : List Str := ["title", "taken", "kept", "looks", "given", "told", "names"]
abbrev F_Rule := Tx × (List (Tx × (Tup Tx))) × (List (Tx × (Tup Tx))) × (List C_Look) × (List (Tx × (Tup Tx))) × (List (Tx × Tx)) × (List Tx) × Unit
abbrev C_Rule := Ins cs_Rule fs_Rule F_Rule
abbrev cs_Book : List Str := ["Book"]
abbrev fs_Book : List Str := ["kinds", "rules"]
abbrev F_Book := (List (T3 Tx Int Bool)) × (List C_Rule) × Unit
abbrev C_Book := Ins cs_Book fs_Book F_Book
/-! the mirrors -/
def m__wall (p0 : Int) : M Unit :=
  (stuck : M Unit)

def m_is_name (p0 : Tx) : M Bool :=
  ((((pure (1 : Int) : M Int) >>= fun x2 => ((pure p0 : M Tx) >>= fun x1 => lenT x1) >>= fun y3 => (pure (decide (x2 ≤ y3)) : M Bool) >>= fun c5 => if c5 = true then (pure (12 : Int) : M Int) >>= fun z4 => (pure (decide (y3 ≤ z4)) : M Bool) else pure false) >>= fun c6 => pure (!c6)) >>= fun c7 => if c7 = true then (pure false : M Bool) else
  (((pure p0 : M Tx) >>= fun x8 => pure (signs x8)) >>= fun l11 => forT (fun (s9 : Unit) (e10 : Tx) => ((((pure e10 : M Tx) >>= fun x15 => (pure (tx "abcdefghijklmnopqrstuvwxyz") : M Tx) >>= fun y16 => (inS x15 y16 >>= fun c17 => pure (!c17))) >>= fun c25 => if c25 = true then (((pure e10 : M Tx) >>= fun x18 => (pure (tx "ABCDEFGHIJKLMNOPQRSTUVWXYZ") : M Tx) >>= fun y19 => (inS x18 y19 >>= fun c20 => pure (!c20))) >>= fun c24 => if c24 = true then ((pure e10 : M Tx) >>= fun x21 => (pure (tx "0123456789") : M Tx) >>= fun y22 => (inS x21 y22 >>= fun c23 => pure (!c23))) else pure false) else pure false) >>= fun c26 => if c26 = true then ((pure false : M Bool) >>= fun r27 => (pure (.rt r27) : M (Tl Unit Bool))) else (pure (.ct ()) : M (Tl Unit Bool)))) () l11 >>= thenT (fun s9 =>
  (pure true : M Bool)) id))

def m_is_open (p0 : Tx) : M Bool :=
  (((pure p0 : M Tx) >>= fun x1 => m_is_name x1) >>= fun c6 => if c6 = true then (((pure p0 : M Tx) >>= fun x2 => (pure (0 : Int) : M Int) >>= fun y3 => atT x2 y3) >>= fun x4 => (pure (tx "ABCDEFGHIJKLMNOPQRSTUVWXYZ") : M Tx) >>= fun y5 => inS x4 y5) else pure false)

def m_is_kind (p0 : Tx) : M Bool :=
  (((pure p0 : M Tx) >>= fun x1 => m_is_name x1) >>= fun c6 => if c6 = true then (((pure p0 : M Tx) >>= fun x2 => (pure (0 : Int) : M Int) >>= fun y3 => atT x2 y3) >>= fun x4 => (pure (tx "abcdefghijklmnopqrstuvwxyz") : M Tx) >>= fun y5 => inS x4 y5) else pure false)

def m_pieces (p0 : Tx) : M (List Tx) :=
  ((pure [] : M (List Tx)) >>= fun a1 =>
  ((pure (tx "") : M Tx) >>= fun a2 =>
  ((((pure p0 : M Tx) >>= fun x3 => pure (signs x3)) >>= fun l6 => forB (fun (s4 : ((List Tx) × Tx)) (e5 : Tx) => ((((pure e5 : M Tx) >>= fun x10 => (pure (tx "abcdefghijklmnopqrstuvwxyz") : M Tx) >>= fun y11 => inS x10 y11) >>= fun c17 => if c17 = true then pure true else (((pure e5 : M Tx) >>= fun x12 => (pure (tx "ABCDEFGHIJKLMNOPQRSTUVWXYZ") : M Tx) >>= fun y13 => inS x12 y13) >>= fun c16 => if c16 = true then pure true else ((pure e5 : M Tx) >>= fun x14 => (pure (tx "0123456789") : M Tx) >>= fun y15 => inS x14 y15))) >>= fun c18 => if c18 = true then (((pure e5 : M Tx) >>= fun y20 => addT s4.2 y20) >>= fun a19 =>
  (pure (.ct (s4.1, a19)) : M (Tl ((List Tx) × Tx) No))) else
  ((((pure s4.2 : M Tx) >>= fun x21 => (pure (tx "") : M Tx) >>= fun y22 => (pure (!decide (x21 = y22)) : M Bool)) >>= fun c23 => if c23 = true then (((pure s4.2 : M Tx) >>= fun a26 => chk (s4.1.length < SZ) >>= fun _u27 => pure a26) >>= fun a25 =>
  ((pure (tx "") : M Tx) >>= fun a28 =>
  (pure ((s4.1 ++ [a25]), a28) : M ((List Tx) × Tx)))) else (pure (s4.1, s4.2) : M ((List Tx) × Tx))) >>= fun s24 =>
  (((pure e5 : M Tx) >>= fun x29 => (pure (tx "(),;:=-") : M Tx) >>= fun y30 => inS x29 y30) >>= fun c31 => if c31 = true then (((pure e5 : M Tx) >>= fun a33 => chk (s24.1.length < SZ) >>= fun _u34 => pure a33) >>= fun a32 =>
  (pure (.ct ((s24.1 ++ [a32]), s24.2)) : M (Tl ((List Tx) × Tx) No))) else (((pure e5 : M Tx) >>= fun x35 => (pure (tx " ") : M Tx) >>= fun y36 => (pure (!decide (x35 = y36)) : M Bool)) >>= fun c37 => if c37 = true then (raise "NoLine" : M (Tl ((List Tx) × Tx) No)) else (pure (.ct (s24.1, s24.2)) : M (Tl ((List Tx) × Tx) No))))))) (a1, a2) l6) >>= fun s4 =>
  ((((pure s4.2 : M Tx) >>= fun x38 => (pure (tx "") : M Tx) >>= fun y39 => (pure (!decide (x38 = y39)) : M Bool)) >>= fun c40 => if c40 = true then (((pure s4.2 : M Tx) >>= fun a43 => chk (s4.1.length < SZ) >>= fun _u44 => pure a43) >>= fun a42 =>
  (pure (s4.1 ++ [a42]) : M (List Tx))) else (pure s4.1 : M (List Tx))) >>= fun s41 =>
  (pure s41 : M (List Tx))))))

def m_piece_at (p0 : (List Tx)) (p1 : Int) : M Tx :=
  (((pure p1 : M Int) >>= fun x2 => ((pure p0 : M (List Tx)) >>= fun x1 => (pure (x1.length : Int) : M Int)) >>= fun y3 => (pure (decide (x2 < y3)) : M Bool)) >>= fun c4 => if c4 = true then ((pure p0 : M (List Tx)) >>= fun x5 => (pure p1 : M Int) >>= fun y6 => atL x5 y6) else
  (pure (tx "") : M Tx))

def m_take_arguments (p0 : (List Tx)) (p1 : Int) : M ((Tup Tx) × Int) :=
  ((((pure p0 : M (List Tx)) >>= fun x1 => (pure p1 : M Int) >>= fun x2 => m_piece_at x1 x2) >>= fun x3 => (pure (tx ")") : M Tx) >>= fun y4 => (pure (decide (x3 = y4)) : M Bool)) >>= fun c5 => if c5 = true then (((pure [] : M (List Tx)) >>= fun x6 => (pure x6 : M (Tup Tx))) >>= fun x9 => ((pure p1 : M Int) >>= fun x7 => (pure (1 : Int) : M Int) >>= fun y8 => (pure (x7 + y8) : M Int)) >>= fun x10 => pure (x9, x10)) else
  ((pure [] : M (List Tx)) >>= fun a11 =>
  (whT (fun (s12 : (Int × (List Tx))) => (pure true : M Bool)) (fun (s12 : (Int × (List Tx))) => (((pure p0 : M (List Tx)) >>= fun x16 => (pure s12.1 : M Int) >>= fun x17 => m_piece_at x16 x17) >>= fun a15 =>
  ((((pure a15 : M Tx) >>= fun x18 => m_is_name x18) >>= fun c19 => pure (!c19)) >>= fun c20 => if c20 = true then (raise "NoLine" : M (Tl (Int × (List Tx)) ((Tup Tx) × Int))) else
  (((pure a15 : M Tx) >>= fun a22 => chk (s12.2.length < SZ) >>= fun _u23 => pure a22) >>= fun a21 =>
  (((pure p0 : M (List Tx)) >>= fun x27 => ((pure s12.1 : M Int) >>= fun x25 => (pure (1 : Int) : M Int) >>= fun y26 => (pure (x25 + y26) : M Int)) >>= fun x28 => m_piece_at x27 x28) >>= fun a24 =>
  (((pure (2 : Int) : M Int) >>= fun y30 => (pure (s12.1 + y30) : M Int)) >>= fun a29 =>
  (((pure a24 : M Tx) >>= fun x31 => (pure (tx ")") : M Tx) >>= fun y32 => (pure (decide (x31 = y32)) : M Bool)) >>= fun c33 => if c33 = true then ((((pure (s12.2 ++ [a21]) : M (List Tx)) >>= fun x34 => (pure x34 : M (Tup Tx))) >>= fun x35 => (pure a29 : M Int) >>= fun x36 => pure (x35, x36)) >>= fun r37 => (pure (.rt r37) : M (Tl (Int × (List Tx)) ((Tup Tx) × Int)))) else
  (((pure a24 : M Tx) >>= fun x38 => (pure (tx ",") : M Tx) >>= fun y39 => (pure (!decide (x38 = y39)) : M Bool)) >>= fun c40 => if c40 = true then (raise "NoLine" : M (Tl (Int × (List Tx)) ((Tup Tx) × Int))) else (pure (.ct (a29, (s12.2 ++ [a21]))) : M (Tl (Int × (List Tx)) ((Tup Tx) × Int))))))))))) FUEL (p1, a11) >>= thenT (fun s12 =>
  (stuck : M ((Tup Tx) × Int))) id)))

def m_take_fact (p0 : (List Tx)) (p1 : Int) : M ((Tx × (Tup Tx)) × Int) :=
  (((pure p0 : M (List Tx)) >>= fun x2 => (pure p1 : M Int) >>= fun x3 => m_piece_at x2 x3) >>= fun a1 =>
  ((((pure a1 : M Tx) >>= fun x4 => m_is_kind x4) >>= fun c5 => pure (!c5)) >>= fun c6 => if c6 = true then (raise "NoLine" : M ((Tx × (Tup Tx)) × Int)) else
  ((((pure p0 : M (List Tx)) >>= fun x9 => ((pure p1 : M Int) >>= fun x7 => (pure (1 : Int) : M Int) >>= fun y8 => (pure (x7 + y8) : M Int)) >>= fun x10 => m_piece_at x9 x10) >>= fun x11 => (pure (tx "(") : M Tx) >>= fun y12 => (pure (!decide (x11 = y12)) : M Bool)) >>= fun c13 => if c13 = true then (((pure a1 : M Tx) >>= fun x15 => ((pure [] : M (List Tx)) >>= fun x14 => (pure x14 : M (Tup Tx))) >>= fun x16 => pure (x15, x16)) >>= fun x19 => ((pure p1 : M Int) >>= fun x17 => (pure (1 : Int) : M Int) >>= fun y18 => (pure (x17 + y18) : M Int)) >>= fun x20 => pure (x19, x20)) else
  (((pure p0 : M (List Tx)) >>= fun x24 => ((pure p1 : M Int) >>= fun x22 => (pure (2 : Int) : M Int) >>= fun y23 => (pure (x22 + y23) : M Int)) >>= fun x25 => m_take_arguments x24 x25) >>= fun a21 =>
  (((pure a1 : M Tx) >>= fun x28 => ((pure a21 : M ((Tup Tx) × Int)) >>= fun x26 => pure x26.1) >>= fun x29 => pure (x28, x29)) >>= fun x32 => ((pure a21 : M ((Tup Tx) × Int)) >>= fun x30 => pure x30.2) >>= fun x33 => pure (x32, x33))))))

def m_take_facts (p0 : (List Tx)) (p1 : Int) : M ((List (Tx × (Tup Tx))) × Int) :=
  ((pure [] : M (List (Tx × (Tup Tx)))) >>= fun a1 =>
  (whT (fun (s2 : (Int × (List (Tx × (Tup Tx))))) => (pure true : M Bool)) (fun (s2 : (Int × (List (Tx × (Tup Tx))))) => (((pure p0 : M (List Tx)) >>= fun x6 => (pure s2.1 : M Int) >>= fun x7 => m_take_fact x6 x7) >>= fun a5 =>
  ((((pure a5 : M ((Tx × (Tup Tx)) × Int)) >>= fun x9 => pure x9.1) >>= fun a11 => chk (s2.2.length < SZ) >>= fun _u12 => pure a11) >>= fun a8 =>
  (((pure a5 : M ((Tx × (Tup Tx)) × Int)) >>= fun x14 => pure x14.2) >>= fun a13 =>
  ((((pure p0 : M (List Tx)) >>= fun x16 => (pure a13 : M Int) >>= fun x17 => m_piece_at x16 x17) >>= fun x18 => (pure (tx ",") : M Tx) >>= fun y19 => (pure (!decide (x18 = y19)) : M Bool)) >>= fun c20 => if c20 = true then (((pure (s2.2 ++ [a8]) : M (List (Tx × (Tup Tx)))) >>= fun x21 => (pure a13 : M Int) >>= fun x22 => pure (x21, x22)) >>= fun r23 => (pure (.rt r23) : M (Tl (Int × (List (Tx × (Tup Tx)))) ((List (Tx × (Tup Tx))) × Int)))) else
  (((pure (1 : Int) : M Int) >>= fun y25 => (pure (a13 + y25) : M Int)) >>= fun a24 =>
  (pure (.ct (a24, (s2.2 ++ [a8]))) : M (Tl (Int × (List (Tx × (Tup Tx)))) ((List (Tx × (Tup Tx))) × Int))))))))) FUEL (p1, a1) >>= thenT (fun s2 =>
  (stuck : M ((List (Tx × (Tup Tx))) × Int))) id))

def m_fact_text (p0 : (Tx × (Tup Tx))) : M Tx :=
  (((((pure p0 : M (Tx × (Tup Tx))) >>= fun x1 => pure x1.2) >>= fun x3 => (pure ((List.length (α := Tx) x3 : Nat) : Int) : M Int)) >>= fun x4 => (pure (0 : Int) : M Int) >>= fun y5 => (pure (decide (x4 = y5)) : M Bool)) >>= fun c6 => if c6 = true then ((pure p0 : M (Tx × (Tup Tx))) >>= fun x7 => pure x7.1) else
  (((((pure p0 : M (Tx × (Tup Tx))) >>= fun x9 => pure x9.1) >>= fun x11 => (pure (tx "(") : M Tx) >>= fun y12 => addT x11 y12) >>= fun x17 => ((pure (tx ",") : M Tx) >>= fun x15 => ((pure p0 : M (Tx × (Tup Tx))) >>= fun x13 => pure x13.2) >>= fun y16 => joinM x15 y16) >>= fun y18 => addT x17 y18) >>= fun x19 => (pure (tx ")") : M Tx) >>= fun y20 => addT x19 y20))

def m_facts_text (p0 : (List (Tx × (Tup Tx)))) : M Tx :=
  ((pure (tx ", ") : M Tx) >>= fun x4 => ((pure p0 : M (List (Tx × (Tup Tx)))) >>= fun y3 => lc (fun e1 => ((pure e1 : M (Tx × (Tup Tx))) >>= fun x2 => m_fact_text x2)) y3) >>= fun y5 => joinM x4 y5)

def m_kind_lasts (p0 : (List (T3 Tx Int Bool))) : M (Dic Bool) :=
  ((pure [] : M (List (Tx × Bool))) >>= fun a1 =>
  (((pure p0 : M (List (T3 Tx Int Bool))) >>= fun l4 => forP (fun (s2 : (Dic Bool)) (e3 : (T3 Tx Int Bool)) => ((((pure e3 : M (T3 Tx Int Bool)) >>= fun x9 => pure x9.c) >>= fun a13 => ((pure e3 : M (T3 Tx Int Bool)) >>= fun x11 => pure x11.a) >>= fun k14 => chk (s2.length < SZ) >>= fun _u15 => (pure (dputM s2 k14 a13) : M (List (Tx × Bool)))) >>= fun a8 =>
  (pure a8 : M (Dic Bool)))) a1 l4) >>= fun s2 =>
  (pure s2 : M (Dic Bool))))

def m_look_at_facts (p0 : (List (T3 Tx Int Bool))) (p1 : (List (Tx × (Tup Tx)))) : M Unit :=
  ((pure [] : M (List (Tx × Int))) >>= fun a1 =>
  (((pure p0 : M (List (T3 Tx Int Bool))) >>= fun l4 => forP (fun (s2 : (Dic Int)) (e3 : (T3 Tx Int Bool)) => ((((pure e3 : M (T3 Tx Int Bool)) >>= fun x9 => pure x9.b) >>= fun a13 => ((pure e3 : M (T3 Tx Int Bool)) >>= fun x11 => pure x11.a) >>= fun k14 => chk (s2.length < SZ) >>= fun _u15 => (pure (dputM s2 k14 a13) : M (List (Tx × Int)))) >>= fun a8 =>
  (pure a8 : M (Dic Int)))) a1 l4) >>= fun s2 =>
  (((pure p1 : M (List (Tx × (Tup Tx)))) >>= fun l18 => forP (fun (s16 : Unit) (e17 : (Tx × (Tup Tx))) => (((((pure e17 : M (Tx × (Tup Tx))) >>= fun x22 => pure x22.1) >>= fun k24 => (pure s2 : M (Dic Int)) >>= fun d25 => (pure (!(dgetM (α := Int) d25 k24).isSome) : M Bool)) >>= fun c26 => if c26 = true then (raise "NoKind" : M Unit) else (pure () : M Unit)) >>= fun s27 =>
  ((((((pure e17 : M (Tx × (Tup Tx))) >>= fun x28 => pure x28.2) >>= fun x30 => (pure ((List.length (α := Tx) x30 : Nat) : Int) : M Int)) >>= fun x35 => ((pure s2 : M (Dic Int)) >>= fun d33 => ((pure e17 : M (Tx × (Tup Tx))) >>= fun x31 => pure x31.1) >>= fun k34 => ofO (dgetM (α := Int) d33 k34)) >>= fun y36 => (pure (!decide (x35 = y36)) : M Bool)) >>= fun c37 => if c37 = true then (raise "BadArgs" : M Unit) else (pure () : M Unit)) >>= fun s38 =>
  (pure () : M Unit)))) () l18) >>= fun s16 =>
  (pure () : M Unit))))

def m_look_at_taken (p0 : (Dic Bool)) (p1 : (List (Tx × (Tup Tx)))) : M Unit :=
  (((pure p1 : M (List (Tx × (Tup Tx)))) >>= fun l3 => forP (fun (s1 : Unit) (e2 : (Tx × (Tup Tx))) => ((((pure p0 : M (Dic Bool)) >>= fun d9 => ((pure e2 : M (Tx × (Tup Tx))) >>= fun x7 => pure x7.1) >>= fun k10 => ofO (dgetM (α := Bool) d9 k10)) >>= fun c11 => if c11 = true then (raise "BadTake" : M Unit) else (pure () : M Unit)) >>= fun s12 =>
  (pure () : M Unit))) () l3) >>= fun s1 =>
  (pure () : M Unit))

def m_Look___init__ (p0 : Tx) (p1 : Tx) : M F_Look :=
  ((pure p0 : M Tx) >>= fun a1 =>
  ((pure p1 : M Tx) >>= fun a2 =>
  (pure (a1, a2, ()) : M F_Look)))

def m_Look_holds (p0 : C_Look) (p1 : Tx) (p2 : Tx) : M Bool :=
  (stuck : M Bool)

def m_Look_word (p0 : C_Look) : M Tx :=
  (pure (tx "") : M Tx)

def m_Same_holds (p0 : C_Look) (p1 : Tx) (p2 : Tx) : M Bool :=
  (stuck : M Bool)

def m_Same_word (p0 : C_Look) : M Tx :=
  (pure (tx "same") : M Tx)

def m_Unlike_holds (p0 : C_Look) (p1 : Tx) (p2 : Tx) : M Bool :=
  (stuck : M Bool)

def m_Unlike_word (p0 : C_Look) : M Tx :=
  (pure (tx "unlike") : M Tx)

def d_Look_holds (x : C_Look) (p0 : Tx) (p1 : Tx) : M Bool := match x.c with
  | 0 => m_Look_holds x p0 p1
  | 1 => m_Same_holds x p0 p1
  | _ => m_Unlike_holds x p0 p1
def d_Look_word (x : C_Look)  : M Tx := match x.c with
  | 0 => m_Look_word x 
  | 1 => m_Same_word x 
  | _ => m_Unlike_word x 

def m_read_kind (p0 : (List Tx)) : M (T3 Tx Int Bool) :=
  (((((pure p0 : M (List Tx)) >>= fun x1 => (pure (x1.length : Int) : M Int)) >>= fun x2 => (pure (3 : Int) : M Int) >>= fun y3 => (pure (!decide (x2 = y3)) : M Bool)) >>= fun c13 => if c13 = true then pure true else (((((pure p0 : M (List Tx)) >>= fun x4 => (pure (1 : Int) : M Int) >>= fun y5 => atL x4 y5) >>= fun x6 => m_is_kind x6) >>= fun c7 => pure (!c7)) >>= fun c12 => if c12 = true then pure true else (((pure p0 : M (List Tx)) >>= fun x8 => (pure (2 : Int) : M Int) >>= fun y9 => atL x8 y9) >>= fun x10 => (pure ((["0", "1", "2", "3", "4"] : List String).map tx) : M (Tup Tx)) >>= fun y11 => (pure (!decide (x10 ∈ (show List Tx from y11))) : M Bool)))) >>= fun c14 => if c14 = true then (raise "NoLine" : M (T3 Tx Int Bool)) else
  (((pure p0 : M (List Tx)) >>= fun x15 => (pure (1 : Int) : M Int) >>= fun y16 => atL x15 y16) >>= fun x24 => (((pure p0 : M (List Tx)) >>= fun x17 => (pure (2 : Int) : M Int) >>= fun y18 => atL x17 y18) >>= fun x19 => intT x19) >>= fun x25 => (((pure p0 : M (List Tx)) >>= fun x20 => (pure (0 : Int) : M Int) >>= fun y21 => atL x20 y21) >>= fun x22 => (pure (tx "lasting") : M Tx) >>= fun y23 => (pure (decide (x22 = y23)) : M Bool)) >>= fun x26 => pure (T3.mk x24 x25 x26)))

def m_take_looks (p0 : (List Tx)) (p1 : Int) : M ((List C_Look) × Int) :=
  ((pure [] : M (List C_Look)) >>= fun a1 =>
  (whT (fun (s2 : (Int × (List C_Look))) => (pure true : M Bool)) (fun (s2 : (Int × (List C_Look))) => (((pure p0 : M (List Tx)) >>= fun x6 => (pure s2.1 : M Int) >>= fun x7 => m_piece_at x6 x7) >>= fun a5 =>
  (((pure p0 : M (List Tx)) >>= fun x11 => ((pure s2.1 : M Int) >>= fun x9 => (pure (1 : Int) : M Int) >>= fun y10 => (pure (x9 + y10) : M Int)) >>= fun x12 => m_piece_at x11 x12) >>= fun a8 =>
  (((pure p0 : M (List Tx)) >>= fun x16 => ((pure s2.1 : M Int) >>= fun x14 => (pure (2 : Int) : M Int) >>= fun y15 => (pure (x14 + y15) : M Int)) >>= fun x17 => m_piece_at x16 x17) >>= fun a13 =>
  (((((pure a5 : M Tx) >>= fun x18 => m_is_name x18) >>= fun c19 => pure (!c19)) >>= fun c22 => if c22 = true then pure true else (((pure a13 : M Tx) >>= fun x20 => m_is_name x20) >>= fun c21 => pure (!c21))) >>= fun c23 => if c23 = true then (raise "NoLine" : M (Tl (Int × (List C_Look)) ((List C_Look) × Int))) else
  ((((pure a8 : M Tx) >>= fun x24 => (pure (tx "same") : M Tx) >>= fun y25 => (pure (decide (x24 = y25)) : M Bool)) >>= fun c26 => if c26 = true then ((((pure a5 : M Tx) >>= fun x29 => (pure a13 : M Tx) >>= fun x30 => m_Look___init__ x29 x30 >>= fun r31 => (pure ⟨1, r31⟩ : M C_Look)) >>= fun a32 => chk (s2.2.length < SZ) >>= fun _u33 => pure a32) >>= fun a28 =>
  (pure (s2.2 ++ [a28]) : M (List C_Look))) else ((((pure a8 : M Tx) >>= fun x34 => (pure (tx "unlike") : M Tx) >>= fun y35 => (pure (decide (x34 = y35)) : M Bool)) >>= fun c36 => if c36 = true then ((((pure a5 : M Tx) >>= fun x39 => (pure a13 : M Tx) >>= fun x40 => m_Look___init__ x39 x40 >>= fun r41 => (pure ⟨2, r41⟩ : M C_Look)) >>= fun a42 => chk (s2.2.length < SZ) >>= fun _u43 => pure a42) >>= fun a38 =>
  (pure (s2.2 ++ [a38]) : M (List C_Look))) else (raise "NoLine" : M (List C_Look))) >>= fun s37 =>
  (pure s37 : M (List C_Look)))) >>= fun s27 =>
  (((pure (3 : Int) : M Int) >>= fun y45 => (pure (s2.1 + y45) : M Int)) >>= fun a44 =>
  ((((pure p0 : M (List Tx)) >>= fun x46 => (pure a44 : M Int) >>= fun x47 => m_piece_at x46 x47) >>= fun x48 => (pure (tx ",") : M Tx) >>= fun y49 => (pure (!decide (x48 = y49)) : M Bool)) >>= fun c50 => if c50 = true then (((pure s27 : M (List C_Look)) >>= fun x51 => (pure a44 : M Int) >>= fun x52 => pure (x51, x52)) >>= fun r53 => (pure (.rt r53) : M (Tl (Int × (List C_Look)) ((List C_Look) × Int)))) else
  (((pure (1 : Int) : M Int) >>= fun y55 => (pure (a44 + y55) : M Int)) >>= fun a54 =>
  (pure (.ct (a54, s27)) : M (Tl (Int × (List C_Look)) ((List C_Look) × Int)))))))))))) FUEL (p1, a1) >>= thenT (fun s2 =>
  (stuck : M ((List C_Look) × Int))) id))

def m_take_pairs (p0 : (List Tx)) (p1 : Int) : M ((List (Tx × Tx)) × Int) :=
  ((pure [] : M (List (Tx × Tx))) >>= fun a1 =>
  (whT (fun (s2 : (Int × (List (Tx × Tx)))) => (pure true : M Bool)) (fun (s2 : (Int × (List (Tx × Tx)))) => (((pure p0 : M (List Tx)) >>= fun x6 => (pure s2.1 : M Int) >>= fun x7 => m_piece_at x6 x7) >>= fun a5 =>
  (((pure p0 : M (List Tx)) >>= fun x11 => ((pure s2.1 : M Int) >>= fun x9 => (pure (2 : Int) : M Int) >>= fun y10 => (pure (x9 + y10) : M Int)) >>= fun x12 => m_piece_at x11 x12) >>= fun a8 =>
  (((((pure a5 : M Tx) >>= fun x13 => m_is_name x13) >>= fun c14 => pure (!c14)) >>= fun c24 => if c24 = true then pure true else ((((pure p0 : M (List Tx)) >>= fun x17 => ((pure s2.1 : M Int) >>= fun x15 => (pure (1 : Int) : M Int) >>= fun y16 => (pure (x15 + y16) : M Int)) >>= fun x18 => m_piece_at x17 x18) >>= fun x19 => (pure (tx "=") : M Tx) >>= fun y20 => (pure (!decide (x19 = y20)) : M Bool)) >>= fun c23 => if c23 = true then pure true else (((pure a8 : M Tx) >>= fun x21 => m_is_name x21) >>= fun c22 => pure (!c22)))) >>= fun c25 => if c25 = true then (raise "NoLine" : M (Tl (Int × (List (Tx × Tx))) ((List (Tx × Tx)) × Int))) else
  ((((pure a5 : M Tx) >>= fun x27 => (pure a8 : M Tx) >>= fun x28 => pure (x27, x28)) >>= fun a29 => chk (s2.2.length < SZ) >>= fun _u30 => pure a29) >>= fun a26 =>
  (((pure (3 : Int) : M Int) >>= fun y32 => (pure (s2.1 + y32) : M Int)) >>= fun a31 =>
  ((((pure p0 : M (List Tx)) >>= fun x33 => (pure a31 : M Int) >>= fun x34 => m_piece_at x33 x34) >>= fun x35 => (pure (tx ",") : M Tx) >>= fun y36 => (pure (!decide (x35 = y36)) : M Bool)) >>= fun c37 => if c37 = true then (((pure (s2.2 ++ [a26]) : M (List (Tx × Tx))) >>= fun x38 => (pure a31 : M Int) >>= fun x39 => pure (x38, x39)) >>= fun r40 => (pure (.rt r40) : M (Tl (Int × (List (Tx × Tx))) ((List (Tx × Tx)) × Int)))) else
  (((pure (1 : Int) : M Int) >>= fun y42 => (pure (a31 + y42) : M Int)) >>= fun a41 =>
  (pure (.ct (a41, (s2.2 ++ [a26]))) : M (Tl (Int × (List (Tx × Tx))) ((List (Tx × Tx)) × Int))))))))))) FUEL (p1, a1) >>= thenT (fun s2 =>
  (stuck : M ((List (Tx × Tx)) × Int))) id))

def m_take_part (p0 : Tx) (p1 : (List Tx)) (p2 : Int) : M (((List (Tx × (Tup Tx))) ⊕ ((List C_Look) ⊕ (List (Tx × Tx)))) × Int) :=
  (((pure p0 : M Tx) >>= fun x1 => (pure (tx "look") : M Tx) >>= fun y2 => (pure (decide (x1 = y2)) : M Bool)) >>= fun c3 => if c3 = true then (((pure p1 : M (List Tx)) >>= fun x4 => (pure p2 : M Int) >>= fun x5 => m_take_looks x4 x5) >>= fun x6 => (pure ((Sum.inr (Sum.inl x6.1), x6.2)) : M (((List (Tx × (Tup Tx))) ⊕ ((List C_Look) ⊕ (List (Tx × Tx)))) × Int))) else
  (((pure p0 : M Tx) >>= fun x7 => (pure (tx "tell") : M Tx) >>= fun y8 => (pure (decide (x7 = y8)) : M Bool)) >>= fun c9 => if c9 = true then (((pure p1 : M (List Tx)) >>= fun x10 => (pure p2 : M Int) >>= fun x11 => m_take_pairs x10 x11) >>= fun x12 => (pure ((Sum.inr (Sum.inr x12.1), x12.2)) : M (((List (Tx × (Tup Tx))) ⊕ ((List C_Look) ⊕ (List (Tx × Tx)))) × Int))) else
  (((pure p1 : M (List Tx)) >>= fun x13 => (pure p2 : M Int) >>= fun x14 => m_take_facts x13 x14) >>= fun x15 => (pure ((Sum.inl x15.1, x15.2)) : M (((List (Tx × (Tup Tx))) ⊕ ((List C_Look) ⊕ (List (Tx × Tx)))) × Int)))))

def m_read_rule (p0 : (List Tx)) : M (Tx × (Dic ((List (Tx × (Tup Tx))) ⊕ ((List C_Look) ⊕ (List (Tx × Tx)))))) :=
  ((((((pure p0 : M (List Tx)) >>= fun x1 => (pure (1 : Int) : M Int) >>= fun x2 => m_piece_at x1 x2) >>= fun x3 => m_is_kind x3) >>= fun c4 => pure (!c4)) >>= fun c9 => if c9 = true then pure true else (((pure p0 : M (List Tx)) >>= fun x5 => (pure (2 : Int) : M Int) >>= fun x6 => m_piece_at x5 x6) >>= fun x7 => (pure (tx ":") : M Tx) >>= fun y8 => (pure (!decide (x7 = y8)) : M Bool))) >>= fun c10 => if c10 = true then (raise "NoLine" : M (Tx × (Dic ((List (Tx × (Tup Tx))) ⊕ ((List C_Look) ⊕ (List (Tx × Tx))))))) else
  ((pure [] : M (List (Tx × ((List (Tx × (Tup Tx))) ⊕ ((List C_Look) ⊕ (List (Tx × Tx))))))) >>= fun a11 =>
  ((pure (0 : Int) : M Int) >>= fun a12 =>
  ((pure (3 : Int) : M Int) >>= fun a13 =>
  (whB (fun (s14 : ((Dic ((List (Tx × (Tup Tx))) ⊕ ((List C_Look) ⊕ (List (Tx × Tx))))) × Int × Int)) => (pure true : M Bool)) (fun (s14 : ((Dic ((List (Tx × (Tup Tx))) ⊕ ((List C_Look) ⊕ (List (Tx × Tx))))) × Int × Int)) => (((pure p0 : M (List Tx)) >>= fun x18 => (pure s14.2.2 : M Int) >>= fun x19 => m_piece_at x18 x19) >>= fun a17 =>
  (((pure a17 : M Tx) >>= fun x24 => ((pure ((["take", "keep", "look", "put", "tell"] : List String).map tx) : M (Tup Tx)) >>= fun s21 => ((pure s14.2.1 : M Int) >>= fun x20 => pure (some x20)) >>= fun l22 => (pure none : M (Option Int)) >>= fun u23 => (pure (cut (α := Tx) s21 l22 u23) : M (Tup Tx))) >>= fun y25 => (pure (!decide (x24 ∈ (show List Tx from y25))) : M Bool)) >>= fun c26 => if c26 = true then (raise "NoLine" : M (Tl ((Dic ((List (Tx × (Tup Tx))) ⊕ ((List C_Look) ⊕ (List (Tx × Tx))))) × Int × Int) No)) else
  ((((pure a17 : M Tx) >>= fun z28 => ofO (idx1 ((["take", "keep", "look", "put", "tell"] : List String).map tx) z28) >>= fun j29 => (pure (j29 : Int) : M Int)) >>= fun x30 => (pure (1 : Int) : M Int) >>= fun y31 => (pure (x30 + y31) : M Int)) >>= fun a27 =>
  (((pure a17 : M Tx) >>= fun x35 => (pure p0 : M (List Tx)) >>= fun x36 => ((pure s14.2.2 : M Int) >>= fun x33 => (pure (1 : Int) : M Int) >>= fun y34 => (pure (x33 + y34) : M Int)) >>= fun x37 => m_take_part x35 x36 x37) >>= fun a32 =>
  ((((pure a32 : M (((List (Tx × (Tup Tx))) ⊕ ((List C_Look) ⊕ (List (Tx × Tx)))) × Int)) >>= fun x39 => pure x39.1) >>= fun a41 => (pure a17 : M Tx) >>= fun k42 => chk (s14.1.length < SZ) >>= fun _u43 => (pure (dputM s14.1 k42 a41) : M (List (Tx × ((List (Tx × (Tup Tx))) ⊕ ((List C_Look) ⊕ (List (Tx × Tx)))))))) >>= fun a38 =>
  (((pure a32 : M (((List (Tx × (Tup Tx))) ⊕ ((List C_Look) ⊕ (List (Tx × Tx)))) × Int)) >>= fun x45 => pure x45.2) >>= fun a44 =>
  (((pure a44 : M Int) >>= fun x48 => ((pure p0 : M (List Tx)) >>= fun x47 => (pure (x47.length : Int) : M Int)) >>= fun y49 => (pure (decide (x48 = y49)) : M Bool)) >>= fun c50 => if c50 = true then (pure (.bk (a38, a27, a44)) : M (Tl ((Dic ((List (Tx × (Tup Tx))) ⊕ ((List C_Look) ⊕ (List (Tx × Tx))))) × Int × Int) No)) else
  ((((pure p0 : M (List Tx)) >>= fun x51 => (pure a44 : M Int) >>= fun y52 => atL x51 y52) >>= fun x53 => (pure (tx ";") : M Tx) >>= fun y54 => (pure (!decide (x53 = y54)) : M Bool)) >>= fun c55 => if c55 = true then (raise "NoLine" : M (Tl ((Dic ((List (Tx × (Tup Tx))) ⊕ ((List C_Look) ⊕ (List (Tx × Tx))))) × Int × Int) No)) else
  (((pure (1 : Int) : M Int) >>= fun y57 => (pure (a44 + y57) : M Int)) >>= fun a56 =>
  (pure (.ct (a38, a27, a56)) : M (Tl ((Dic ((List (Tx × (Tup Tx))) ⊕ ((List C_Look) ⊕ (List (Tx × Tx))))) × Int × Int) No)))))))))))) FUEL (a11, a12, a13) >>= fun s14 =>
  ((((pure (tx "take") : M Tx) >>= fun k58 => (pure s14.1 : M (Dic ((List (Tx × (Tup Tx))) ⊕ ((List C_Look) ⊕ (List (Tx × Tx)))))) >>= fun d59 => (pure (!(dgetM (α := ((List (Tx × (Tup Tx))) ⊕ ((List C_Look) ⊕ (List (Tx × Tx))))) d59 k58).isSome) : M Bool)) >>= fun c62 => if c62 = true then ((pure (tx "keep") : M Tx) >>= fun k60 => (pure s14.1 : M (Dic ((List (Tx × (Tup Tx))) ⊕ ((List C_Look) ⊕ (List (Tx × Tx)))))) >>= fun d61 => (pure (!(dgetM (α := ((List (Tx × (Tup Tx))) ⊕ ((List C_Look) ⊕ (List (Tx × Tx))))) d61 k60).isSome) : M Bool)) else pure false) >>= fun c63 => if c63 = true then (raise "NoLine" : M (Tx × (Dic ((List (Tx × (Tup Tx))) ⊕ ((List C_Look) ⊕ (List (Tx × Tx))))))) else
  (((pure p0 : M (List Tx)) >>= fun x64 => (pure (1 : Int) : M Int) >>= fun y65 => atL x64 y65) >>= fun x66 => (pure s14.1 : M (Dic ((List (Tx × (Tup Tx))) ⊕ ((List C_Look) ⊕ (List (Tx × Tx)))))) >>= fun x67 => pure (x66, x67))))))))

def m_left_out (p0 : Tx) : M Bool :=
  (((pure p0 : M Tx) >>= fun x2 => (pure (tx " ") : M Tx) >>= fun y3 => lstripT x2 y3) >>= fun a1 =>
  (((pure a1 : M Tx) >>= fun x4 => (pure (tx "") : M Tx) >>= fun y5 => (pure (decide (x4 = y5)) : M Bool)) >>= fun c8 => if c8 = true then pure true else ((pure a1 : M Tx) >>= fun x6 => (pure (tx "#") : M Tx) >>= fun y7 => (pure (Txt.startswith (S x6) (S y7)) : M Bool))))

def m_read_line (p0 : Tx) : M (Tx × ((T3 Tx Int Bool) ⊕ (Tx × (Dic ((List (Tx × (Tup Tx))) ⊕ ((List C_Look) ⊕ (List (Tx × Tx)))))))) :=
  (((pure p0 : M Tx) >>= fun x2 => m_pieces x2) >>= fun a1 =>
  (((((pure a1 : M (List Tx)) >>= fun x3 => (pure (0 : Int) : M Int) >>= fun y4 => atL x3 y4) >>= fun x5 => (pure (tx "passing") : M Tx) >>= fun y6 => (pure (decide (x5 = y6)) : M Bool)) >>= fun c11 => if c11 = true then pure true else (((pure a1 : M (List Tx)) >>= fun x7 => (pure (0 : Int) : M Int) >>= fun y8 => atL x7 y8) >>= fun x9 => (pure (tx "lasting") : M Tx) >>= fun y10 => (pure (decide (x9 = y10)) : M Bool))) >>= fun c12 => if c12 = true then ((pure (tx "kind") : M Tx) >>= fun x15 => (((pure a1 : M (List Tx)) >>= fun x13 => m_read_kind x13) >>= fun x14 => (pure (.inl x14) : M ((T3 Tx Int Bool) ⊕ (Tx × (Dic ((List (Tx × (Tup Tx))) ⊕ ((List C_Look) ⊕ (List (Tx × Tx))))))))) >>= fun x16 => pure (x15, x16)) else
  ((((pure a1 : M (List Tx)) >>= fun x17 => (pure (0 : Int) : M Int) >>= fun y18 => atL x17 y18) >>= fun x19 => (pure (tx "rule") : M Tx) >>= fun y20 => (pure (decide (x19 = y20)) : M Bool)) >>= fun c21 => if c21 = true then ((pure (tx "rule") : M Tx) >>= fun x24 => (((pure a1 : M (List Tx)) >>= fun x22 => m_read_rule x22) >>= fun x23 => (pure (.inr x23) : M ((T3 Tx Int Bool) ⊕ (Tx × (Dic ((List (Tx × (Tup Tx))) ⊕ ((List C_Look) ⊕ (List (Tx × Tx))))))))) >>= fun x25 => pure (x24, x25)) else
  (raise "NoLine" : M (Tx × ((T3 Tx Int Bool) ⊕ (Tx × (Dic ((List (Tx × (Tup Tx))) ⊕ ((List C_Look) ⊕ (List (Tx × Tx))))))))))))

def m_open_names (p0 : (List (Tx × (Tup Tx)))) : M (List Tx) :=
  ((pure [] : M (List Tx)) >>= fun a1 =>
  (((pure p0 : M (List (Tx × (Tup Tx)))) >>= fun l4 => forP (fun (s2 : (List Tx)) (e3 : (Tx × (Tup Tx))) => (((((pure e3 : M (Tx × (Tup Tx))) >>= fun x8 => pure x8.2) : M (List Tx)) >>= fun l12 => forP (fun (s10 : (List Tx)) (e11 : Tx) => (((((pure e11 : M Tx) >>= fun x16 => m_is_open x16) >>= fun c19 => if c19 = true then ((pure e11 : M Tx) >>= fun x17 => (pure s10 : M (List Tx)) >>= fun y18 => (pure (!decide (x17 ∈ y18)) : M Bool)) else pure false) >>= fun c20 => if c20 = true then (((pure e11 : M Tx) >>= fun a23 => chk (s10.length < SZ) >>= fun _u24 => pure a23) >>= fun a22 =>
  (pure (s10 ++ [a22]) : M (List Tx))) else (pure s10 : M (List Tx))) >>= fun s21 =>
  (pure s21 : M (List Tx)))) s2 l12) >>= fun s10 =>
  (pure s10 : M (List Tx)))) a1 l4) >>= fun s2 =>
  (pure s2 : M (List Tx))))

def m_Rule___init__ (p0 : Tx) (p1 : (Dic ((List (Tx × (Tup Tx))) ⊕ ((List C_Look) ⊕ (List (Tx × Tx)))))) : M F_Rule :=
  ((pure p0 : M Tx) >>= fun a1 =>
  (((((pure p1 : M (Dic ((List (Tx × (Tup Tx))) ⊕ ((List C_Look) ⊕ (List (Tx × Tx)))))) >>= fun d3 => (pure (tx "take") : M Tx) >>= fun k4 => ((pure [] : M (List (Tx × (Tup Tx)))) >>= fun x2 => (pure (.inl x2) : M ((List (Tx × (Tup Tx))) ⊕ ((List C_Look) ⊕ (List (Tx × Tx)))))) >>= fun x5 => (pure ((dgetM (α := ((List (Tx × (Tup Tx))) ⊕ ((List C_Look) ⊕ (List (Tx × Tx))))) d3 k4).getD x5) : M ((List (Tx × (Tup Tx))) ⊕ ((List C_Look) ⊕ (List (Tx × Tx)))))) >>= fun x7 => lf1 x7) >>= fun x6 => (pure x6 : M (List (Tx × (Tup Tx))))) >>= fun a8 =>
  (((((pure p1 : M (Dic ((List (Tx × (Tup Tx))) ⊕ ((List C_Look) ⊕ (List (Tx × Tx)))))) >>= fun d10 => (pure (tx "keep") : M Tx) >>= fun k11 => ((pure [] : M (List (Tx × (Tup Tx)))) >>= fun x9 => (pure (.inl x9) : M ((List (Tx × (Tup Tx))) ⊕ ((List C_Look) ⊕ (List (Tx × Tx)))))) >>= fun x12 => (pure ((dgetM (α := ((List (Tx × (Tup Tx))) ⊕ ((List C_Look) ⊕ (List (Tx × Tx))))) d10 k11).getD x12) : M ((List (Tx × (Tup Tx))) ⊕ ((List C_Look) ⊕ (List (Tx × Tx)))))) >>= fun x14 => lf1 x14) >>= fun x13 => (pure x13 : M (List (Tx × (Tup Tx))))) >>= fun a15 =>
  (((((pure p1 : M (Dic ((List (Tx × (Tup Tx))) ⊕ ((List C_Look) ⊕ (List (Tx × Tx)))))) >>= fun d17 => (pure (tx "look") : M Tx) >>= fun k18 => ((pure [] : M (List (Tx × (Tup Tx)))) >>= fun x16 => (pure (.inl x16) : M ((List (Tx × (Tup Tx))) ⊕ ((List C_Look) ⊕ (List (Tx × Tx)))))) >>= fun x19 => (pure ((dgetM (α := ((List (Tx × (Tup Tx))) ⊕ ((List C_Look) ⊕ (List (Tx × Tx))))) d17 k18).getD x19) : M ((List (Tx × (Tup Tx))) ⊕ ((List C_Look) ⊕ (List (Tx × Tx)))))) >>= fun x21 => lf2 x21) >>= fun x20 => (pure x20 : M (List C_Look))) >>= fun a22 =>
  (((((pure p1 : M (Dic ((List (Tx × (Tup Tx))) ⊕ ((List C_Look) ⊕ (List (Tx × Tx)))))) >>= fun d24 => (pure (tx "put") : M Tx) >>= fun k25 => ((pure [] : M (List (Tx × (Tup Tx)))) >>= fun x23 => (pure (.inl x23) : M ((List (Tx × (Tup Tx))) ⊕ ((List C_Look) ⊕ (List (Tx × Tx)))))) >>= fun x26 => (pure ((dgetM (α := ((List (Tx × (Tup Tx))) ⊕ ((List C_Look) ⊕ (List (Tx × Tx))))) d24 k25).getD x26) : M ((List (Tx × (Tup Tx))) ⊕ ((List C_Look) ⊕ (List (Tx × Tx)))))) >>= fun x28 => lf1 x28) >>= fun x27 => (pure x27 : M (List (Tx × (Tup Tx))))) >>= fun a29 =>
  (((((pure p1 : M (Dic ((List (Tx × (Tup Tx))) ⊕ ((List C_Look) ⊕ (List (Tx × Tx)))))) >>= fun d31 => (pure (tx "tell") : M Tx) >>= fun k32 => ((pure [] : M (List (Tx × (Tup Tx)))) >>= fun x30 => (pure (.inl x30) : M ((List (Tx × (Tup Tx))) ⊕ ((List C_Look) ⊕ (List (Tx × Tx)))))) >>= fun x33 => (pure ((dgetM (α := ((List (Tx × (Tup Tx))) ⊕ ((List C_Look) ⊕ (List (Tx × Tx))))) d31 k32).getD x33) : M ((List (Tx × (Tup Tx))) ⊕ ((List C_Look) ⊕ (List (Tx × Tx)))))) >>= fun x35 => lf3 x35) >>= fun x34 => (pure x34 : M (List (Tx × Tx)))) >>= fun a36 =>
  ((((pure a8 : M (List (Tx × (Tup Tx)))) >>= fun x37 => (pure a15 : M (List (Tx × (Tup Tx)))) >>= fun y38 => catM x37 y38) >>= fun x39 => m_open_names x39) >>= fun a40 =>
  (pure (a1, a8, a15, a22, a29, a36, a40, ()) : M F_Rule))))))))

def m_Rule_calls (p0 : C_Rule) : M Bool :=
  ((((pure p0 : M C_Rule) >>= fun x1 => (pure x1.f.2.1 : M (List (Tx × (Tup Tx))))) >>= fun x2 => (pure (x2.length : Int) : M Int)) >>= fun x3 => (pure (0 : Int) : M Int) >>= fun y4 => (pure (decide (x3 = y4)) : M Bool))

def d_Rule_calls (x : C_Rule)  : M Bool := match x.c with
  | _ => m_Rule_calls x 

def m_Book___init__ (p0 : (List (T3 Tx Int Bool))) (p1 : (List C_Rule)) : M F_Book :=
  (((pure p0 : M (List (T3 Tx Int Bool))) >>= fun x1 => (pure x1 : M (List (T3 Tx Int Bool)))) >>= fun a2 =>
  (((pure p1 : M (List C_Rule)) >>= fun x3 => (pure x3 : M (List C_Rule))) >>= fun a4 =>
  (pure (a2, a4, ()) : M F_Book)))


def m_keep_line (p0 : (List (T3 Tx Int Bool))) (p1 : (List (Tx × (Dic ((List (Tx × (Tup Tx))) ⊕ ((List C_Look) ⊕ (List (Tx × Tx)))))))) (p2 : Tx) : M ((List (T3 Tx Int Bool)) × (List (Tx × (Dic ((List (Tx × (Tup Tx))) ⊕ ((List C_Look) ⊕ (List (Tx × Tx)))))))) :=
  (((pure p2 : M Tx) >>= fun x2 => m_read_line x2) >>= fun a1 =>
  ((((pure a1 : M (Tx × ((T3 Tx Int Bool) ⊕ (Tx × (Dic ((List (Tx × (Tup Tx))) ⊕ ((List C_Look) ⊕ (List (Tx × Tx))))))))) >>= fun x3 => pure x3.1) >>= fun x5 => (pure (tx "kind") : M Tx) >>= fun y6 => (pure (decide (x5 = y6)) : M Bool)) >>= fun t7 => if t7 = true then ((pure () : M Unit) >>= fun _ => ((((((pure a1 : M (Tx × ((T3 Tx Int Bool) ⊕ (Tx × (Dic ((List (Tx × (Tup Tx))) ⊕ ((List C_Look) ⊕ (List (Tx × Tx))))))))) >>= fun x8 => pure x8.2) >>= fun x10 => (getL x10 : M (T3 Tx Int Bool))) >>= fun x11 => pure x11.a) >>= fun x17 => ((pure p0 : M (List (T3 Tx Int Bool))) >>= fun y16 => lc (fun e13 => ((pure e13 : M (T3 Tx Int Bool)) >>= fun x14 => pure x14.a)) y16) >>= fun y18 => (pure (decide (x17 ∈ y18)) : M Bool)) >>= fun t19 => if t19 = true then (raise "Twice" : M ((List (T3 Tx Int Bool)) × (List (Tx × (Dic ((List (Tx × (Tup Tx))) ⊕ ((List C_Look) ⊕ (List (Tx × Tx))))))))) else ((((pure a1 : M (Tx × ((T3 Tx Int Bool) ⊕ (Tx × (Dic ((List (Tx × (Tup Tx))) ⊕ ((List C_Look) ⊕ (List (Tx × Tx))))))))) >>= fun x20 => pure x20.2) >>= fun x22 => (getL x22 : M (T3 Tx Int Bool))) >>= fun a23 => chk (p0.length < SZ) >>= fun _u24 => pure (p0 ++ [a23], p1)))) else ((pure () : M Unit) >>= fun _ => ((((((pure a1 : M (Tx × ((T3 Tx Int Bool) ⊕ (Tx × (Dic ((List (Tx × (Tup Tx))) ⊕ ((List C_Look) ⊕ (List (Tx × Tx))))))))) >>= fun x25 => pure x25.2) >>= fun x28 => (getR x28 : M (Tx × (Dic ((List (Tx × (Tup Tx))) ⊕ ((List C_Look) ⊕ (List (Tx × Tx)))))))) >>= fun x29 => pure x29.1) >>= fun x35 => ((pure p1 : M (List (Tx × (Dic ((List (Tx × (Tup Tx))) ⊕ ((List C_Look) ⊕ (List (Tx × Tx)))))))) >>= fun y34 => lc (fun e31 => ((pure e31 : M (Tx × (Dic ((List (Tx × (Tup Tx))) ⊕ ((List C_Look) ⊕ (List (Tx × Tx))))))) >>= fun x32 => pure x32.1)) y34) >>= fun y36 => (pure (decide (x35 ∈ y36)) : M Bool)) >>= fun t37 => if t37 = true then (raise "Twice" : M ((List (T3 Tx Int Bool)) × (List (Tx × (Dic ((List (Tx × (Tup Tx))) ⊕ ((List C_Look) ⊕ (List (Tx × Tx))))))))) else ((((pure a1 : M (Tx × ((T3 Tx Int Bool) ⊕ (Tx × (Dic ((List (Tx × (Tup Tx))) ⊕ ((List C_Look) ⊕ (List (Tx × Tx))))))))) >>= fun x38 => pure x38.2) >>= fun x41 => (getR x41 : M (Tx × (Dic ((List (Tx × (Tup Tx))) ⊕ ((List C_Look) ⊕ (List (Tx × Tx)))))))) >>= fun a42 => chk (p1.length < SZ) >>= fun _u43 => pure (p0, p1 ++ [a42]))))))

def m_look_at_rule (p0 : (List (T3 Tx Int Bool))) (p1 : C_Rule) : M Unit :=
  ((((pure p0 : M (List (T3 Tx Int Bool))) >>= fun x9 => ((((pure p1 : M C_Rule) >>= fun x2 => (pure x2.f.2.1 : M (List (Tx × (Tup Tx))))) >>= fun x4 => ((pure p1 : M C_Rule) >>= fun x3 => (pure x3.f.2.2.1 : M (List (Tx × (Tup Tx))))) >>= fun y5 => catM x4 y5) >>= fun x7 => ((pure p1 : M C_Rule) >>= fun x6 => (pure x6.f.2.2.2.2.1 : M (List (Tx × (Tup Tx))))) >>= fun y8 => catM x7 y8) >>= fun x10 => m_look_at_facts x9 x10) >>= fun _y11 => (pure () : M Unit)) >>= fun a1 =>
  (((pure p0 : M (List (T3 Tx Int Bool))) >>= fun x13 => m_kind_lasts x13) >>= fun a12 =>
  ((((pure a12 : M (Dic Bool)) >>= fun x16 => ((pure p1 : M C_Rule) >>= fun x15 => (pure x15.f.2.1 : M (List (Tx × (Tup Tx))))) >>= fun x17 => m_look_at_taken x16 x17) >>= fun _y18 => (pure () : M Unit)) >>= fun a14 =>
  ((((pure p1 : M C_Rule) >>= fun x19 => d_Rule_calls x19) >>= fun c20 => if c20 = true then ((((pure p1 : M C_Rule) >>= fun x22 => (pure x22.f.2.2.2.2.1 : M (List (Tx × (Tup Tx))))) >>= fun l25 => forP (fun (s23 : Unit) (e24 : (Tx × (Tup Tx))) => (((((pure a12 : M (Dic Bool)) >>= fun d31 => ((pure e24 : M (Tx × (Tup Tx))) >>= fun x29 => pure x29.1) >>= fun k32 => ofO (dgetM (α := Bool) d31 k32)) >>= fun c33 => pure (!c33)) >>= fun c34 => if c34 = true then (raise "BadCall" : M Unit) else (pure () : M Unit)) >>= fun s35 =>
  (pure () : M Unit))) () l25) >>= fun s23 =>
  (pure () : M Unit)) else (pure () : M Unit)) >>= fun s21 =>
  ((pure [] : M (List Tx)) >>= fun a36 =>
  ((((pure p1 : M C_Rule) >>= fun x37 => (pure x37.f.2.2.2.1 : M (List C_Look))) >>= fun l40 => forP (fun (s38 : (List Tx)) (e39 : C_Look) => (((((pure e39 : M C_Look) >>= fun x45 => (pure x45.f.1 : M Tx)) >>= fun x49 => (((pure e39 : M C_Look) >>= fun x46 => (pure x46.f.2.1 : M Tx)) >>= fun x47 => (pure [] : M (List Tx)) >>= fun r48 => pure (x47 :: r48)) >>= fun r50 => pure (x49 :: r50)) >>= fun y51 => catM s38 y51) >>= fun a44 =>
  (pure a44 : M (List Tx)))) a36 l40) >>= fun s38 =>
  ((((pure p1 : M C_Rule) >>= fun x52 => (pure x52.f.2.2.2.2.1 : M (List (Tx × (Tup Tx))))) >>= fun l55 => forP (fun (s53 : (List Tx)) (e54 : (Tx × (Tup Tx))) => (((((pure e54 : M (Tx × (Tup Tx))) >>= fun x60 => pure x60.2) >>= fun x62 => (pure x62 : M (List Tx))) >>= fun y63 => catM s53 y63) >>= fun a59 =>
  (pure a59 : M (List Tx)))) s38 l55) >>= fun s53 =>
  ((((pure p1 : M C_Rule) >>= fun x64 => (pure x64.f.2.2.2.2.2.1 : M (List (Tx × Tx)))) >>= fun l67 => forP (fun (s65 : (List Tx)) (e66 : (Tx × Tx)) => ((((pure e66 : M (Tx × Tx)) >>= fun x72 => (pure [x72.1, x72.2] : M (List Tx))) >>= fun y73 => catM s65 y73) >>= fun a71 =>
  (pure a71 : M (List Tx)))) s53 l67) >>= fun s65 =>
  (((pure s65 : M (List Tx)) >>= fun l76 => forP (fun (s74 : Unit) (e75 : Tx) => (((((pure e75 : M Tx) >>= fun x80 => m_is_open x80) >>= fun c84 => if c84 = true then ((pure e75 : M Tx) >>= fun x82 => ((pure p1 : M C_Rule) >>= fun x81 => (pure x81.f.2.2.2.2.2.2.1 : M (List Tx))) >>= fun y83 => (pure (!decide (x82 ∈ y83)) : M Bool)) else pure false) >>= fun c85 => if c85 = true then (raise "NoName" : M Unit) else (pure () : M Unit)) >>= fun s86 =>
  (pure () : M Unit))) () l76) >>= fun s74 =>
  (pure () : M Unit))))))))))

def m_made_book (p0 : (List (T3 Tx Int Bool))) (p1 : (List (Tx × (Dic ((List (Tx × (Tup Tx))) ⊕ ((List C_Look) ⊕ (List (Tx × Tx)))))))) : M C_Book :=
  ((pure [] : M (List C_Rule)) >>= fun a1 =>
  (((pure p1 : M (List (Tx × (Dic ((List (Tx × (Tup Tx))) ⊕ ((List C_Look) ⊕ (List (Tx × Tx)))))))) >>= fun l4 => forP (fun (s2 : (List C_Rule)) (e3 : (Tx × (Dic ((List (Tx × (Tup Tx))) ⊕ ((List C_Look) ⊕ (List (Tx × Tx))))))) => ((((pure e3 : M (Tx × (Dic ((List (Tx × (Tup Tx))) ⊕ ((List C_Look) ⊕ (List (Tx × Tx))))))) >>= fun x9 => pure x9.1) >>= fun x13 => ((pure e3 : M (Tx × (Dic ((List (Tx × (Tup Tx))) ⊕ ((List C_Look) ⊕ (List (Tx × Tx))))))) >>= fun x11 => pure x11.2) >>= fun x14 => m_Rule___init__ x13 x14 >>= fun r15 => (pure ⟨0, r15⟩ : M C_Rule)) >>= fun a8 =>
  ((((pure p0 : M (List (T3 Tx Int Bool))) >>= fun x17 => (pure a8 : M C_Rule) >>= fun x18 => m_look_at_rule x17 x18) >>= fun _y19 => (pure () : M Unit)) >>= fun a16 =>
  (((pure a8 : M C_Rule) >>= fun a21 => chk (s2.length < SZ) >>= fun _u22 => pure a21) >>= fun a20 =>
  (pure (s2 ++ [a20]) : M (List C_Rule)))))) a1 l4) >>= fun s2 =>
  ((pure p0 : M (List (T3 Tx Int Bool))) >>= fun x23 => (pure s2 : M (List C_Rule)) >>= fun x24 => m_Book___init__ x23 x24 >>= fun r25 => (pure ⟨0, r25⟩ : M C_Book))))

def m_read_book (p0 : Tx) : M C_Book :=
  ((pure [] : M (List (T3 Tx Int Bool))) >>= fun a1 =>
  ((pure [] : M (List (Tx × (Dic ((List (Tx × (Tup Tx))) ⊕ ((List C_Look) ⊕ (List (Tx × Tx)))))))) >>= fun a2 =>
  ((((pure p0 : M Tx) >>= fun x3 => (pure (tx "\n") : M Tx) >>= fun y4 => splitT x3 y4) >>= fun l7 => forP (fun (s5 : ((List (T3 Tx Int Bool)) × (List (Tx × (Dic ((List (Tx × (Tup Tx))) ⊕ ((List C_Look) ⊕ (List (Tx × Tx))))))))) (e6 : Tx) => (((((pure e6 : M Tx) >>= fun x11 => m_left_out x11) >>= fun c12 => pure (!c12)) >>= fun c13 => if c13 = true then (((pure e6 : M Tx) >>= fun a16 => m_keep_line s5.1 s5.2 a16) >>= fun a15 =>
  (pure (a15.1, a15.2) : M ((List (T3 Tx Int Bool)) × (List (Tx × (Dic ((List (Tx × (Tup Tx))) ⊕ ((List C_Look) ⊕ (List (Tx × Tx)))))))))) else (pure (s5.1, s5.2) : M ((List (T3 Tx Int Bool)) × (List (Tx × (Dic ((List (Tx × (Tup Tx))) ⊕ ((List C_Look) ⊕ (List (Tx × Tx)))))))))) >>= fun s14 =>
  (pure (s14.1, s14.2) : M ((List (T3 Tx Int Bool)) × (List (Tx × (Dic ((List (Tx × (Tup Tx))) ⊕ ((List C_Look) ⊕ (List (Tx × Tx))))))))))) (a1, a2) l7) >>= fun s5 =>
  ((pure s5.1 : M (List (T3 Tx Int Bool))) >>= fun x17 => (pure s5.2 : M (List (Tx × (Dic ((List (Tx × (Tup Tx))) ⊕ ((List C_Look) ⊕ (List (Tx × Tx)))))))) >>= fun x18 => m_made_book x17 x18))))

def m_rule_text (p0 : C_Rule) : M Tx :=
  ((pure [] : M (List Tx)) >>= fun a1 =>
  ((((((pure p0 : M C_Rule) >>= fun x2 => (pure x2.f.2.1 : M (List (Tx × (Tup Tx))))) >>= fun x3 => (pure (x3.length : Int) : M Int)) >>= fun x4 => (pure (0 : Int) : M Int) >>= fun y5 => (pure (decide (y5 < x4)) : M Bool)) >>= fun c6 => if c6 = true then ((((pure (tx "take ") : M Tx) >>= fun x11 => (((pure p0 : M C_Rule) >>= fun x9 => (pure x9.f.2.1 : M (List (Tx × (Tup Tx))))) >>= fun x10 => m_facts_text x10) >>= fun y12 => addT x11 y12) >>= fun a13 => chk (a1.length < SZ) >>= fun _u14 => pure a13) >>= fun a8 =>
  (pure (a1 ++ [a8]) : M (List Tx))) else (pure a1 : M (List Tx))) >>= fun s7 =>
  ((((((pure p0 : M C_Rule) >>= fun x15 => (pure x15.f.2.2.1 : M (List (Tx × (Tup Tx))))) >>= fun x16 => (pure (x16.length : Int) : M Int)) >>= fun x17 => (pure (0 : Int) : M Int) >>= fun y18 => (pure (decide (y18 < x17)) : M Bool)) >>= fun c19 => if c19 = true then ((((pure (tx "keep ") : M Tx) >>= fun x24 => (((pure p0 : M C_Rule) >>= fun x22 => (pure x22.f.2.2.1 : M (List (Tx × (Tup Tx))))) >>= fun x23 => m_facts_text x23) >>= fun y25 => addT x24 y25) >>= fun a26 => chk (s7.length < SZ) >>= fun _u27 => pure a26) >>= fun a21 =>
  (pure (s7 ++ [a21]) : M (List Tx))) else (pure s7 : M (List Tx))) >>= fun s20 =>
  ((((((pure p0 : M C_Rule) >>= fun x28 => (pure x28.f.2.2.2.1 : M (List C_Look))) >>= fun x29 => (pure (x29.length : Int) : M Int)) >>= fun x30 => (pure (0 : Int) : M Int) >>= fun y31 => (pure (decide (y31 < x30)) : M Bool)) >>= fun c32 => if c32 = true then ((((pure (tx "look ") : M Tx) >>= fun x51 => ((pure (tx ", ") : M Tx) >>= fun x49 => (((pure p0 : M C_Rule) >>= fun x35 => (pure x35.f.2.2.2.1 : M (List C_Look))) >>= fun y48 => lc (fun e36 => ((((((pure e36 : M C_Look) >>= fun x37 => (pure x37.f.1 : M Tx)) >>= fun x38 => (pure (tx " ") : M Tx) >>= fun y39 => addT x38 y39) >>= fun x41 => ((pure e36 : M C_Look) >>= fun x40 => d_Look_word x40) >>= fun y42 => addT x41 y42) >>= fun x43 => (pure (tx " ") : M Tx) >>= fun y44 => addT x43 y44) >>= fun x46 => ((pure e36 : M C_Look) >>= fun x45 => (pure x45.f.2.1 : M Tx)) >>= fun y47 => addT x46 y47)) y48) >>= fun y50 => joinM x49 y50) >>= fun y52 => addT x51 y52) >>= fun a53 => chk (s20.length < SZ) >>= fun _u54 => pure a53) >>= fun a34 =>
  (pure (s20 ++ [a34]) : M (List Tx))) else (pure s20 : M (List Tx))) >>= fun s33 =>
  ((((((pure p0 : M C_Rule) >>= fun x55 => (pure x55.f.2.2.2.2.1 : M (List (Tx × (Tup Tx))))) >>= fun x56 => (pure (x56.length : Int) : M Int)) >>= fun x57 => (pure (0 : Int) : M Int) >>= fun y58 => (pure (decide (y58 < x57)) : M Bool)) >>= fun c59 => if c59 = true then ((((pure (tx "put ") : M Tx) >>= fun x64 => (((pure p0 : M C_Rule) >>= fun x62 => (pure x62.f.2.2.2.2.1 : M (List (Tx × (Tup Tx))))) >>= fun x63 => m_facts_text x63) >>= fun y65 => addT x64 y65) >>= fun a66 => chk (s33.length < SZ) >>= fun _u67 => pure a66) >>= fun a61 =>
  (pure (s33 ++ [a61]) : M (List Tx))) else (pure s33 : M (List Tx))) >>= fun s60 =>
  ((((((pure p0 : M C_Rule) >>= fun x68 => (pure x68.f.2.2.2.2.2.1 : M (List (Tx × Tx)))) >>= fun x69 => (pure (x69.length : Int) : M Int)) >>= fun x70 => (pure (0 : Int) : M Int) >>= fun y71 => (pure (decide (y71 < x70)) : M Bool)) >>= fun c72 => if c72 = true then ((((pure (tx "tell ") : M Tx) >>= fun x88 => ((pure (tx ", ") : M Tx) >>= fun x86 => (((pure p0 : M C_Rule) >>= fun x75 => (pure x75.f.2.2.2.2.2.1 : M (List (Tx × Tx)))) >>= fun y85 => lc (fun e76 => ((((pure e76 : M (Tx × Tx)) >>= fun x77 => pure x77.1) >>= fun x79 => (pure (tx " = ") : M Tx) >>= fun y80 => addT x79 y80) >>= fun x83 => ((pure e76 : M (Tx × Tx)) >>= fun x81 => pure x81.2) >>= fun y84 => addT x83 y84)) y85) >>= fun y87 => joinM x86 y87) >>= fun y89 => addT x88 y89) >>= fun a90 => chk (s60.length < SZ) >>= fun _u91 => pure a90) >>= fun a74 =>
  (pure (s60 ++ [a74]) : M (List Tx))) else (pure s60 : M (List Tx))) >>= fun s73 =>
  ((((pure (tx "rule ") : M Tx) >>= fun x93 => ((pure p0 : M C_Rule) >>= fun x92 => (pure x92.f.1 : M Tx)) >>= fun y94 => addT x93 y94) >>= fun x95 => (pure (tx ": ") : M Tx) >>= fun y96 => addT x95 y96) >>= fun x99 => ((pure (tx "; ") : M Tx) >>= fun x97 => (pure s73 : M (List Tx)) >>= fun y98 => joinM x97 y98) >>= fun y100 => addT x99 y100)))))))

def m_book_text (p0 : C_Book) : M Tx :=
  ((pure [] : M (List Tx)) >>= fun a1 =>
  ((((pure p0 : M C_Book) >>= fun x2 => (pure x2.f.1 : M (List (T3 Tx Int Bool)))) >>= fun l5 => forP (fun (s3 : (List Tx)) (e4 : (T3 Tx Int Bool)) => ((pure (tx "passing ") : M Tx) >>= fun a9 =>
  ((((pure e4 : M (T3 Tx Int Bool)) >>= fun x10 => pure x10.c) >>= fun c12 => if c12 = true then ((pure (tx "lasting ") : M Tx) >>= fun a14 =>
  (pure a14 : M Tx)) else (pure a9 : M Tx)) >>= fun s13 =>
  ((((((pure s13 : M Tx) >>= fun x18 => ((pure e4 : M (T3 Tx Int Bool)) >>= fun x16 => pure x16.a) >>= fun y19 => addT x18 y19) >>= fun x20 => (pure (tx " ") : M Tx) >>= fun y21 => addT x20 y21) >>= fun x25 => (((pure e4 : M (T3 Tx Int Bool)) >>= fun x22 => pure x22.b) >>= fun x24 => strI x24) >>= fun y26 => addT x25 y26) >>= fun a27 => chk (s3.length < SZ) >>= fun _u28 => pure a27) >>= fun a15 =>
  (pure (s3 ++ [a15]) : M (List Tx)))))) a1 l5) >>= fun s3 =>
  ((((pure p0 : M C_Book) >>= fun x29 => (pure x29.f.2.1 : M (List C_Rule))) >>= fun l32 => forP (fun (s30 : (List Tx)) (e31 : C_Rule) => ((((pure e31 : M C_Rule) >>= fun x37 => m_rule_text x37) >>= fun a38 => chk (s30.length < SZ) >>= fun _u39 => pure a38) >>= fun a36 =>
  (pure (s30 ++ [a36]) : M (List Tx)))) s3 l32) >>= fun s30 =>
  ((pure (tx "\n") : M Tx) >>= fun x40 => (pure s30 : M (List Tx)) >>= fun y41 => joinM x40 y41))))

def m__law_cell_at (p0 : (List Int)) (p1 : Int) : M Int :=
  (((pure p1 : M Int) >>= fun x2 => ((pure p0 : M (List Int)) >>= fun x1 => (pure (x1.length : Int) : M Int)) >>= fun y3 => (pure (decide (x2 < y3)) : M Bool)) >>= fun c4 => if c4 = true then ((pure p0 : M (List Int)) >>= fun x5 => (pure p1 : M Int) >>= fun y6 => atL x5 y6) else
  (pure (0 : Int) : M Int))

def m__law_mix (p0 : Int) (p1 : Int) : M Int :=
  ((((pure (48271 : Int) : M Int) >>= fun x14 => ((pure (69621 : Int) : M Int) >>= fun x12 => ((pure (16807 : Int) : M Int) >>= fun x10 => ((pure (40692 : Int) : M Int) >>= fun x8 => ((pure (30269 : Int) : M Int) >>= fun x6 => ((pure (62089 : Int) : M Int) >>= fun x4 => ((pure (45991 : Int) : M Int) >>= fun x2 => (pure [] : M (List Int)) >>= fun r3 => pure (x2 :: r3)) >>= fun r5 => pure (x4 :: r5)) >>= fun r7 => pure (x6 :: r7)) >>= fun r9 => pure (x8 :: r9)) >>= fun r11 => pure (x10 :: r11)) >>= fun r13 => pure (x12 :: r13)) >>= fun r15 => pure (x14 :: r15)) >>= fun x16 => ((pure p1 : M Int) >>= fun x18 => (pure (7 : Int) : M Int) >>= fun y19 => modI x18 y19) >>= fun y17 => atL x16 y17) >>= fun a1 =>
  (((((pure p0 : M Int) >>= fun x20 => (pure (1000003 : Int) : M Int) >>= fun y21 => modI x20 y21) >>= fun x24 => ((pure (31 : Int) : M Int) >>= fun x22 => (pure p1 : M Int) >>= fun y23 => mulI x22 y23) >>= fun y25 => (pure (x24 + y25) : M Int)) >>= fun x26 => (pure a1 : M Int) >>= fun y27 => mulI x26 y27) >>= fun x28 => (pure (999983 : Int) : M Int) >>= fun y29 => modI x28 y29))

def m__law_names (p0 : Int) (p1 : Int) (p2 : Tx) : M (List Tx) :=
  ((pure (tx "abcdefghijklmnopqrstuvwxyz0123456789ABCDEFGHIJKLMNOPQRSTUVWXYZ") : M Tx) >>= fun a1 =>
  (((pure p0 : M Int) >>= fun x3 => (pure (0 : Int) : M Int) >>= fun x4 => m__law_mix x3 x4) >>= fun a2 =>
  ((((pure a2 : M Int) >>= fun x6 => (pure (5 : Int) : M Int) >>= fun y7 => divI x6 y7) >>= fun x9 => ((pure p2 : M Tx) >>= fun x8 => lenT x8) >>= fun y10 => modI x9 y10) >>= fun a5 =>
  (((pure (tx "") : M Tx) >>= fun x27 => (((pure (11 : Int) : M Int) >>= fun x12 => range1 x12) >>= fun y26 => lc (fun e13 => ((pure a1 : M Tx) >>= fun x14 => ((((pure a2 : M Int) >>= fun x18 => ((pure e13 : M Int) >>= fun x16 => (pure (1 : Int) : M Int) >>= fun y17 => (pure (x16 + y17) : M Int)) >>= fun y19 => divI x18 y19) >>= fun x22 => ((pure e13 : M Int) >>= fun x20 => (pure e13 : M Int) >>= fun y21 => mulI x20 y21) >>= fun y23 => (pure (x22 + y23) : M Int)) >>= fun x24 => (pure (62 : Int) : M Int) >>= fun y25 => modI x24 y25) >>= fun y15 => atT x14 y15)) y26) >>= fun y28 => joinM x27 y28) >>= fun a11 =>
  ((((pure a2 : M Int) >>= fun x29 => (pure (3 : Int) : M Int) >>= fun y30 => modI x29 y30) >>= fun x31 => (pure (0 : Int) : M Int) >>= fun y32 => (pure (decide (x31 = y32)) : M Bool)) >>= fun c33 => if c33 = true then (((pure p1 : M Int) >>= fun x34 => range1 x34) >>= fun y44 => lc (fun e35 => (((pure p2 : M Tx) >>= fun x36 => (pure a5 : M Int) >>= fun y37 => atT x36 y37) >>= fun x42 => ((pure a11 : M Tx) >>= fun s39 => (pure none : M (Option Int)) >>= fun l40 => ((pure e35 : M Int) >>= fun x38 => pure (some x38)) >>= fun u41 => cutT s39 l40 u41) >>= fun y43 => addT x42 y43)) y44) else
  ((((pure a2 : M Int) >>= fun x45 => (pure (3 : Int) : M Int) >>= fun y46 => modI x45 y46) >>= fun x47 => (pure (1 : Int) : M Int) >>= fun y48 => (pure (decide (x47 = y48)) : M Bool)) >>= fun c49 => if c49 = true then ((((pure a2 : M Int) >>= fun x51 => (pure (3 : Int) : M Int) >>= fun y52 => divI x51 y52) >>= fun x53 => (pure (12 : Int) : M Int) >>= fun y54 => modI x53 y54) >>= fun a50 =>
  (((pure p1 : M Int) >>= fun x55 => range1 x55) >>= fun y70 => lc (fun e56 => (((pure p2 : M Tx) >>= fun x57 => (((pure a5 : M Int) >>= fun x59 => (pure e56 : M Int) >>= fun y60 => (pure (x59 + y60) : M Int)) >>= fun x62 => ((pure p2 : M Tx) >>= fun x61 => lenT x61) >>= fun y63 => modI x62 y63) >>= fun y58 => atT x57 y58) >>= fun x68 => ((pure a11 : M Tx) >>= fun s65 => (pure none : M (Option Int)) >>= fun l66 => ((pure a50 : M Int) >>= fun x64 => pure (some x64)) >>= fun u67 => cutT s65 l66 u67) >>= fun y69 => addT x68 y69)) y70)) else
  ((((pure a2 : M Int) >>= fun x72 => (pure (3 : Int) : M Int) >>= fun y73 => divI x72 y73) >>= fun x74 => (pure (11 : Int) : M Int) >>= fun y75 => modI x74 y75) >>= fun a71 =>
  ((((pure a2 : M Int) >>= fun x77 => (pure (33 : Int) : M Int) >>= fun y78 => divI x77 y78) >>= fun x81 => ((pure a71 : M Int) >>= fun x79 => (pure (1 : Int) : M Int) >>= fun y80 => (pure (x79 + y80) : M Int)) >>= fun y82 => modI x81 y82) >>= fun a76 =>
  ((((pure p1 : M Int) >>= fun x84 => range1 x84) >>= fun y94 => lc (fun e85 => ((pure a1 : M Tx) >>= fun x86 => ((((pure a2 : M Int) >>= fun x88 => (pure (7 : Int) : M Int) >>= fun y89 => divI x88 y89) >>= fun x90 => (pure e85 : M Int) >>= fun y91 => (pure (x90 + y91) : M Int)) >>= fun x92 => (pure (62 : Int) : M Int) >>= fun y93 => modI x92 y93) >>= fun y87 => atT x86 y87)) y94) >>= fun a83 =>
  ((pure a83 : M (List Tx)) >>= fun y113 => lc (fun e95 => (((((pure p2 : M Tx) >>= fun x96 => (pure a5 : M Int) >>= fun y97 => atT x96 y97) >>= fun x102 => ((pure a11 : M Tx) >>= fun s99 => (pure none : M (Option Int)) >>= fun l100 => ((pure a76 : M Int) >>= fun x98 => pure (some x98)) >>= fun u101 => cutT s99 l100 u101) >>= fun y103 => addT x102 y103) >>= fun x104 => (pure e95 : M Tx) >>= fun y105 => addT x104 y105) >>= fun x111 => ((pure a11 : M Tx) >>= fun s108 => ((pure a76 : M Int) >>= fun x106 => pure (some x106)) >>= fun l109 => ((pure a71 : M Int) >>= fun x107 => pure (some x107)) >>= fun u110 => cutT s108 l109 u110) >>= fun y112 => addT x111 y112)) y113))))))))))

def m__law_titles (p0 : Int) (p1 : Int) : M (List Tx) :=
  ((pure p0 : M Int) >>= fun x1 => (pure p1 : M Int) >>= fun x2 => (pure (tx "abcdefghijklmnopqrstuvwxyz") : M Tx) >>= fun x3 => m__law_names x1 x2 x3)

def m__law_opens (p0 : Int) (p1 : Int) : M (List Tx) :=
  ((pure p0 : M Int) >>= fun x1 => (pure p1 : M Int) >>= fun x2 => (pure (tx "ABCDEFGHIJKLMNOPQRSTUVWXYZ") : M Tx) >>= fun x3 => m__law_names x1 x2 x3)

def m__law_words (p0 : Int) (p1 : Int) : M (List Tx) :=
  ((pure p0 : M Int) >>= fun x1 => (pure p1 : M Int) >>= fun x2 => (pure (tx "abcdefghijklmnopqrstuvwxyz0123456789") : M Tx) >>= fun x3 => m__law_names x1 x2 x3)

def m__law_kinds (p0 : Int) (p1 : (List Int)) : M (List (T3 Tx Int Bool)) :=
  (((pure p0 : M Int) >>= fun x2 => (pure (4 : Int) : M Int) >>= fun x3 => m__law_titles x2 x3) >>= fun a1 =>
  (((pure p0 : M Int) >>= fun x5 => (pure (1 : Int) : M Int) >>= fun x6 => m__law_mix x5 x6) >>= fun a4 =>
  ((((pure false : M Bool) >>= fun x14 => ((pure true : M Bool) >>= fun x12 => ((pure false : M Bool) >>= fun x10 => ((pure true : M Bool) >>= fun x8 => (pure [] : M (List Bool)) >>= fun r9 => pure (x8 :: r9)) >>= fun r11 => pure (x10 :: r11)) >>= fun r13 => pure (x12 :: r13)) >>= fun r15 => pure (x14 :: r15)) >>= fun x26 => (((pure true : M Bool) >>= fun x22 => ((pure false : M Bool) >>= fun x20 => ((pure false : M Bool) >>= fun x18 => ((pure true : M Bool) >>= fun x16 => (pure [] : M (List Bool)) >>= fun r17 => pure (x16 :: r17)) >>= fun r19 => pure (x18 :: r19)) >>= fun r21 => pure (x20 :: r21)) >>= fun r23 => pure (x22 :: r23)) >>= fun x24 => (pure [] : M (List (List Bool))) >>= fun r25 => pure (x24 :: r25)) >>= fun r27 => pure (x26 :: r27)) >>= fun a7 =>
  (((pure a7 : M (List (List Bool))) >>= fun x49 => (((pure false : M Bool) >>= fun x35 => ((pure false : M Bool) >>= fun x33 => ((pure true : M Bool) >>= fun x31 => ((pure true : M Bool) >>= fun x29 => (pure [] : M (List Bool)) >>= fun r30 => pure (x29 :: r30)) >>= fun r32 => pure (x31 :: r32)) >>= fun r34 => pure (x33 :: r34)) >>= fun r36 => pure (x35 :: r36)) >>= fun x47 => (((pure true : M Bool) >>= fun x43 => ((pure false : M Bool) >>= fun x41 => ((pure true : M Bool) >>= fun x39 => ((pure false : M Bool) >>= fun x37 => (pure [] : M (List Bool)) >>= fun r38 => pure (x37 :: r38)) >>= fun r40 => pure (x39 :: r40)) >>= fun r42 => pure (x41 :: r42)) >>= fun r44 => pure (x43 :: r44)) >>= fun x45 => (pure [] : M (List (List Bool))) >>= fun r46 => pure (x45 :: r46)) >>= fun r48 => pure (x47 :: r48)) >>= fun y50 => catM x49 y50) >>= fun a28 =>
  (((pure a28 : M (List (List Bool))) >>= fun x52 => ((pure a4 : M Int) >>= fun x54 => (pure (4 : Int) : M Int) >>= fun y55 => modI x54 y55) >>= fun y53 => atL x52 y53) >>= fun a51 =>
  (((pure (4 : Int) : M Int) >>= fun x56 => range1 x56) >>= fun y76 => lc (fun e57 => (((pure a1 : M (List Tx)) >>= fun x58 => (pure e57 : M Int) >>= fun y59 => atL x58 y59) >>= fun x73 => ((pure p1 : M (List Int)) >>= fun x60 => (((pure a4 : M Int) >>= fun x66 => (((pure (3 : Int) : M Int) >>= fun x62 => (pure e57 : M Int) >>= fun y63 => mulI x62 y63) >>= fun x64 => (pure (5 : Int) : M Int) >>= fun y65 => (pure (x64 + y65) : M Int)) >>= fun y67 => divI x66 y67) >>= fun x69 => ((pure p1 : M (List Int)) >>= fun x68 => (pure (x68.length : Int) : M Int)) >>= fun y70 => modI x69 y70) >>= fun y61 => atL x60 y61) >>= fun x74 => ((pure a51 : M (List Bool)) >>= fun x71 => (pure e57 : M Int) >>= fun y72 => atL x71 y72) >>= fun x75 => pure (T3.mk x73 x74 x75))) y76))))))

def m__law_fact (p0 : (List (T3 Tx Int Bool))) (p1 : (List Tx)) (p2 : Int) : M (Tx × (Tup Tx)) :=
  (((pure p2 : M Int) >>= fun x2 => (pure (2 : Int) : M Int) >>= fun x3 => m__law_mix x2 x3) >>= fun a1 =>
  (((pure p0 : M (List (T3 Tx Int Bool))) >>= fun x5 => ((pure a1 : M Int) >>= fun x8 => ((pure p0 : M (List (T3 Tx Int Bool))) >>= fun x7 => (pure (x7.length : Int) : M Int)) >>= fun y9 => modI x8 y9) >>= fun y6 => atL x5 y6) >>= fun a4 =>
  (((pure a1 : M Int) >>= fun x11 => (pure (5 : Int) : M Int) >>= fun y12 => divI x11 y12) >>= fun a10 =>
  ((pure [] : M (List Tx)) >>= fun a13 =>
  (((((pure a4 : M (T3 Tx Int Bool)) >>= fun x14 => pure x14.b) >>= fun x16 => range1 x16) >>= fun l19 => forP (fun (s17 : (Int × (List Tx))) (e18 : Int) => ((((pure p1 : M (List Tx)) >>= fun x24 => ((pure s17.1 : M Int) >>= fun x27 => ((pure p1 : M (List Tx)) >>= fun x26 => (pure (x26.length : Int) : M Int)) >>= fun y28 => modI x27 y28) >>= fun y25 => atL x24 y25) >>= fun a29 => chk (s17.2.length < SZ) >>= fun _u30 => pure a29) >>= fun a23 =>
  ((((pure s17.1 : M Int) >>= fun x33 => ((pure p1 : M (List Tx)) >>= fun x32 => (pure (x32.length : Int) : M Int)) >>= fun y34 => divI x33 y34) >>= fun x37 => ((pure (977 : Int) : M Int) >>= fun x35 => (pure e18 : M Int) >>= fun y36 => mulI x35 y36) >>= fun y38 => (pure (x37 + y38) : M Int)) >>= fun a31 =>
  (pure (a31, (s17.2 ++ [a23])) : M (Int × (List Tx)))))) (a10, a13) l19) >>= fun s17 =>
  (((pure a4 : M (T3 Tx Int Bool)) >>= fun x39 => pure x39.a) >>= fun x42 => ((pure s17.2 : M (List Tx)) >>= fun x41 => (pure x41 : M (Tup Tx))) >>= fun x43 => pure (x42, x43)))))))

def m__law_fact_text (p0 : (Tx × (Tup Tx))) : M Tx :=
  (((((pure p0 : M (Tx × (Tup Tx))) >>= fun x1 => pure x1.2) >>= fun x3 => (pure ((List.length (α := Tx) x3 : Nat) : Int) : M Int)) >>= fun x4 => (pure (0 : Int) : M Int) >>= fun y5 => (pure (decide (x4 = y5)) : M Bool)) >>= fun c6 => if c6 = true then ((pure p0 : M (Tx × (Tup Tx))) >>= fun x7 => pure x7.1) else
  (((((pure p0 : M (Tx × (Tup Tx))) >>= fun x9 => pure x9.1) >>= fun x11 => (pure (tx "(") : M Tx) >>= fun y12 => addT x11 y12) >>= fun x17 => ((pure (tx ",") : M Tx) >>= fun x15 => ((pure p0 : M (Tx × (Tup Tx))) >>= fun x13 => pure x13.2) >>= fun y16 => joinM x15 y16) >>= fun y18 => addT x17 y18) >>= fun x19 => (pure (tx ")") : M Tx) >>= fun y20 => addT x19 y20))

def m__law_counts (p0 : Int) (p1 : (List Int)) : M (List Int) :=
  (((pure p0 : M Int) >>= fun x2 => (pure (3 : Int) : M Int) >>= fun x3 => m__law_mix x2 x3) >>= fun a1 =>
  (((pure p1 : M (List Int)) >>= fun x5 => (pure (x5.length : Int) : M Int)) >>= fun a4 =>
  ((pure [] : M (List Int)) >>= fun a6 =>
  ((((pure (5 : Int) : M Int) >>= fun x7 => range1 x7) >>= fun l10 => forP (fun (s8 : (Int × (List Int))) (e9 : Int) => ((((pure p1 : M (List Int)) >>= fun x15 => ((pure s8.1 : M Int) >>= fun x17 => (pure a4 : M Int) >>= fun y18 => modI x17 y18) >>= fun y16 => atL x15 y16) >>= fun a19 => chk (s8.2.length < SZ) >>= fun _u20 => pure a19) >>= fun a14 =>
  (((pure s8.1 : M Int) >>= fun x22 => (pure a4 : M Int) >>= fun y23 => divI x22 y23) >>= fun a21 =>
  (pure (a21, (s8.2 ++ [a14])) : M (Int × (List Int)))))) (a1, a6) l10) >>= fun s8 =>
  ((((((pure (0 : Int) : M Int) >>= fun k24 => atL s8.2 k24) >>= fun x26 => ((pure (1 : Int) : M Int) >>= fun k25 => atL s8.2 k25) >>= fun y27 => (pure (x26 + y27) : M Int)) >>= fun x28 => (pure (0 : Int) : M Int) >>= fun y29 => (pure (decide (x28 = y29)) : M Bool)) >>= fun c30 => if c30 = true then (((pure (1 : Int) : M Int) >>= fun a33 => (pure (1 : Int) : M Int) >>= fun k34 => ofO (L2.ixN s8.2.length k34) >>= fun j35 => pure (s8.2.set j35 a33)) >>= fun a32 =>
  (pure a32 : M (List Int))) else (pure s8.2 : M (List Int))) >>= fun s31 =>
  (pure s31 : M (List Int)))))))

def m__law_facts (p0 : (List (T3 Tx Int Bool))) (p1 : (List Tx)) (p2 : (List Int)) (p3 : Int) (p4 : Int) : M (List (Tx × (Tup Tx))) :=
  (((pure p4 : M Int) >>= fun x1 => range1 x1) >>= fun y17 => lc (fun e2 => ((pure p0 : M (List (T3 Tx Int Bool))) >>= fun x14 => (pure p1 : M (List Tx)) >>= fun x15 => (((pure p2 : M (List Int)) >>= fun x3 => (((pure p3 : M Int) >>= fun x5 => (pure e2 : M Int) >>= fun y6 => (pure (x5 + y6) : M Int)) >>= fun x8 => ((pure p2 : M (List Int)) >>= fun x7 => (pure (x7.length : Int) : M Int)) >>= fun y9 => modI x8 y9) >>= fun y4 => atL x3 y4) >>= fun x12 => ((pure p3 : M Int) >>= fun x10 => (pure e2 : M Int) >>= fun y11 => (pure (x10 + y11) : M Int)) >>= fun x13 => m__law_mix x12 x13) >>= fun x16 => m__law_fact x14 x15 x16)) y17)

def m__law_heads (p0 : (List (Tx × (Tup Tx)))) : M (List Tx) :=
  ((pure [] : M (List Tx)) >>= fun a1 =>
  (((pure p0 : M (List (Tx × (Tup Tx)))) >>= fun l4 => forP (fun (s2 : (List Tx)) (e3 : (Tx × (Tup Tx))) => (((((pure e3 : M (Tx × (Tup Tx))) >>= fun x8 => pure x8.2) : M (List Tx)) >>= fun l12 => forP (fun (s10 : (List Tx)) (e11 : Tx) => ((((((pure e11 : M Tx) >>= fun x16 => (pure (0 : Int) : M Int) >>= fun y17 => atT x16 y17) >>= fun x18 => (pure (Txt.isupper (S x18)) : M Bool)) >>= fun c21 => if c21 = true then ((pure e11 : M Tx) >>= fun x19 => (pure s10 : M (List Tx)) >>= fun y20 => (pure (!decide (x19 ∈ y20)) : M Bool)) else pure false) >>= fun c22 => if c22 = true then (((pure e11 : M Tx) >>= fun a25 => chk (s10.length < SZ) >>= fun _u26 => pure a25) >>= fun a24 =>
  (pure (s10 ++ [a24]) : M (List Tx))) else (pure s10 : M (List Tx))) >>= fun s23 =>
  (pure s23 : M (List Tx)))) s2 l12) >>= fun s10 =>
  (pure s10 : M (List Tx)))) a1 l4) >>= fun s2 =>
  (pure s2 : M (List Tx))))

def m__law_two (p0 : (List Tx)) (p1 : (List Int)) (p2 : Int) (p3 : Int) : M (T3 Tx Tx Int) :=
  ((((pure p1 : M (List Int)) >>= fun x2 => (((pure p2 : M Int) >>= fun x6 => ((pure (3 : Int) : M Int) >>= fun x4 => (pure p3 : M Int) >>= fun y5 => mulI x4 y5) >>= fun y7 => (pure (x6 + y7) : M Int)) >>= fun x9 => ((pure p1 : M (List Int)) >>= fun x8 => (pure (x8.length : Int) : M Int)) >>= fun y10 => modI x9 y10) >>= fun y3 => atL x2 y3) >>= fun x13 => ((pure p2 : M Int) >>= fun x11 => (pure p3 : M Int) >>= fun y12 => (pure (x11 + y12) : M Int)) >>= fun x14 => m__law_mix x13 x14) >>= fun a1 =>
  (((pure p0 : M (List Tx)) >>= fun x15 => ((pure a1 : M Int) >>= fun x18 => ((pure p0 : M (List Tx)) >>= fun x17 => (pure (x17.length : Int) : M Int)) >>= fun y19 => modI x18 y19) >>= fun y16 => atL x15 y16) >>= fun x31 => ((pure p0 : M (List Tx)) >>= fun x20 => (((pure a1 : M Int) >>= fun x22 => (pure (8 : Int) : M Int) >>= fun y23 => divI x22 y23) >>= fun x25 => ((pure p0 : M (List Tx)) >>= fun x24 => (pure (x24.length : Int) : M Int)) >>= fun y26 => modI x25 y26) >>= fun y21 => atL x20 y21) >>= fun x32 => (((pure a1 : M Int) >>= fun x27 => (pure (64 : Int) : M Int) >>= fun y28 => divI x27 y28) >>= fun x29 => (pure (2 : Int) : M Int) >>= fun y30 => modI x29 y30) >>= fun x33 => pure (T3.mk x31 x32 x33)))

def m__law_rule (p0 : (List (T3 Tx Int Bool))) (p1 : (List Tx)) (p2 : (List Tx)) (p3 : (List Int)) (p4 : (List Int)) : M (T5 (List (Tx × (Tup Tx))) (List (Tx × (Tup Tx))) (List (T3 Tx Tx Tx)) (List (Tx × (Tup Tx))) (List (Tx × Tx))) :=
  ((((pure p3 : M (List Int)) >>= fun x2 => (pure (0 : Int) : M Int) >>= fun y3 => atL x2 y3) >>= fun x4 => (pure p4 : M (List Int)) >>= fun x5 => m__law_counts x4 x5) >>= fun a1 =>
  (((pure p3 : M (List Int)) >>= fun s8 => ((pure (1 : Int) : M Int) >>= fun x7 => pure (some x7)) >>= fun l9 => (pure none : M (Option Int)) >>= fun u10 => pure (cut s8 l9 u10)) >>= fun a6 =>
  ((((pure p0 : M (List (T3 Tx Int Bool))) >>= fun y13 => lf (fun e12 => (((pure e12 : M (T3 Tx Int Bool)) >>= fun x14 => pure x14.c) >>= fun c16 => pure (!c16))) (fun e12 => (pure e12 : M (T3 Tx Int Bool))) y13) >>= fun x21 => ((pure p1 : M (List Tx)) >>= fun x17 => (pure p2 : M (List Tx)) >>= fun y18 => catM x17 y18) >>= fun x22 => (pure a6 : M (List Int)) >>= fun x23 => (pure (0 : Int) : M Int) >>= fun x24 => ((pure a1 : M (List Int)) >>= fun x19 => (pure (0 : Int) : M Int) >>= fun y20 => atL x19 y20) >>= fun x25 => m__law_facts x21 x22 x23 x24 x25) >>= fun a11 =>
  (((pure p0 : M (List (T3 Tx Int Bool))) >>= fun x33 => ((pure p1 : M (List Tx)) >>= fun x27 => (pure p2 : M (List Tx)) >>= fun y28 => catM x27 y28) >>= fun x34 => (pure a6 : M (List Int)) >>= fun x35 => ((pure a1 : M (List Int)) >>= fun x29 => (pure (0 : Int) : M Int) >>= fun y30 => atL x29 y30) >>= fun x36 => ((pure a1 : M (List Int)) >>= fun x31 => (pure (1 : Int) : M Int) >>= fun y32 => atL x31 y32) >>= fun x37 => m__law_facts x33 x34 x35 x36 x37) >>= fun a26 =>
  (((((pure a11 : M (List (Tx × (Tup Tx)))) >>= fun x39 => (pure a26 : M (List (Tx × (Tup Tx)))) >>= fun y40 => catM x39 y40) >>= fun x41 => m__law_heads x41) >>= fun x42 => (pure p2 : M (List Tx)) >>= fun y43 => catM x42 y43) >>= fun a38 =>
  ((pure p0 : M (List (T3 Tx Int Bool))) >>= fun a44 =>
  (((((pure a11 : M (List (Tx × (Tup Tx)))) >>= fun x45 => (pure (x45.length : Int) : M Int)) >>= fun x46 => (pure (0 : Int) : M Int) >>= fun y47 => (pure (decide (x46 = y47)) : M Bool)) >>= fun c48 => if c48 = true then (((pure p0 : M (List (T3 Tx Int Bool))) >>= fun y52 => lf (fun e51 => ((pure e51 : M (T3 Tx Int Bool)) >>= fun x53 => pure x53.c)) (fun e51 => (pure e51 : M (T3 Tx Int Bool))) y52) >>= fun a50 =>
  (pure a50 : M (List (T3 Tx Int Bool)))) else (pure a44 : M (List (T3 Tx Int Bool)))) >>= fun s49 =>
  (((pure s49 : M (List (T3 Tx Int Bool))) >>= fun x58 => (pure a38 : M (List Tx)) >>= fun x59 => (pure a6 : M (List Int)) >>= fun x60 => (pure (2 : Int) : M Int) >>= fun x61 => ((pure a1 : M (List Int)) >>= fun x56 => (pure (2 : Int) : M Int) >>= fun y57 => atL x56 y57) >>= fun x62 => m__law_facts x58 x59 x60 x61 x62) >>= fun a55 =>
  ((pure [] : M (List (T3 Tx Tx Tx))) >>= fun a63 =>
  (((((pure a1 : M (List Int)) >>= fun x64 => (pure (3 : Int) : M Int) >>= fun y65 => atL x64 y65) >>= fun x66 => range1 x66) >>= fun l69 => forP (fun (s67 : (List (T3 Tx Tx Tx))) (e68 : Int) => (((pure a38 : M (List Tx)) >>= fun x74 => (pure a6 : M (List Int)) >>= fun x75 => (pure (1 : Int) : M Int) >>= fun x76 => (pure e68 : M Int) >>= fun x77 => m__law_two x74 x75 x76 x77) >>= fun a73 =>
  (((((pure a73 : M (T3 Tx Tx Int)) >>= fun x79 => pure x79.a) >>= fun x91 => (((pure (tx "same") : M Tx) >>= fun x83 => ((pure (tx "unlike") : M Tx) >>= fun x81 => (pure [] : M (List Tx)) >>= fun r82 => pure (x81 :: r82)) >>= fun r84 => pure (x83 :: r84)) >>= fun x85 => ((pure a73 : M (T3 Tx Tx Int)) >>= fun x87 => pure x87.c) >>= fun y86 => atL x85 y86) >>= fun x92 => ((pure a73 : M (T3 Tx Tx Int)) >>= fun x89 => pure x89.b) >>= fun x93 => pure (T3.mk x91 x92 x93)) >>= fun a94 => chk (s67.length < SZ) >>= fun _u95 => pure a94) >>= fun a78 =>
  (pure (s67 ++ [a78]) : M (List (T3 Tx Tx Tx)))))) a63 l69) >>= fun s67 =>
  ((pure [] : M (List (Tx × Tx))) >>= fun a96 =>
  (((((pure a1 : M (List Int)) >>= fun x97 => (pure (4 : Int) : M Int) >>= fun y98 => atL x97 y98) >>= fun x99 => range1 x99) >>= fun l102 => forP (fun (s100 : (List (Tx × Tx))) (e101 : Int) => (((pure a38 : M (List Tx)) >>= fun x107 => (pure a6 : M (List Int)) >>= fun x108 => (pure (4 : Int) : M Int) >>= fun x109 => (pure e101 : M Int) >>= fun x110 => m__law_two x107 x108 x109 x110) >>= fun a106 =>
  (((((pure a106 : M (T3 Tx Tx Int)) >>= fun x112 => pure x112.a) >>= fun x116 => ((pure a106 : M (T3 Tx Tx Int)) >>= fun x114 => pure x114.b) >>= fun x117 => pure (x116, x117)) >>= fun a118 => chk (s100.length < SZ) >>= fun _u119 => pure a118) >>= fun a111 =>
  (pure (s100 ++ [a111]) : M (List (Tx × Tx)))))) a96 l102) >>= fun s100 =>
  ((pure a11 : M (List (Tx × (Tup Tx)))) >>= fun x120 => (pure a26 : M (List (Tx × (Tup Tx)))) >>= fun x121 => (pure s67 : M (List (T3 Tx Tx Tx))) >>= fun x122 => (pure a55 : M (List (Tx × (Tup Tx)))) >>= fun x123 => (pure s100 : M (List (Tx × Tx))) >>= fun x124 => pure (T5.mk x120 x121 x122 x123 x124))))))))))))))

def m__law_rule_text (p0 : Tx) (p1 : (T5 (List (Tx × (Tup Tx))) (List (Tx × (Tup Tx))) (List (T3 Tx Tx Tx)) (List (Tx × (Tup Tx))) (List (Tx × Tx)))) : M Tx :=
  ((pure [] : M (List Tx)) >>= fun a1 =>
  ((((((pure p1 : M (T5 (List (Tx × (Tup Tx))) (List (Tx × (Tup Tx))) (List (T3 Tx Tx Tx)) (List (Tx × (Tup Tx))) (List (Tx × Tx)))) >>= fun x2 => (pure x2.a : M (List (Tx × (Tup Tx))))) >>= fun x4 => (pure (x4.length : Int) : M Int)) >>= fun x5 => (pure (0 : Int) : M Int) >>= fun y6 => (pure (decide (y6 < x5)) : M Bool)) >>= fun c7 => if c7 = true then ((((pure (tx "take ") : M Tx) >>= fun x17 => ((pure (tx ", ") : M Tx) >>= fun x15 => (((pure p1 : M (T5 (List (Tx × (Tup Tx))) (List (Tx × (Tup Tx))) (List (T3 Tx Tx Tx)) (List (Tx × (Tup Tx))) (List (Tx × Tx)))) >>= fun x10 => (pure x10.a : M (List (Tx × (Tup Tx))))) >>= fun y14 => lc (fun e12 => ((pure e12 : M (Tx × (Tup Tx))) >>= fun x13 => m__law_fact_text x13)) y14) >>= fun y16 => joinM x15 y16) >>= fun y18 => addT x17 y18) >>= fun a19 => chk (a1.length < SZ) >>= fun _u20 => pure a19) >>= fun a9 =>
  (pure (a1 ++ [a9]) : M (List Tx))) else (pure a1 : M (List Tx))) >>= fun s8 =>
  ((((((pure p1 : M (T5 (List (Tx × (Tup Tx))) (List (Tx × (Tup Tx))) (List (T3 Tx Tx Tx)) (List (Tx × (Tup Tx))) (List (Tx × Tx)))) >>= fun x21 => (pure x21.b : M (List (Tx × (Tup Tx))))) >>= fun x23 => (pure (x23.length : Int) : M Int)) >>= fun x24 => (pure (0 : Int) : M Int) >>= fun y25 => (pure (decide (y25 < x24)) : M Bool)) >>= fun c26 => if c26 = true then ((((pure (tx "keep ") : M Tx) >>= fun x36 => ((pure (tx ", ") : M Tx) >>= fun x34 => (((pure p1 : M (T5 (List (Tx × (Tup Tx))) (List (Tx × (Tup Tx))) (List (T3 Tx Tx Tx)) (List (Tx × (Tup Tx))) (List (Tx × Tx)))) >>= fun x29 => (pure x29.b : M (List (Tx × (Tup Tx))))) >>= fun y33 => lc (fun e31 => ((pure e31 : M (Tx × (Tup Tx))) >>= fun x32 => m__law_fact_text x32)) y33) >>= fun y35 => joinM x34 y35) >>= fun y37 => addT x36 y37) >>= fun a38 => chk (s8.length < SZ) >>= fun _u39 => pure a38) >>= fun a28 =>
  (pure (s8 ++ [a28]) : M (List Tx))) else (pure s8 : M (List Tx))) >>= fun s27 =>
  ((((((pure p1 : M (T5 (List (Tx × (Tup Tx))) (List (Tx × (Tup Tx))) (List (T3 Tx Tx Tx)) (List (Tx × (Tup Tx))) (List (Tx × Tx)))) >>= fun x40 => (pure x40.c : M (List (T3 Tx Tx Tx)))) >>= fun x42 => (pure (x42.length : Int) : M Int)) >>= fun x43 => (pure (0 : Int) : M Int) >>= fun y44 => (pure (decide (y44 < x43)) : M Bool)) >>= fun c45 => if c45 = true then ((((pure (tx "look ") : M Tx) >>= fun x57 => ((pure (tx ", ") : M Tx) >>= fun x55 => (((pure p1 : M (T5 (List (Tx × (Tup Tx))) (List (Tx × (Tup Tx))) (List (T3 Tx Tx Tx)) (List (Tx × (Tup Tx))) (List (Tx × Tx)))) >>= fun x48 => (pure x48.c : M (List (T3 Tx Tx Tx)))) >>= fun y54 => lc (fun e50 => ((pure (tx " ") : M Tx) >>= fun x52 => ((pure e50 : M (T3 Tx Tx Tx)) >>= fun x51 => (pure [x51.a, x51.b, x51.c] : M (List Tx))) >>= fun y53 => joinM x52 y53)) y54) >>= fun y56 => joinM x55 y56) >>= fun y58 => addT x57 y58) >>= fun a59 => chk (s27.length < SZ) >>= fun _u60 => pure a59) >>= fun a47 =>
  (pure (s27 ++ [a47]) : M (List Tx))) else (pure s27 : M (List Tx))) >>= fun s46 =>
  ((((((pure p1 : M (T5 (List (Tx × (Tup Tx))) (List (Tx × (Tup Tx))) (List (T3 Tx Tx Tx)) (List (Tx × (Tup Tx))) (List (Tx × Tx)))) >>= fun x61 => (pure x61.d : M (List (Tx × (Tup Tx))))) >>= fun x63 => (pure (x63.length : Int) : M Int)) >>= fun x64 => (pure (0 : Int) : M Int) >>= fun y65 => (pure (decide (y65 < x64)) : M Bool)) >>= fun c66 => if c66 = true then ((((pure (tx "put ") : M Tx) >>= fun x76 => ((pure (tx ", ") : M Tx) >>= fun x74 => (((pure p1 : M (T5 (List (Tx × (Tup Tx))) (List (Tx × (Tup Tx))) (List (T3 Tx Tx Tx)) (List (Tx × (Tup Tx))) (List (Tx × Tx)))) >>= fun x69 => (pure x69.d : M (List (Tx × (Tup Tx))))) >>= fun y73 => lc (fun e71 => ((pure e71 : M (Tx × (Tup Tx))) >>= fun x72 => m__law_fact_text x72)) y73) >>= fun y75 => joinM x74 y75) >>= fun y77 => addT x76 y77) >>= fun a78 => chk (s46.length < SZ) >>= fun _u79 => pure a78) >>= fun a68 =>
  (pure (s46 ++ [a68]) : M (List Tx))) else (pure s46 : M (List Tx))) >>= fun s67 =>
  ((((((pure p1 : M (T5 (List (Tx × (Tup Tx))) (List (Tx × (Tup Tx))) (List (T3 Tx Tx Tx)) (List (Tx × (Tup Tx))) (List (Tx × Tx)))) >>= fun x80 => (pure x80.e : M (List (Tx × Tx)))) >>= fun x82 => (pure (x82.length : Int) : M Int)) >>= fun x83 => (pure (0 : Int) : M Int) >>= fun y84 => (pure (decide (y84 < x83)) : M Bool)) >>= fun c85 => if c85 = true then ((((pure (tx "tell ") : M Tx) >>= fun x102 => ((pure (tx ", ") : M Tx) >>= fun x100 => (((pure p1 : M (T5 (List (Tx × (Tup Tx))) (List (Tx × (Tup Tx))) (List (T3 Tx Tx Tx)) (List (Tx × (Tup Tx))) (List (Tx × Tx)))) >>= fun x88 => (pure x88.e : M (List (Tx × Tx)))) >>= fun y99 => lc (fun e90 => ((((pure e90 : M (Tx × Tx)) >>= fun x91 => pure x91.1) >>= fun x93 => (pure (tx " = ") : M Tx) >>= fun y94 => addT x93 y94) >>= fun x97 => ((pure e90 : M (Tx × Tx)) >>= fun x95 => pure x95.2) >>= fun y98 => addT x97 y98)) y99) >>= fun y101 => joinM x100 y101) >>= fun y103 => addT x102 y103) >>= fun a104 => chk (s67.length < SZ) >>= fun _u105 => pure a104) >>= fun a87 =>
  (pure (s67 ++ [a87]) : M (List Tx))) else (pure s67 : M (List Tx))) >>= fun s86 =>
  ((((pure (tx "rule ") : M Tx) >>= fun x106 => (pure p0 : M Tx) >>= fun y107 => addT x106 y107) >>= fun x108 => (pure (tx ": ") : M Tx) >>= fun y109 => addT x108 y109) >>= fun x112 => ((pure (tx "; ") : M Tx) >>= fun x110 => (pure s86 : M (List Tx)) >>= fun y111 => joinM x110 y111) >>= fun y113 => addT x112 y113)))))))

def m__law_kind_text (p0 : (T3 Tx Int Bool)) : M Tx :=
  ((((((pure (tx "passing ") : M Tx) >>= fun x3 => ((pure (tx "lasting ") : M Tx) >>= fun x1 => (pure [] : M (List Tx)) >>= fun r2 => pure (x1 :: r2)) >>= fun r4 => pure (x3 :: r4)) >>= fun x5 => (((pure p0 : M (T3 Tx Int Bool)) >>= fun x7 => pure x7.c) >>= fun x9 => intB x9) >>= fun y6 => atL x5 y6) >>= fun x12 => ((pure p0 : M (T3 Tx Int Bool)) >>= fun x10 => pure x10.a) >>= fun y13 => addT x12 y13) >>= fun x14 => (pure (tx " ") : M Tx) >>= fun y15 => addT x14 y15) >>= fun x19 => (((pure p0 : M (T3 Tx Int Bool)) >>= fun x16 => pure x16.b) >>= fun x18 => strI x18) >>= fun y20 => addT x19 y20)

def m__law_spread (p0 : Tx) (p1 : Int) : M Tx :=
  (((pure (tx " ") : M Tx) >>= fun s5 => (pure none : M (Option Int)) >>= fun l6 => (((pure p1 : M Int) >>= fun x2 => (pure (2 : Int) : M Int) >>= fun y3 => modI x2 y3) >>= fun x4 => pure (some x4)) >>= fun u7 => cutT s5 l6 u7) >>= fun a1 =>
  (((((pure p0 : M Tx) >>= fun x8 => lenT x8) >>= fun x9 => range1 x9) >>= fun l12 => forP (fun (s10 : Tx) (e11 : Int) => (((pure s10 : M Tx) >>= fun x19 => ((pure p0 : M Tx) >>= fun x17 => (pure e11 : M Int) >>= fun y18 => atT x17 y18) >>= fun y20 => addT x19 y20) >>= fun a16 =>
  ((((((pure p0 : M Tx) >>= fun x21 => (pure e11 : M Int) >>= fun y22 => atT x21 y22) >>= fun x23 => (pure (tx "(),;:= ") : M Tx) >>= fun y24 => inS x23 y24) >>= fun c36 => if c36 = true then pure true else (((pure p0 : M Tx) >>= fun s31 => (((pure e11 : M Int) >>= fun x25 => (pure (1 : Int) : M Int) >>= fun y26 => (pure (x25 + y26) : M Int)) >>= fun x27 => pure (some x27)) >>= fun l32 => (((pure e11 : M Int) >>= fun x28 => (pure (2 : Int) : M Int) >>= fun y29 => (pure (x28 + y29) : M Int)) >>= fun x30 => pure (some x30)) >>= fun u33 => cutT s31 l32 u33) >>= fun x34 => (pure (tx "(),;:=") : M Tx) >>= fun y35 => (pure (inG x34 y35) : M Bool))) >>= fun c37 => if c37 = true then (((pure a16 : M Tx) >>= fun x66 => ((pure (tx "  ") : M Tx) >>= fun s63 => (pure none : M (Option Int)) >>= fun l64 => ((((pure (0 : Int) : M Int) >>= fun x52 => ((pure (1 : Int) : M Int) >>= fun x50 => ((pure (0 : Int) : M Int) >>= fun x48 => ((pure (1 : Int) : M Int) >>= fun x46 => ((pure (0 : Int) : M Int) >>= fun x44 => ((pure (0 : Int) : M Int) >>= fun x42 => ((pure (2 : Int) : M Int) >>= fun x40 => (pure [] : M (List Int)) >>= fun r41 => pure (x40 :: r41)) >>= fun r43 => pure (x42 :: r43)) >>= fun r45 => pure (x44 :: r45)) >>= fun r47 => pure (x46 :: r47)) >>= fun r49 => pure (x48 :: r49)) >>= fun r51 => pure (x50 :: r51)) >>= fun r53 => pure (x52 :: r53)) >>= fun x54 => (((pure p1 : M Int) >>= fun x58 => ((pure e11 : M Int) >>= fun x56 => (pure e11 : M Int) >>= fun y57 => mulI x56 y57) >>= fun y59 => (pure (x58 + y59) : M Int)) >>= fun x60 => (pure (7 : Int) : M Int) >>= fun y61 => modI x60 y61) >>= fun y55 => atL x54 y55) >>= fun x62 => pure (some x62)) >>= fun u65 => cutT s63 l64 u65) >>= fun y67 => addT x66 y67) >>= fun a39 =>
  (pure a39 : M Tx)) else (pure a16 : M Tx)) >>= fun s38 =>
  (pure s38 : M Tx)))) a1 l12) >>= fun s10 =>
  ((pure s10 : M Tx) >>= fun x74 => ((pure (tx "   ") : M Tx) >>= fun s71 => (pure none : M (Option Int)) >>= fun l72 => (((pure p1 : M Int) >>= fun x68 => (pure (4 : Int) : M Int) >>= fun y69 => modI x68 y69) >>= fun x70 => pure (some x70)) >>= fun u73 => cutT s71 l72 u73) >>= fun y75 => addT x74 y75)))

def m__law_closer (p0 : Tx) : M Tx :=
  sgM (tx " ") p0 [tx ",", tx ";", tx ":", tx "="] >>= fun l => replT l (tx " =") (tx "=")

def m__law_turned (p0 : (List Tx)) (p1 : Int) : M (List Tx) :=
  (((pure p1 : M Int) >>= fun x5 => ((pure (1 : Int) : M Int) >>= fun x3 => ((pure p0 : M (List Tx)) >>= fun x2 => (pure (x2.length : Int) : M Int)) >>= fun y4 => (pure (if y4 > x3 then y4 else x3) : M Int)) >>= fun y6 => modI x5 y6) >>= fun a1 =>
  (((pure p0 : M (List Tx)) >>= fun s8 => ((pure a1 : M Int) >>= fun x7 => pure (some x7)) >>= fun l9 => (pure none : M (Option Int)) >>= fun u10 => pure (cut s8 l9 u10)) >>= fun x15 => ((pure p0 : M (List Tx)) >>= fun s12 => (pure none : M (Option Int)) >>= fun l13 => ((pure a1 : M Int) >>= fun x11 => pure (some x11)) >>= fun u14 => pure (cut s12 l13 u14)) >>= fun y16 => catM x15 y16))

def m__law_rules (p0 : (List Int)) (p1 : (List (T3 Tx Int Bool))) (p2 : (List Tx)) (p3 : (List Tx)) : M (List Tx) :=
  ((((pure p0 : M (List Int)) >>= fun x2 => (pure (4 : Int) : M Int) >>= fun x3 => m__law_cell_at x2 x3) >>= fun x4 => (pure (6 : Int) : M Int) >>= fun x5 => m__law_titles x4 x5) >>= fun a1 =>
  ((pure [] : M (List Tx)) >>= fun a6 =>
  ((((pure (6 : Int) : M Int) >>= fun x7 => range1 x7) >>= fun l10 => forP (fun (s8 : (List Tx)) (e9 : Int) => (((pure p0 : M (List Int)) >>= fun s25 => (((pure (5 : Int) : M Int) >>= fun x17 => ((pure (8 : Int) : M Int) >>= fun x15 => (pure e9 : M Int) >>= fun y16 => mulI x15 y16) >>= fun y18 => (pure (x17 + y18) : M Int)) >>= fun x19 => pure (some x19)) >>= fun l26 => (((pure (13 : Int) : M Int) >>= fun x22 => ((pure (8 : Int) : M Int) >>= fun x20 => (pure e9 : M Int) >>= fun y21 => mulI x20 y21) >>= fun y23 => (pure (x22 + y23) : M Int)) >>= fun x24 => pure (some x24)) >>= fun u27 => pure (cut s25 l26 u27)) >>= fun a14 =>
  (((((pure a14 : M (List Int)) >>= fun x28 => (pure (x28.length : Int) : M Int)) >>= fun x29 => (pure (1 : Int) : M Int) >>= fun y30 => (pure (decide (y30 < x29)) : M Bool)) >>= fun c31 => if c31 = true then (((pure p1 : M (List (T3 Tx Int Bool))) >>= fun x48 => (pure p2 : M (List Tx)) >>= fun x49 => (pure p3 : M (List Tx)) >>= fun x50 => (pure a14 : M (List Int)) >>= fun x51 => ((pure (0 : Int) : M Int) >>= fun x46 => ((pure (1 : Int) : M Int) >>= fun x44 => ((pure (2 : Int) : M Int) >>= fun x42 => ((pure (1 : Int) : M Int) >>= fun x40 => ((pure (2 : Int) : M Int) >>= fun x38 => ((pure (0 : Int) : M Int) >>= fun x36 => ((pure (1 : Int) : M Int) >>= fun x34 => (pure [] : M (List Int)) >>= fun r35 => pure (x34 :: r35)) >>= fun r37 => pure (x36 :: r37)) >>= fun r39 => pure (x38 :: r39)) >>= fun r41 => pure (x40 :: r41)) >>= fun r43 => pure (x42 :: r43)) >>= fun r45 => pure (x44 :: r45)) >>= fun r47 => pure (x46 :: r47)) >>= fun x52 => m__law_rule x48 x49 x50 x51 x52) >>= fun a33 =>
  (((((pure a1 : M (List Tx)) >>= fun x54 => (pure e9 : M Int) >>= fun y55 => atL x54 y55) >>= fun x56 => (pure a33 : M (T5 (List (Tx × (Tup Tx))) (List (Tx × (Tup Tx))) (List (T3 Tx Tx Tx)) (List (Tx × (Tup Tx))) (List (Tx × Tx)))) >>= fun x57 => m__law_rule_text x56 x57) >>= fun a58 => chk (s8.length < SZ) >>= fun _u59 => pure a58) >>= fun a53 =>
  (pure (s8 ++ [a53]) : M (List Tx)))) else (pure s8 : M (List Tx))) >>= fun s32 =>
  (pure s32 : M (List Tx))))) a6 l10) >>= fun s8 =>
  (pure s8 : M (List Tx)))))

def m__law_written (p0 : Tx) (p1 : Int) : M Tx :=
  ((((pure p1 : M Int) >>= fun x1 => (pure (3 : Int) : M Int) >>= fun y2 => modI x1 y2) >>= fun x3 => (pure (1 : Int) : M Int) >>= fun y4 => (pure (decide (x3 = y4)) : M Bool)) >>= fun c5 => if c5 = true then ((pure p0 : M Tx) >>= fun x8 => ((pure p1 : M Int) >>= fun x6 => (pure (3 : Int) : M Int) >>= fun y7 => divI x6 y7) >>= fun x9 => m__law_spread x8 x9) else
  ((((pure p1 : M Int) >>= fun x10 => (pure (3 : Int) : M Int) >>= fun y11 => modI x10 y11) >>= fun x12 => (pure (2 : Int) : M Int) >>= fun y13 => (pure (decide (x12 = y13)) : M Bool)) >>= fun c14 => if c14 = true then ((pure p0 : M Tx) >>= fun x15 => m__law_closer x15) else
  (pure p0 : M Tx)))

def m_law (p0 : (List Int)) : M Bool :=
  ((((pure p0 : M (List Int)) >>= fun x2 => (pure (3 : Int) : M Int) >>= fun x3 => m__law_cell_at x2 x3) >>= fun x4 => (pure (1 : Int) : M Int) >>= fun x5 => m__law_mix x4 x5) >>= fun a1 =>
  ((((pure p0 : M (List Int)) >>= fun x7 => (pure (0 : Int) : M Int) >>= fun x8 => m__law_cell_at x7 x8) >>= fun x19 => ((pure (0 : Int) : M Int) >>= fun x17 => ((pure (1 : Int) : M Int) >>= fun x15 => ((pure (2 : Int) : M Int) >>= fun x13 => ((pure (2 : Int) : M Int) >>= fun x11 => ((pure (1 : Int) : M Int) >>= fun x9 => (pure [] : M (List Int)) >>= fun r10 => pure (x9 :: r10)) >>= fun r12 => pure (x11 :: r12)) >>= fun r14 => pure (x13 :: r14)) >>= fun r16 => pure (x15 :: r16)) >>= fun r18 => pure (x17 :: r18)) >>= fun x20 => m__law_kinds x19 x20) >>= fun a6 =>
  ((((pure p0 : M (List Int)) >>= fun x22 => (pure (1 : Int) : M Int) >>= fun x23 => m__law_cell_at x22 x23) >>= fun x24 => (pure (4 : Int) : M Int) >>= fun x25 => m__law_opens x24 x25) >>= fun a21 =>
  ((((pure p0 : M (List Int)) >>= fun x27 => (pure (2 : Int) : M Int) >>= fun x28 => m__law_cell_at x27 x28) >>= fun x29 => (pure (3 : Int) : M Int) >>= fun x30 => m__law_words x29 x30) >>= fun a26 =>
  (((((pure a6 : M (List (T3 Tx Int Bool))) >>= fun y34 => lc (fun e32 => ((pure e32 : M (T3 Tx Int Bool)) >>= fun x33 => m__law_kind_text x33)) y34) >>= fun x37 => ((pure a1 : M Int) >>= fun x35 => (pure (2 : Int) : M Int) >>= fun y36 => divI x35 y36) >>= fun x38 => m__law_turned x37 x38) >>= fun x39 => (pure [] : M (List (List Tx))) >>= fun r40 => pure (x39 :: r40)) >>= fun a31 =>
  (((((pure p0 : M (List Int)) >>= fun x42 => (pure a6 : M (List (T3 Tx Int Bool))) >>= fun x43 => (pure a21 : M (List Tx)) >>= fun x44 => (pure a26 : M (List Tx)) >>= fun x45 => m__law_rules x42 x43 x44 x45) >>= fun x48 => ((pure a1 : M Int) >>= fun x46 => (pure (8 : Int) : M Int) >>= fun y47 => divI x46 y47) >>= fun x49 => m__law_turned x48 x49) >>= fun a50 => chk (a31.length < SZ) >>= fun _u51 => pure a50) >>= fun a41 =>
  (((pure (tx "\n") : M Tx) >>= fun x57 => (((pure (0 : Int) : M Int) >>= fun k53 => atL (a31 ++ [a41]) k53) >>= fun x55 => ((pure (1 : Int) : M Int) >>= fun k54 => atL (a31 ++ [a41]) k54) >>= fun y56 => catM x55 y56) >>= fun y58 => joinM x57 y58) >>= fun a52 =>
  (((((pure a1 : M Int) >>= fun x59 => (pure (2 : Int) : M Int) >>= fun y60 => modI x59 y60) >>= fun x61 => (pure (1 : Int) : M Int) >>= fun y62 => (pure (decide (x61 = y62)) : M Bool)) >>= fun c63 => if c63 = true then ((((pure (1 : Int) : M Int) >>= fun k66 => atL (a31 ++ [a41]) k66) >>= fun x70 => (((pure (0 : Int) : M Int) >>= fun k67 => atL (a31 ++ [a41]) k67) >>= fun x68 => (pure [] : M (List (List Tx))) >>= fun r69 => pure (x68 :: r69)) >>= fun r71 => pure (x70 :: r71)) >>= fun a65 =>
  (pure a65 : M (List (List Tx)))) else (pure (a31 ++ [a41]) : M (List (List Tx)))) >>= fun s64 =>
  ((pure [] : M (List Tx)) >>= fun a72 =>
  (((((pure (0 : Int) : M Int) >>= fun k73 => atL s64 k73) >>= fun x75 => ((pure (1 : Int) : M Int) >>= fun k74 => atL s64 k74) >>= fun y76 => catM x75 y76) >>= fun l79 => forP (fun (s77 : (List Tx)) (e78 : Tx) => ((((pure e78 : M Tx) >>= fun x90 => (((pure a1 : M Int) >>= fun x84 => (pure (16 : Int) : M Int) >>= fun y85 => divI x84 y85) >>= fun x88 => ((pure (5 : Int) : M Int) >>= fun x86 => (pure (s77.length : Int) : M Int) >>= fun y87 => mulI x86 y87) >>= fun y89 => (pure (x88 + y89) : M Int)) >>= fun x91 => m__law_written x90 x91) >>= fun a92 => chk (s77.length < SZ) >>= fun _u93 => pure a92) >>= fun a83 =>
  (((((((pure a1 : M Int) >>= fun x94 => (pure (32 : Int) : M Int) >>= fun y95 => divI x94 y95) >>= fun x96 => (pure ((s77 ++ [a83]).length : Int) : M Int) >>= fun y97 => (pure (x96 + y97) : M Int)) >>= fun x98 => (pure (3 : Int) : M Int) >>= fun y99 => modI x98 y99) >>= fun x100 => (pure (0 : Int) : M Int) >>= fun y101 => (pure (decide (x100 = y101)) : M Bool)) >>= fun c102 => if c102 = true then ((((pure (tx "  # ") : M Tx) >>= fun x109 => ((pure e78 : M Tx) >>= fun s106 => (pure none : M (Option Int)) >>= fun l107 => ((pure (9 : Int) : M Int) >>= fun x105 => pure (some x105)) >>= fun u108 => cutT s106 l107 u108) >>= fun y110 => addT x109 y110) >>= fun a111 => chk ((s77 ++ [a83]).length < SZ) >>= fun _u112 => pure a111) >>= fun a104 =>
  (pure ((s77 ++ [a83]) ++ [a104]) : M (List Tx))) else (pure (s77 ++ [a83]) : M (List Tx))) >>= fun s103 =>
  (pure s103 : M (List Tx))))) a72 l79) >>= fun s77 =>
  ((((pure (tx "\n") : M Tx) >>= fun x114 => (pure s77 : M (List Tx)) >>= fun y115 => joinM x114 y115) >>= fun x116 => m_read_book x116) >>= fun a113 =>
  (((pure a52 : M Tx) >>= fun x118 => m_read_book x118) >>= fun a117 =>
  (((pure a113 : M C_Book) >>= fun x120 => m_book_text x120) >>= fun a119 =>
  (((((pure a119 : M Tx) >>= fun _x121 => (pure true : M Bool)) >>= fun c122 => pure (!c122)) >>= fun c129 => if c129 = true then pure true else (((pure a119 : M Tx) >>= fun x123 => (pure a52 : M Tx) >>= fun y124 => (pure (!decide (x123 = y124)) : M Bool)) >>= fun c128 => if c128 = true then pure true else (((pure a117 : M C_Book) >>= fun x125 => m_book_text x125) >>= fun x126 => (pure a52 : M Tx) >>= fun y127 => (pure (!decide (x126 = y127)) : M Bool)))) >>= fun c130 => if c130 = true then (pure false : M Bool) else
  (((((pure a119 : M Tx) >>= fun x131 => m_read_book x131) >>= fun x132 => m_book_text x132) >>= fun x133 => (pure a52 : M Tx) >>= fun y134 => (pure (decide (x133 = y134)) : M Bool)) >>= fun c138 => if c138 = true then (((pure a113 : M C_Book) >>= fun x135 => m_book_text x135) >>= fun x136 => (pure a52 : M Tx) >>= fun y137 => (pure (decide (x136 = y137)) : M Bool)) else pure false)))))))))))))))
end Q

set_option Elab.async false
set_option linter.all false
set_option maxRecDepth 100000
set_option maxHeartbeats 4000000
namespace Q
open PySem L2 G
/-! what the top has left -/
structure Fx (K : Fg) (mg : Str → Option Value) : Prop where
  f__wall : ∃ fd, FunD K "_wall" "_wall" (defArgs (top 0)) (defBody (top 0)) (defScope (top 0)) [] [] (He.ga K "_wall") fd
  g__wall : mg "_wall" = some (.ref (He.ga K "_wall"))
  f_is_name : ∃ fd, FunD K "is_name" "is_name" (defArgs (top 15)) (defBody (top 15)) (defScope (top 15)) [] [] (He.ga K "is_name") fd
  g_is_name : mg "is_name" = some (.ref (He.ga K "is_name"))
  f_is_open : ∃ fd, FunD K "is_open" "is_open" (defArgs (top 16)) (defBody (top 16)) (defScope (top 16)) [] [] (He.ga K "is_open") fd
  g_is_open : mg "is_open" = some (.ref (He.ga K "is_open"))
  f_is_kind : ∃ fd, FunD K "is_kind" "is_kind" (defArgs (top 17)) (defBody (top 17)) (defScope (top 17)) [] [] (He.ga K "is_kind") fd
  g_is_kind : mg "is_kind" = some (.ref (He.ga K "is_kind"))
  f_pieces : ∃ fd, FunD K "pieces" "pieces" (defArgs (top 18)) (defBody (top 18)) (defScope (top 18)) [] [] (He.ga K "pieces") fd
  g_pieces : mg "pieces" = some (.ref (He.ga K "pieces"))
  f_piece_at : ∃ fd, FunD K "piece_at" "piece_at" (defArgs (top 19)) (defBody (top 19)) (defScope (top 19)) [] [] (He.ga K "piece_at") fd
  g_piece_at : mg "piece_at" = some (.ref (He.ga K "piece_at"))
  f_take_arguments : ∃ fd, FunD K "take_arguments" "take_arguments" (defArgs (top 20)) (defBody (top 20)) (defScope (top 20)) [] [] (He.ga K "take_arguments") fd
  g_take_arguments : mg "take_arguments" = some (.ref (He.ga K "take_arguments"))
  f_take_fact : ∃ fd, FunD K "take_fact" "take_fact" (defArgs (top 21)) (defBody (top 21)) (defScope (top 21)) [] [] (He.ga K "take_fact") fd
  g_take_fact : mg "take_fact" = some (.ref (He.ga K "take_fact"))
  f_take_facts : ∃ fd, FunD K "take_facts" "take_facts" (defArgs (top 22)) (defBody (top 22)) (defScope (top 22)) [] [] (He.ga K "take_facts") fd
  g_take_facts : mg "take_facts" = some (.ref (He.ga K "take_facts"))
  f_fact_text : ∃ fd, FunD K "fact_text" "fact_text" (defArgs (top 23)) (defBody (top 23)) (defScope (top 23)) [] [] (He.ga K "fact_text") fd
  g_fact_text : mg "fact_text" = some (.ref (He.ga K "fact_text"))
  f_facts_text : ∃ fd, FunD K "facts_text" "facts_text" (defArgs (top 24)) (defBody (top 24)) (defScope (top 24)) [] [] (He.ga K "facts_text") fd
  g_facts_text : mg "facts_text" = some (.ref (He.ga K "facts_text"))
  f_kind_lasts : ∃ fd, FunD K "kind_lasts" "kind_lasts" (defArgs (top 26)) (defBody (top 26)) (defScope (top 26)) [] [] (He.ga K "kind_lasts") fd
  g_kind_lasts : mg "kind_lasts" = some (.ref (He.ga K "kind_lasts"))
  f_look_at_facts : ∃ fd, FunD K "look_at_facts" "look_at_facts" (defArgs (top 27)) (defBody (top 27)) (defScope (top 27)) [] [] (He.ga K "look_at_facts") fd
  g_look_at_facts : mg "look_at_facts" = some (.ref (He.ga K "look_at_facts"))
  f_look_at_taken : ∃ fd, FunD K "look_at_taken" "look_at_taken" (defArgs (top 28)) (defBody (top 28)) (defScope (top 28)) [] [] (He.ga K "look_at_taken") fd
  g_look_at_taken : mg "look_at_taken" = some (.ref (He.ga K "look_at_taken"))
  f_read_kind : ∃ fd, FunD K "read_kind" "read_kind" (defArgs (top 36)) (defBody (top 36)) (defScope (top 36)) [] [] (He.ga K "read_kind") fd
  g_read_kind : mg "read_kind" = some (.ref (He.ga K "read_kind"))
  f_take_looks : ∃ fd, FunD K "take_looks" "take_looks" (defArgs (top 37)) (defBody (top 37)) (defScope (top 37)) [] [] (He.ga K "take_looks") fd
  g_take_looks : mg "take_looks" = some (.ref (He.ga K "take_looks"))
  f_take_pairs : ∃ fd, FunD K "take_pairs" "take_pairs" (defArgs (top 38)) (defBody (top 38)) (defScope (top 38)) [] [] (He.ga K "take_pairs") fd
  g_take_pairs : mg "take_pairs" = some (.ref (He.ga K "take_pairs"))
  f_take_part : ∃ fd, FunD K "take_part" "take_part" (defArgs (top 39)) (defBody (top 39)) (defScope (top 39)) [] [] (He.ga K "take_part") fd
  g_take_part : mg "take_part" = some (.ref (He.ga K "take_part"))
  f_read_rule : ∃ fd, FunD K "read_rule" "read_rule" (defArgs (top 40)) (defBody (top 40)) (defScope (top 40)) [] [] (He.ga K "read_rule") fd
  g_read_rule : mg "read_rule" = some (.ref (He.ga K "read_rule"))
  f_left_out : ∃ fd, FunD K "left_out" "left_out" (defArgs (top 41)) (defBody (top 41)) (defScope (top 41)) [] [] (He.ga K "left_out") fd
  g_left_out : mg "left_out" = some (.ref (He.ga K "left_out"))
  f_read_line : ∃ fd, FunD K "read_line" "read_line" (defArgs (top 42)) (defBody (top 42)) (defScope (top 42)) [] [] (He.ga K "read_line") fd
  g_read_line : mg "read_line" = some (.ref (He.ga K "read_line"))
  f_open_names : ∃ fd, FunD K "open_names" "open_names" (defArgs (top 44)) (defBody (top 44)) (defScope (top 44)) [] [] (He.ga K "open_names") fd
  g_open_names : mg "open_names" = some (.ref (He.ga K "open_names"))
  f_keep_line : ∃ fd, FunD K "keep_line" "keep_line" (defArgs (top 47)) (defBody (top 47)) (defScope (top 47)) [] [] (He.ga K "keep_line") fd
  g_keep_line : mg "keep_line" = some (.ref (He.ga K "keep_line"))
  f_look_at_rule : ∃ fd, FunD K "look_at_rule" "look_at_rule" (defArgs (top 48)) (defBody (top 48)) (defScope (top 48)) [] [] (He.ga K "look_at_rule") fd
  g_look_at_rule : mg "look_at_rule" = some (.ref (He.ga K "look_at_rule"))
  f_made_book : ∃ fd, FunD K "made_book" "made_book" (defArgs (top 49)) (defBody (top 49)) (defScope (top 49)) [] [] (He.ga K "made_book") fd
  g_made_book : mg "made_book" = some (.ref (He.ga K "made_book"))
  f_read_book : ∃ fd, FunD K "read_book" "read_book" (defArgs (top 50)) (defBody (top 50)) (defScope (top 50)) [] [] (He.ga K "read_book") fd
  g_read_book : mg "read_book" = some (.ref (He.ga K "read_book"))
  f_rule_text : ∃ fd, FunD K "rule_text" "rule_text" (defArgs (top 51)) (defBody (top 51)) (defScope (top 51)) [] [] (He.ga K "rule_text") fd
  g_rule_text : mg "rule_text" = some (.ref (He.ga K "rule_text"))
  f_book_text : ∃ fd, FunD K "book_text" "book_text" (defArgs (top 52)) (defBody (top 52)) (defScope (top 52)) [] [] (He.ga K "book_text") fd
  g_book_text : mg "book_text" = some (.ref (He.ga K "book_text"))
  f__law_cell_at : ∃ fd, FunD K "_law_cell_at" "_law_cell_at" (defArgs (top 54)) (defBody (top 54)) (defScope (top 54)) [] [] (He.ga K "_law_cell_at") fd
  g__law_cell_at : mg "_law_cell_at" = some (.ref (He.ga K "_law_cell_at"))
  f__law_mix : ∃ fd, FunD K "_law_mix" "_law_mix" (defArgs (top 55)) (defBody (top 55)) (defScope (top 55)) [] [] (He.ga K "_law_mix") fd
  g__law_mix : mg "_law_mix" = some (.ref (He.ga K "_law_mix"))
  f__law_names : ∃ fd, FunD K "_law_names" "_law_names" (defArgs (top 56)) (defBody (top 56)) (defScope (top 56)) [] [] (He.ga K "_law_names") fd
  g__law_names : mg "_law_names" = some (.ref (He.ga K "_law_names"))
  f__law_titles : ∃ fd, FunD K "_law_titles" "_law_titles" (defArgs (top 57)) (defBody (top 57)) (defScope (top 57)) [] [] (He.ga K "_law_titles") fd
  g__law_titles : mg "_law_titles" = some (.ref (He.ga K "_law_titles"))
  f__law_opens : ∃ fd, FunD K "_law_opens" "_law_opens" (defArgs (top 58)) (defBody (top 58)) (defScope (top 58)) [] [] (He.ga K "_law_opens") fd
  g__law_opens : mg "_law_opens" = some (.ref (He.ga K "_law_opens"))
  f__law_words : ∃ fd, FunD K "_law_words" "_law_words" (defArgs (top 59)) (defBody (top 59)) (defScope (top 59)) [] [] (He.ga K "_law_words") fd
  g__law_words : mg "_law_words" = some (.ref (He.ga K "_law_words"))
  f__law_kinds : ∃ fd, FunD K "_law_kinds" "_law_kinds" (defArgs (top 60)) (defBody (top 60)) (defScope (top 60)) [] [] (He.ga K "_law_kinds") fd
  g__law_kinds : mg "_law_kinds" = some (.ref (He.ga K "_law_kinds"))
  f__law_fact : ∃ fd, FunD K "_law_fact" "_law_fact" (defArgs (top 61)) (defBody (top 61)) (defScope (top 61)) [] [] (He.ga K "_law_fact") fd
  g__law_fact : mg "_law_fact" = some (.ref (He.ga K "_law_fact"))
  f__law_fact_text : ∃ fd, FunD K "_law_fact_text" "_law_fact_text" (defArgs (top 62)) (defBody (top 62)) (defScope (top 62)) [] [] (He.ga K "_law_fact_text") fd
  g__law_fact_text : mg "_law_fact_text" = some (.ref (He.ga K "_law_fact_text"))
  f__law_counts : ∃ fd, FunD K "_law_counts" "_law_counts" (defArgs (top 63)) (defBody (top 63)) (defScope (top 63)) [] [] (He.ga K "_law_counts") fd
  g__law_counts : mg "_law_counts" = some (.ref (He.ga K "_law_counts"))
  f__law_facts : ∃ fd, FunD K "_law_facts" "_law_facts" (defArgs (top 64)) (defBody (top 64)) (defScope (top 64)) [] [] (He.ga K "_law_facts") fd
  g__law_facts : mg "_law_facts" = some (.ref (He.ga K "_law_facts"))
  f__law_heads : ∃ fd, FunD K "_law_heads" "_law_heads" (defArgs (top 65)) (defBody (top 65)) (defScope (top 65)) [] [] (He.ga K "_law_heads") fd
  g__law_heads : mg "_law_heads" = some (.ref (He.ga K "_law_heads"))
  f__law_two : ∃ fd, FunD K "_law_two" "_law_two" (defArgs (top 66)) (defBody (top 66)) (defScope (top 66)) [] [] (He.ga K "_law_two") fd
  g__law_two : mg "_law_two" = some (.ref (He.ga K "_law_two"))
  f__law_rule : ∃ fd, FunD K "_law_rule" "_law_rule" (defArgs (top 67)) (defBody (top 67)) (defScope (top 67)) [] [] (He.ga K "_law_rule") fd
  g__law_rule : mg "_law_rule" = some (.ref (He.ga K "_law_rule"))
  f__law_rule_text : ∃ fd, FunD K "_law_rule_text" "_law_rule_text" (defArgs (top 68)) (defBody (top 68)) (defScope (top 68)) [] [] (He.ga K "_law_rule_text") fd
  g__law_rule_text : mg "_law_rule_text" = some (.ref (He.ga K "_law_rule_text"))
  f__law_kind_text : ∃ fd, FunD K "_law_kind_text" "_law_kind_text" (defArgs (top 69)) (defBody (top 69)) (defScope (top 69)) [] [] (He.ga K "_law_kind_text") fd
  g__law_kind_text : mg "_law_kind_text" = some (.ref (He.ga K "_law_kind_text"))
  f__law_spread : ∃ fd, FunD K "_law_spread" "_law_spread" (defArgs (top 70)) (defBody (top 70)) (defScope (top 70)) [] [] (He.ga K "_law_spread") fd
  g__law_spread : mg "_law_spread" = some (.ref (He.ga K "_law_spread"))
  f__law_closer : ∃ fd, FunD K "_law_closer" "_law_closer" (defArgs (top 71)) (defBody (top 71)) (defScope (top 71)) [] [] (He.ga K "_law_closer") fd
  g__law_closer : mg "_law_closer" = some (.ref (He.ga K "_law_closer"))
  f__law_turned : ∃ fd, FunD K "_law_turned" "_law_turned" (defArgs (top 72)) (defBody (top 72)) (defScope (top 72)) [] [] (He.ga K "_law_turned") fd
  g__law_turned : mg "_law_turned" = some (.ref (He.ga K "_law_turned"))
  f__law_rules : ∃ fd, FunD K "_law_rules" "_law_rules" (defArgs (top 73)) (defBody (top 73)) (defScope (top 73)) [] [] (He.ga K "_law_rules") fd
  g__law_rules : mg "_law_rules" = some (.ref (He.ga K "_law_rules"))
  f__law_written : ∃ fd, FunD K "_law_written" "_law_written" (defArgs (top 74)) (defBody (top 74)) (defScope (top 74)) [] [] (He.ga K "_law_written") fd
  g__law_written : mg "_law_written" = some (.ref (He.ga K "_law_written"))
  f_law : ∃ fd, FunD K "law" "law" (defArgs (top 75)) (defBody (top 75)) (defScope (top 75)) [] [] (He.ga K "law") fd
  g_law : mg "law" = some (.ref (He.ga K "law"))
  k_Look : ClsF K cs_Look fs_Look
  g_Look : mg "Look" = some (.ref (He.ga K "Look"))
  n_Look : Mk K (He.ga K "Look") (He.ma K (He.ga K "Look") "__init__")
  q_Look___init__ : ∃ fd, FunD K "__init__" "Look.__init__" (defArgs (inClass (top 30) 0)) (defBody (inClass (top 30) 0)) (defScope (inClass (top 30) 0)) [] [] (He.ma K (He.ga K "Look") "__init__") fd
  q_Look_holds : ∃ fd, FunD K "holds" "Look.holds" (defArgs (inClass (top 30) 1)) (defBody (inClass (top 30) 1)) (defScope (inClass (top 30) 1)) [] [] (He.ma K (He.ga K "Look") "holds") fd
  t_Look_holds : Meth K (He.ga K "Look") "holds" (He.ma K (He.ga K "Look") "holds")
  q_Look_word : ∃ fd, FunD K "word" "Look.word" (defArgs (inClass (top 30) 2)) (defBody (inClass (top 30) 2)) (defScope (inClass (top 30) 2)) [] [] (He.ma K (He.ga K "Look") "word") fd
  t_Look_word : Meth K (He.ga K "Look") "word" (He.ma K (He.ga K "Look") "word")
  g_Same : mg "Same" = some (.ref (He.ga K "Same"))
  n_Same : Mk K (He.ga K "Same") (He.ma K (He.ga K "Same") "__init__")
  q_Same___init__ : ∃ fd, FunD K "__init__" "Look.__init__" (defArgs (inClass (top 30) 0)) (defBody (inClass (top 30) 0)) (defScope (inClass (top 30) 0)) [] [] (He.ma K (He.ga K "Same") "__init__") fd
  q_Same_holds : ∃ fd, FunD K "holds" "Same.holds" (defArgs (inClass (top 31) 0)) (defBody (inClass (top 31) 0)) (defScope (inClass (top 31) 0)) [] [] (He.ma K (He.ga K "Same") "holds") fd
  t_Same_holds : Meth K (He.ga K "Same") "holds" (He.ma K (He.ga K "Same") "holds")
  q_Same_word : ∃ fd, FunD K "word" "Same.word" (defArgs (inClass (top 31) 1)) (defBody (inClass (top 31) 1)) (defScope (inClass (top 31) 1)) [] [] (He.ma K (He.ga K "Same") "word") fd
  t_Same_word : Meth K (He.ga K "Same") "word" (He.ma K (He.ga K "Same") "word")
  g_Unlike : mg "Unlike" = some (.ref (He.ga K "Unlike"))
  n_Unlike : Mk K (He.ga K "Unlike") (He.ma K (He.ga K "Unlike") "__init__")
  q_Unlike___init__ : ∃ fd, FunD K "__init__" "Look.__init__" (defArgs (inClass (top 30) 0)) (defBody (inClass (top 30) 0)) (defScope (inClass (top 30) 0)) [] [] (He.ma K (He.ga K "Unlike") "__init__") fd
  q_Unlike_holds : ∃ fd, FunD K "holds" "Unlike.holds" (defArgs (inClass (top 32) 0)) (defBody (inClass (top 32) 0)) (defScope (inClass (top 32) 0)) [] [] (He.ma K (He.ga K "Unlike") "holds") fd
  t_Unlike_holds : Meth K (He.ga K "Unlike") "holds" (He.ma K (He.ga K "Unlike") "holds")
  q_Unlike_word : ∃ fd, FunD K "word" "Unlike.word" (defArgs (inClass (top 32) 1)) (defBody (inClass (top 32) 1)) (defScope (inClass (top 32) 1)) [] [] (He.ma K (He.ga K "Unlike") "word") fd
  t_Unlike_word : Meth K (He.ga K "Unlike") "word" (He.ma K (He.ga K "Unlike") "word")
  k_Rule : ClsF K cs_Rule fs_Rule
  g_Rule : mg "Rule" = some (.ref (He.ga K "Rule"))
  n_Rule : Mk K (He.ga K "Rule") (He.ma K (He.ga K "Rule") "__init__")
  q_Rule___init__ : ∃ fd, FunD K "__init__" "Rule.__init__" (defArgs (inClass (top 45) 0)) (defBody (inClass (top 45) 0)) (defScope (inClass (top 45) 0)) [] [] (He.ma K (He.ga K "Rule") "__init__") fd
  q_Rule_calls : ∃ fd, FunD K "calls" "Rule.calls" (defArgs (inClass (top 45) 1)) (defBody (inClass (top 45) 1)) (defScope (inClass (top 45) 1)) [] [] (He.ma K (He.ga K "Rule") "calls") fd
  t_Rule_calls : Meth K (He.ga K "Rule") "calls" (He.ma K (He.ga K "Rule") "calls")
  k_Book : ClsF K cs_Book fs_Book
  g_Book : mg "Book" = some (.ref (He.ga K "Book"))
  n_Book : Mk K (He.ga K "Book") (He.ma K (He.ga K "Book") "__init__")
  q_Book___init__ : ∃ fd, FunD K "__init__" "Book.__init__" (defArgs (inClass (top 46) 0)) (defBody (inClass (top 46) 0)) (defScope (inClass (top 46) 0)) [] [] (He.ma K (He.ga K "Book") "__init__") fd
  g_PARTS : mg "PARTS" = some (.ref (He.ga K "PARTS"))
  u_PARTS : He.tupB K "PARTS" ((["take", "keep", "look", "put", "tell"] : List String).map fun s => He.Dv.str (Str.ofString s)) = true
  v_PARTS : tupN K "PARTS" = true
  g_SIZES : mg "SIZES" = some (.ref (He.ga K "SIZES"))
  u_SIZES : He.tupB K "SIZES" ((["0", "1", "2", "3", "4"] : List String).map fun s => He.Dv.str (Str.ofString s)) = true
  n_int : mg "int" = none
  n_isinstance : mg "isinstance" = none
  n_len : mg "len" = none
  n_list : mg "list" = none
  n_max : mg "max" = none
  n_range : mg "range" = none
  n_str : mg "str" = none
  n_tuple : mg "tuple" = none
  s_FIGURES : ∃ t, mg "FIGURES" = some (.str (Str.ofString "0123456789") t)
  s_GREAT : ∃ t, mg "GREAT" = some (.str (Str.ofString "ABCDEFGHIJKLMNOPQRSTUVWXYZ") t)
  s_SIGNS : ∃ t, mg "SIGNS" = some (.str (Str.ofString "(),;:=-") t)
  s_SMALL : ∃ t, mg "SMALL" = some (.str (Str.ofString "abcdefghijklmnopqrstuvwxyz") t)
  g_BadArgs : mg "BadArgs" = some (.ref (He.ga K "BadArgs"))
  x_BadArgs : (He.Fa.exc "BadArgs").ok K = true
  g_BadCall : mg "BadCall" = some (.ref (He.ga K "BadCall"))
  x_BadCall : (He.Fa.exc "BadCall").ok K = true
  g_BadTake : mg "BadTake" = some (.ref (He.ga K "BadTake"))
  x_BadTake : (He.Fa.exc "BadTake").ok K = true
  g_NoKind : mg "NoKind" = some (.ref (He.ga K "NoKind"))
  x_NoKind : (He.Fa.exc "NoKind").ok K = true
  g_NoLine : mg "NoLine" = some (.ref (He.ga K "NoLine"))
  x_NoLine : (He.Fa.exc "NoLine").ok K = true
  g_NoName : mg "NoName" = some (.ref (He.ga K "NoName"))
  x_NoName : (He.Fa.exc "NoName").ok K = true
  g_Twice : mg "Twice" = some (.ref (He.ga K "Twice"))
  x_Twice : (He.Fa.exc "Twice").ok K = true
/-! each def keeps its promise -/
abbrev N__wall : List Str := ["k"]
theorem nd__wall : N__wall.Nodup := by decide +kernel
theorem ok__wall {P : Program} {w : World} {K : Fg} {mg : Str → Option Value} {base : Heap} (T : Fx K mg) : OkF P w K mg base "_wall" 1 (sp1 K m__wall) :=
  mkF1 (N := N__wall) T.f__wall T.g__wall ⟨rfl, rfl, rfl, nd__wall, rfl, by decide +kernel, by decide +kernel⟩ (fun _ _ _ _ _ _ us hl => match us, hl with | [_], _ => rfl) fun cdv A outer s H E hr p0 b hown => by
    unfold m__wall
    exact js_stuck

abbrev N_is_name : List Str := ["text", "sign"]
theorem nd_is_name : N_is_name.Nodup := by decide +kernel
theorem ok_is_name {P : Program} {w : World} {K : Fg} {mg : Str → Option Value} {base : Heap} (T : Fx K mg) : OkF P w K mg base "is_name" 1 (sp1 K m_is_name) :=
  mkF1 (N := N_is_name) T.f_is_name T.g_is_name ⟨rfl, rfl, rfl, nd_is_name, rfl, by decide +kernel, by decide +kernel⟩ (fun _ _ _ _ _ _ us hl => match us, hl with | [_], _ => rfl) fun cdv A outer s H E hr p0 b hown => by
    unfold m_is_name
    exact (js_if1 pi_rt (jt_not (jt_chain op_le ro_le op_le ro_le je_int (je_callB call_len_str ra_lenS T.n_len bt_len (je_var 0 rfl)) je_int)) (js_ret je_bl)
  (js_forR (Lf := fun (s9 : Unit) => [.im (rp K p0), .no]) (wr := id) (fun _ _ h => h) (ji_str (je_var 0 rfl)) (jg_name 1 (fun _ => nd_is_name)) (Wk.s (Wk.s Wk.nil)) (fun F14 s9 e10 => (js_if2 (jw_jt (jw_and (jt_cmp op_notInS ro_notIn (je_var 1 rfl) (je_gstr T.s_SMALL)) (jw_and (jt_cmp op_notInS ro_notIn (je_var 1 rfl) (je_gstr T.s_GREAT)) (jw_and1 (jt_cmp op_notInS ro_notIn (je_var 1 rfl) (je_gstr T.s_FIGURES)))))) (js_retL je_bl) (js_nilL (Wk.s (Wk.n Wk.nil))))) (fun s9 =>
  (js_ret je_bl)) pasO))

abbrev N_is_open : List Str := ["text"]
theorem nd_is_open : N_is_open.Nodup := by decide +kernel
theorem ok_is_open {P : Program} {w : World} {K : Fg} {mg : Str → Option Value} {base : Heap} (T : Fx K mg) : OkF P w K mg base "is_open" 2 (sp1 K m_is_open) :=
  mkF1 (N := N_is_open) T.f_is_open T.g_is_open ⟨rfl, rfl, rfl, nd_is_open, rfl, by decide +kernel, by decide +kernel⟩ (fun _ _ _ _ _ _ us hl => match us, hl with | [_], _ => rfl) fun cdv A outer s H E hr p0 b hown => by
    unfold m_is_open
    exact (js_ret (je_and (je_call1 (ok_is_name T) (hr.mono (by decide)) pasF (je_var 0 rfl)) (je_one (je_cmp op_inS ro_in (je_ix ix_str ro_ixS (je_var 0 rfl) je_int) (je_gstr T.s_GREAT)))))

abbrev N_is_kind : List Str := ["text"]
theorem nd_is_kind : N_is_kind.Nodup := by decide +kernel
theorem ok_is_kind {P : Program} {w : World} {K : Fg} {mg : Str → Option Value} {base : Heap} (T : Fx K mg) : OkF P w K mg base "is_kind" 2 (sp1 K m_is_kind) :=
  mkF1 (N := N_is_kind) T.f_is_kind T.g_is_kind ⟨rfl, rfl, rfl, nd_is_kind, rfl, by decide +kernel, by decide +kernel⟩ (fun _ _ _ _ _ _ us hl => match us, hl with | [_], _ => rfl) fun cdv A outer s H E hr p0 b hown => by
    unfold m_is_kind
    exact (js_ret (je_and (je_call1 (ok_is_name T) (hr.mono (by decide)) pasF (je_var 0 rfl)) (je_one (je_cmp op_inS ro_in (je_ix ix_str ro_ixS (je_var 0 rfl) je_int) (je_gstr T.s_SMALL)))))

abbrev N_pieces : List Str := ["text", "found", "name", "sign"]
theorem nd_pieces : N_pieces.Nodup := by decide +kernel
theorem ok_pieces {P : Program} {w : World} {K : Fg} {mg : Str → Option Value} {base : Heap} (T : Fx K mg) : OkF P w K mg base "pieces" 1 (sp1 K m_pieces) :=
  mkF1 (N := N_pieces) T.f_pieces T.g_pieces ⟨rfl, rfl, rfl, nd_pieces, rfl, by decide +kernel, by decide +kernel⟩ (fun _ _ _ _ _ _ us hl => match us, hl with | [_], _ => rfl) fun cdv A outer s H E hr p0 b hown => by
    unfold m_pieces
    exact (js_cons (j1_setF 1 (jf_lst jl_nil) nd_pieces) fun a1 =>
  (js_cons (j1_set 2 je_str nd_pieces) fun a2 =>
  (js_cons (j1_forB (Lf := fun (s4 : ((List Tx) × Tx)) => [.im (rp K p0), .mu (ctL K s4.1), .im (rp K s4.2), .no]) (ji_str (je_var 0 rfl)) (jg_name 3 (fun _ => nd_pieces)) (Wk.s (Wk.s (Wk.s (Wk.s Wk.nil)))) (fun F9 s4 e5 => (js_if1 pi_tl (jw_jt (jw_or (jt_cmp op_inS ro_in (je_var 3 rfl) (je_gstr T.s_SMALL)) (jw_or (jt_cmp op_inS ro_in (je_var 3 rfl) (je_gstr T.s_GREAT)) (jw_or1 (jt_cmp op_inS ro_in (je_var 3 rfl) (je_gstr T.s_FIGURES)))))) (js_cons (j1_aug 2 iop_add_str ro_addT (je_var 3 rfl) nd_pieces) fun a19 =>
  (js_cnt (Wk.s (Wk.s (Wk.s (Wk.n Wk.nil))))))
  (js_cons (j1_if (Lf := fun (s24 : ((List Tx) × Tx)) => [.im (rp K p0), .mu (ctL K s24.1), .im (rp K s24.2), .im (rp K e5)]) (jt_cmp op_ne ro_neT (je_var 2 rfl) je_str) (js_cons (j1_append 1 (je_var 2 rfl)) fun a25 =>
  (js_cons (j1_set 2 je_str nd_pieces) fun a28 =>
  (js_nilP (Wk.s (Wk.s (Wk.s (Wk.s Wk.nil))))))) (js_nilP (Wk.s (Wk.s (Wk.s (Wk.s Wk.nil)))))) fun s24 =>
  (js_if2 (jt_cmp op_inS ro_in (je_var 3 rfl) (je_gstr T.s_SIGNS)) (js_cons (j1_append 1 (je_var 3 rfl)) fun a32 =>
  (js_nilL (Wk.s (Wk.s (Wk.s (Wk.n Wk.nil)))))) (js_if2 (jt_cmp op_ne ro_neT (je_var 3 rfl) je_str) (js_raise takF rfl T.g_NoLine T.x_NoLine) (js_nilL (Wk.s (Wk.s (Wk.s (Wk.n Wk.nil)))))))))) pasO) fun s4 =>
  (js_cons (j1_if (Lf := fun (s41 : (List Tx)) => [.im (rp K p0), .mu (ctL K s41), .im (rp K s4.2), .no]) (jt_cmp op_ne ro_neT (je_var 2 rfl) je_str) (js_cons (j1_append 1 (je_var 2 rfl)) fun a42 =>
  (js_nilP (Wk.s (Wk.s (Wk.s (Wk.s Wk.nil)))))) (js_nilP (Wk.s (Wk.s (Wk.s (Wk.s Wk.nil)))))) fun s41 =>
  (js_frz 1 (js_ret (je_var 1 rfl)) hown)))))

abbrev N_piece_at : List Str := ["found", "at"]
theorem nd_piece_at : N_piece_at.Nodup := by decide +kernel
theorem ok_piece_at {P : Program} {w : World} {K : Fg} {mg : Str → Option Value} {base : Heap} (T : Fx K mg) : OkF P w K mg base "piece_at" 1 (sp2 K m_piece_at) :=
  mkF2 (N := N_piece_at) T.f_piece_at T.g_piece_at ⟨rfl, rfl, rfl, nd_piece_at, rfl, by decide +kernel, by decide +kernel⟩ (fun _ _ _ _ _ _ us hl => match us, hl with | [_, _], _ => rfl) fun cdv A outer s H E hr p0 p1 b hown => by
    unfold m_piece_at
    exact (js_if1 pi_rt (jt_cmp op_lt ro_lt (je_var 1 rfl) (je_callB call_len_seq ra_lenL T.n_len bt_len (je_var 0 rfl))) (js_ret (je_ix ix_list ro_ixL (je_var 0 rfl) (je_var 1 rfl)))
  (js_ret je_str))

abbrev N_take_arguments : List Str := ["found", "at", "names", "name", "sign"]
theorem nd_take_arguments : N_take_arguments.Nodup := by decide +kernel
theorem ok_take_arguments {P : Program} {w : World} {K : Fg} {mg : Str → Option Value} {base : Heap} (T : Fx K mg) : OkF P w K mg base "take_arguments" 2 (sp2 K m_take_arguments) :=
  mkF2 (N := N_take_arguments) T.f_take_arguments T.g_take_arguments ⟨rfl, rfl, rfl, nd_take_arguments, rfl, by decide +kernel, by decide +kernel⟩ (fun _ _ _ _ _ _ us hl => match us, hl with | [_, _], _ => rfl) fun cdv A outer s H E hr p0 p1 b hown => by
    unfold m_take_arguments
    exact (js_if1 pi_rt (jt_cmp op_eq ro_eqT (je_call2 (ok_piece_at T) (hr.mono (by decide)) pasF (je_var 0 rfl) (je_var 1 rfl)) je_str) (js_ret (je_pair (je_tupU jl_nil) (je_bin op_add ro_add (je_var 1 rfl) je_int)))
  (js_cons (j1_setF 2 (jf_lst jl_nil) nd_take_arguments) fun a11 =>
  (js_whR (Lf := fun (s12 : (Int × (List Tx))) => [.im (rp K p0), .im (rp K s12.1), .mu (ctL K s12.2), .no, .no]) FUEL (wr := id) (fun _ _ h => h) (Wk.s (Wk.s (Wk.s (Wk.s (Wk.s Wk.nil))))) (fun s12 => (jt_val je_bl)) (fun s12 => (js_cons (j1_set 3 (je_call2 (ok_piece_at T) (hr.mono (by decide)) pasF (je_var 0 rfl) (je_var 1 rfl)) nd_take_arguments) fun a15 =>
  (js_if1 pi_tl (jt_not (jt_val (je_call1 (ok_is_name T) (hr.mono (by decide)) pasF (je_var 3 rfl)))) (js_raise takF rfl T.g_NoLine T.x_NoLine)
  (js_cons (j1_append 2 (je_var 3 rfl)) fun a21 =>
  (js_cons (j1_set 4 (je_call2 (ok_piece_at T) (hr.mono (by decide)) pasF (je_var 0 rfl) (je_bin op_add ro_add (je_var 1 rfl) je_int)) nd_take_arguments) fun a24 =>
  (js_cons (j1_aug 1 iop_add ro_add je_int nd_take_arguments) fun a29 =>
  (js_if1 pi_tl (jt_cmp op_eq ro_eqT (je_var 4 rfl) je_str) (js_frz 2 (js_retL (je_pair (je_callTy call_tuple_of ra_tupL T.n_tuple bt_tuple (je_var 2 rfl)) (je_var 1 rfl))) hown)
  (js_if2 (jt_cmp op_ne ro_neT (je_var 4 rfl) je_str) (js_raise takF rfl T.g_NoLine T.x_NoLine) (js_nilL (Wk.s (Wk.s (Wk.s (Wk.n (Wk.n Wk.nil)))))))))))))) (fun s12 =>
  js_stuck) pasO)))

abbrev N_take_fact : List Str := ["found", "at", "title", "taken"]
theorem nd_take_fact : N_take_fact.Nodup := by decide +kernel
theorem ok_take_fact {P : Program} {w : World} {K : Fg} {mg : Str → Option Value} {base : Heap} (T : Fx K mg) : OkF P w K mg base "take_fact" 3 (sp2 K m_take_fact) :=
  mkF2 (N := N_take_fact) T.f_take_fact T.g_take_fact ⟨rfl, rfl, rfl, nd_take_fact, rfl, by decide +kernel, by decide +kernel⟩ (fun _ _ _ _ _ _ us hl => match us, hl with | [_, _], _ => rfl) fun cdv A outer s H E hr p0 p1 b hown => by
    unfold m_take_fact
    exact (js_cons (j1_set 2 (je_call2 (ok_piece_at T) (hr.mono (by decide)) pasF (je_var 0 rfl) (je_var 1 rfl)) nd_take_fact) fun a1 =>
  (js_if1 pi_rt (jt_not (jt_val (je_call1 (ok_is_kind T) (hr.mono (by decide)) pasF (je_var 2 rfl)))) (js_raise takF rfl T.g_NoLine T.x_NoLine)
  (js_if1 pi_rt (jt_cmp op_ne ro_neT (je_call2 (ok_piece_at T) (hr.mono (by decide)) pasF (je_var 0 rfl) (je_bin op_add ro_add (je_var 1 rfl) je_int)) je_str) (js_ret (je_pair (je_pair (je_var 2 rfl) (je_tupU jl_nil)) (je_bin op_add ro_add (je_var 1 rfl) je_int)))
  (js_cons (j1_set 3 (je_call2 (ok_take_arguments T) (hr.mono (by decide)) pasF (je_var 0 rfl) (je_bin op_add ro_add (je_var 1 rfl) je_int)) nd_take_fact) fun a21 =>
  (js_ret (je_pair (je_pair (je_var 2 rfl) (je_p0 (je_var 3 rfl))) (je_p1 (je_var 3 rfl))))))))

abbrev N_take_facts : List Str := ["found", "at", "facts", "taken"]
theorem nd_take_facts : N_take_facts.Nodup := by decide +kernel
theorem ok_take_facts {P : Program} {w : World} {K : Fg} {mg : Str → Option Value} {base : Heap} (T : Fx K mg) : OkF P w K mg base "take_facts" 4 (sp2 K m_take_facts) :=
  mkF2 (N := N_take_facts) T.f_take_facts T.g_take_facts ⟨rfl, rfl, rfl, nd_take_facts, rfl, by decide +kernel, by decide +kernel⟩ (fun _ _ _ _ _ _ us hl => match us, hl with | [_, _], _ => rfl) fun cdv A outer s H E hr p0 p1 b hown => by
    unfold m_take_facts
    exact (js_cons (j1_setF 2 (jf_lst jl_nil) nd_take_facts) fun a1 =>
  (js_whR (Lf := fun (s2 : (Int × (List (Tx × (Tup Tx))))) => [.im (rp K p0), .im (rp K s2.1), .mu (ctL K s2.2), .no]) FUEL (wr := id) (fun _ _ h => h) (Wk.s (Wk.s (Wk.s (Wk.s Wk.nil)))) (fun s2 => (jt_val je_bl)) (fun s2 => (js_cons (j1_set 3 (je_call2 (ok_take_fact T) (hr.mono (by decide)) pasF (je_var 0 rfl) (je_var 1 rfl)) nd_take_facts) fun a5 =>
  (js_cons (j1_append 2 (je_p0 (je_var 3 rfl))) fun a8 =>
  (js_cons (j1_set 1 (je_p1 (je_var 3 rfl)) nd_take_facts) fun a13 =>
  (js_if1 pi_tl (jt_cmp op_ne ro_neT (je_call2 (ok_piece_at T) (hr.mono (by decide)) pasF (je_var 0 rfl) (je_var 1 rfl)) je_str) (js_frz 2 (js_retL (je_pair (je_var 2 rfl) (je_var 1 rfl))) hown)
  (js_cons (j1_aug 1 iop_add ro_add je_int nd_take_facts) fun a24 =>
  (js_nilL (Wk.s (Wk.s (Wk.s (Wk.n Wk.nil))))))))))) (fun s2 =>
  js_stuck) pasO))

abbrev N_fact_text : List Str := ["fact"]
theorem nd_fact_text : N_fact_text.Nodup := by decide +kernel
theorem ok_fact_text {P : Program} {w : World} {K : Fg} {mg : Str → Option Value} {base : Heap} (T : Fx K mg) : OkF P w K mg base "fact_text" 1 (sp1 K m_fact_text) :=
  mkF1 (N := N_fact_text) T.f_fact_text T.g_fact_text ⟨rfl, rfl, rfl, nd_fact_text, rfl, by decide +kernel, by decide +kernel⟩ (fun _ _ _ _ _ _ us hl => match us, hl with | [_], _ => rfl) fun cdv A outer s H E hr p0 b hown => by
    unfold m_fact_text
    exact (js_if1 pi_rt (jt_cmp op_eq ro_eqI (je_callB call_len_seq ra_lenU T.n_len bt_len (je_p1 (je_var 0 rfl))) je_int) (js_ret (je_p0 (je_var 0 rfl)))
  (js_ret (je_bin op_add_str ro_addT (je_bin op_add_str ro_addT (je_bin op_add_str ro_addT (je_p0 (je_var 0 rfl)) je_str) (je_m1 PySem.F.slot_str_join PySem.F.type_str_join mt_join rm_joinU je_str (je_p1 (je_var 0 rfl)))) je_str)))

abbrev N_facts_text : List Str := ["facts", "fact"]
theorem nd_facts_text : N_facts_text.Nodup := by decide +kernel
theorem ok_facts_text {P : Program} {w : World} {K : Fg} {mg : Str → Option Value} {base : Heap} (T : Fx K mg) : OkF P w K mg base "facts_text" 2 (sp1 K m_facts_text) :=
  mkF1 (N := N_facts_text) T.f_facts_text T.g_facts_text ⟨rfl, rfl, rfl, nd_facts_text, rfl, by decide +kernel, by decide +kernel⟩ (fun _ _ _ _ _ _ us hl => match us, hl with | [_], _ => rfl) fun cdv A outer s H E hr p0 b hown => by
    unfold m_facts_text
    exact (js_ret (je_m1 PySem.F.slot_str_join PySem.F.type_str_join mt_join rm_join je_str (je_jf (jf_lc (own := [("fact", 1)]) (ji_list (je_var 0 rfl)) (jg_name 1 (fun _ => nd_facts_text)) (fun _ e1 => (je_call1 (ok_fact_text T) (hr.mono (by decide)) passL (je_var 1 rfl))) nd_facts_text (blkOk_by (N := N_facts_text) (sc := defScope (top 24)) (by decide +kernel))))))

abbrev N_kind_lasts : List Str := ["kinds", "told", "kind"]
theorem nd_kind_lasts : N_kind_lasts.Nodup := by decide +kernel
theorem ok_kind_lasts {P : Program} {w : World} {K : Fg} {mg : Str → Option Value} {base : Heap} (T : Fx K mg) : OkF P w K mg base "kind_lasts" 1 (sp1 K m_kind_lasts) :=
  mkF1 (N := N_kind_lasts) T.f_kind_lasts T.g_kind_lasts ⟨rfl, rfl, rfl, nd_kind_lasts, rfl, by decide +kernel, by decide +kernel⟩ (fun _ _ _ _ _ _ us hl => match us, hl with | [_], _ => rfl) fun cdv A outer s H E hr p0 b hown => by
    unfold m_kind_lasts
    exact (js_cons (j1_setF 1 jf_dnew nd_kind_lasts) fun a1 =>
  (js_cons (j1_forP (Lf := fun (s2 : (Dic Bool)) => [.im (rp K p0), .mu (ctD K s2), .no]) (ji_list (je_var 0 rfl)) (jg_name 2 (fun _ => nd_kind_lasts)) (Wk.s (Wk.s (Wk.s Wk.nil))) (fun F7 s2 e3 => (js_cons (j1_dput 1 hr.units (je_t2 (je_var 2 rfl)) (je_t0 (je_var 2 rfl))) fun a8 =>
  (js_nilP (Wk.s (Wk.s (Wk.n Wk.nil)))))) pasO) fun s2 =>
  (js_frzD 1 (js_ret (je_var 1 rfl)) hown)))

abbrev N_look_at_facts : List Str := ["kinds", "facts", "sizes", "kind", "fact"]
theorem nd_look_at_facts : N_look_at_facts.Nodup := by decide +kernel
theorem ok_look_at_facts {P : Program} {w : World} {K : Fg} {mg : Str → Option Value} {base : Heap} (T : Fx K mg) : OkF P w K mg base "look_at_facts" 1 (sp2 K m_look_at_facts) :=
  mkF2 (N := N_look_at_facts) T.f_look_at_facts T.g_look_at_facts ⟨rfl, rfl, rfl, nd_look_at_facts, rfl, by decide +kernel, by decide +kernel⟩ (fun _ _ _ _ _ _ us hl => match us, hl with | [_, _], _ => rfl) fun cdv A outer s H E hr p0 p1 b hown => by
    unfold m_look_at_facts
    exact (js_cons (j1_setF 2 jf_dnew nd_look_at_facts) fun a1 =>
  (js_cons (j1_forP (Lf := fun (s2 : (Dic Int)) => [.im (rp K p0), .im (rp K p1), .mu (ctD K s2), .no, .no]) (ji_list (je_var 0 rfl)) (jg_name 3 (fun _ => nd_look_at_facts)) (Wk.s (Wk.s (Wk.s (Wk.s (Wk.s Wk.nil))))) (fun F7 s2 e3 => (js_cons (j1_dput 2 hr.units (je_t1 (je_var 3 rfl)) (je_t0 (je_var 3 rfl))) fun a8 =>
  (js_nilP (Wk.s (Wk.s (Wk.s (Wk.n (Wk.s Wk.nil)))))))) pasO) fun s2 =>
  (js_cons (j1_forP (Lf := fun (s16 : Unit) => [.im (rp K p0), .im (rp K p1), .mu (ctD K s2), .no, .no]) (ji_list (je_var 1 rfl)) (jg_name 4 (fun _ => nd_look_at_facts)) (Wk.s (Wk.s (Wk.s (Wk.s (Wk.s Wk.nil))))) (fun F21 s16 e17 => (js_cons (j1_if (Lf := fun (s27 : Unit) => [.im (rp K p0), .im (rp K p1), .mu (ctD K s2), .no, .im (rp K e17)]) (jt_dnotin hr.units (je_p0 (je_var 4 rfl)) (jd_held 2)) (js_raise takF rfl T.g_NoKind T.x_NoKind) (js_nilP (Wk.s (Wk.s (Wk.s (Wk.s (Wk.s Wk.nil))))))) fun s27 =>
  (js_cons (j1_if (Lf := fun (s38 : Unit) => [.im (rp K p0), .im (rp K p1), .mu (ctD K s2), .no, .im (rp K e17)]) (jt_cmp op_ne ro_neI (je_callB call_len_seq ra_lenU T.n_len bt_len (je_p1 (je_var 4 rfl))) (je_dget hr.units (jd_held 2) (je_p0 (je_var 4 rfl)))) (js_raise takF rfl T.g_BadArgs T.x_BadArgs) (js_nilP (Wk.s (Wk.s (Wk.s (Wk.s (Wk.s Wk.nil))))))) fun s38 =>
  (js_nilP (Wk.s (Wk.s (Wk.s (Wk.s (Wk.n Wk.nil))))))))) pasO) fun s16 =>
  js_nilF)))

abbrev N_look_at_taken : List Str := ["lasting", "taken", "fact"]
theorem nd_look_at_taken : N_look_at_taken.Nodup := by decide +kernel
theorem ok_look_at_taken {P : Program} {w : World} {K : Fg} {mg : Str → Option Value} {base : Heap} (T : Fx K mg) : OkF P w K mg base "look_at_taken" 1 (sp2 K m_look_at_taken) :=
  mkF2 (N := N_look_at_taken) T.f_look_at_taken T.g_look_at_taken ⟨rfl, rfl, rfl, nd_look_at_taken, rfl, by decide +kernel, by decide +kernel⟩ (fun _ _ _ _ _ _ us hl => match us, hl with | [_, _], _ => rfl) fun cdv A outer s H E hr p0 p1 b hown => by
    unfold m_look_at_taken
    exact (js_cons (j1_forP (Lf := fun (s1 : Unit) => [.im (rp K p0), .im (rp K p1), .no]) (ji_list (je_var 1 rfl)) (jg_name 2 (fun _ => nd_look_at_taken)) (Wk.s (Wk.s (Wk.s Wk.nil))) (fun F6 s1 e2 => (js_cons (j1_if (Lf := fun (s12 : Unit) => [.im (rp K p0), .im (rp K p1), .im (rp K e2)]) (jt_val (je_dget hr.units (jd_val (je_var 0 rfl)) (je_p0 (je_var 2 rfl)))) (js_raise takF rfl T.g_BadTake T.x_BadTake) (js_nilP (Wk.s (Wk.s (Wk.s Wk.nil))))) fun s12 =>
  (js_nilP (Wk.s (Wk.s (Wk.n Wk.nil)))))) pasO) fun s1 =>
  js_nilF)

abbrev N_Look___init__ : List Str := ["self", "left", "right"]
theorem nd_Look___init__ : N_Look___init__.Nodup := by decide +kernel
theorem ok_Look___init__ {P : Program} {w : World} {K : Fg} {mg : Str → Option Value} {base : Heap} (T : Fx K mg) {fa : Addr} {fd : FuncData} (F : FunD K "__init__" "Look.__init__" (defArgs (inClass (top 30) 0)) (defBody (inClass (top 30) 0)) (defScope (inClass (top 30) 0)) [] [] fa fd) : FnOk P w K mg base (L2.CX P w) 1 fa fd ["self", "left", "right"] (spI2 K cs_Look fs_Look m_Look___init__) :=
  mkI2 (N := N_Look___init__) F ⟨rfl, rfl, rfl, nd_Look___init__, rfl, by decide +kernel, by decide +kernel⟩ fun cdv A outer s H E hr nm p hnm p0 p1 => by
    unfold m_Look___init__
    exact (jn_fld [] T.k_Look hnm (fun b hb => (je_var 1 rfl)) (fun a1 =>
  (jn_fld ["left"] T.k_Look hnm (fun b hb => (je_var 2 rfl)) (fun a2 =>
  jn_nil) (noMu_im (noMu_im (noMu_im noMu_nil))))) (noMu_im (noMu_im (noMu_im noMu_nil))))

abbrev N_Look_holds : List Str := ["self", "one", "other"]
theorem nd_Look_holds : N_Look_holds.Nodup := by decide +kernel
theorem ok_Look_holds {P : Program} {w : World} {K : Fg} {mg : Str → Option Value} {base : Heap} (T : Fx K mg) {fa : Addr} {fd : FuncData} (F : FunD K "holds" "Look.holds" (defArgs (inClass (top 30) 1)) (defBody (inClass (top 30) 1)) (defScope (inClass (top 30) 1)) [] [] fa fd) : FnOk P w K mg base (L2.CX P w) 1 fa fd ["self", "one", "other"] (sp3 K m_Look_holds) :=
  mkM3 (N := N_Look_holds) F ⟨rfl, rfl, rfl, nd_Look_holds, rfl, by decide +kernel, by decide +kernel⟩ fun cdv A outer s H E hr p0 p1 p2 b hown => by
    unfold m_Look_holds
    exact js_stuck

abbrev N_Look_word : List Str := ["self"]
theorem nd_Look_word : N_Look_word.Nodup := by decide +kernel
theorem ok_Look_word {P : Program} {w : World} {K : Fg} {mg : Str → Option Value} {base : Heap} (T : Fx K mg) {fa : Addr} {fd : FuncData} (F : FunD K "word" "Look.word" (defArgs (inClass (top 30) 2)) (defBody (inClass (top 30) 2)) (defScope (inClass (top 30) 2)) [] [] fa fd) : FnOk P w K mg base (L2.CX P w) 1 fa fd ["self"] (sp1 K m_Look_word) :=
  mkM1 (N := N_Look_word) F ⟨rfl, rfl, rfl, nd_Look_word, rfl, by decide +kernel, by decide +kernel⟩ fun cdv A outer s H E hr p0 b hown => by
    unfold m_Look_word
    exact (js_ret je_str)

abbrev N_Same_holds : List Str := ["self", "one", "other"]
theorem nd_Same_holds : N_Same_holds.Nodup := by decide +kernel
theorem ok_Same_holds {P : Program} {w : World} {K : Fg} {mg : Str → Option Value} {base : Heap} (T : Fx K mg) {fa : Addr} {fd : FuncData} (F : FunD K "holds" "Same.holds" (defArgs (inClass (top 31) 0)) (defBody (inClass (top 31) 0)) (defScope (inClass (top 31) 0)) [] [] fa fd) : FnOk P w K mg base (L2.CX P w) 1 fa fd ["self", "one", "other"] (sp3 K m_Same_holds) :=
  mkM3 (N := N_Same_holds) F ⟨rfl, rfl, rfl, nd_Same_holds, rfl, by decide +kernel, by decide +kernel⟩ fun cdv A outer s H E hr p0 p1 p2 b hown => by
    unfold m_Same_holds
    exact js_stuck

abbrev N_Same_word : List Str := ["self"]
theorem nd_Same_word : N_Same_word.Nodup := by decide +kernel
theorem ok_Same_word {P : Program} {w : World} {K : Fg} {mg : Str → Option Value} {base : Heap} (T : Fx K mg) {fa : Addr} {fd : FuncData} (F : FunD K "word" "Same.word" (defArgs (inClass (top 31) 1)) (defBody (inClass (top 31) 1)) (defScope (inClass (top 31) 1)) [] [] fa fd) : FnOk P w K mg base (L2.CX P w) 1 fa fd ["self"] (sp1 K m_Same_word) :=
  mkM1 (N := N_Same_word) F ⟨rfl, rfl, rfl, nd_Same_word, rfl, by decide +kernel, by decide +kernel⟩ fun cdv A outer s H E hr p0 b hown => by
    unfold m_Same_word
    exact (js_ret je_str)

abbrev N_Unlike_holds : List Str := ["self", "one", "other"]
theorem nd_Unlike_holds : N_Unlike_holds.Nodup := by decide +kernel
theorem ok_Unlike_holds {P : Program} {w : World} {K : Fg} {mg : Str → Option Value} {base : Heap} (T : Fx K mg) {fa : Addr} {fd : FuncData} (F : FunD K "holds" "Unlike.holds" (defArgs (inClass (top 32) 0)) (defBody (inClass (top 32) 0)) (defScope (inClass (top 32) 0)) [] [] fa fd) : FnOk P w K mg base (L2.CX P w) 1 fa fd ["self", "one", "other"] (sp3 K m_Unlike_holds) :=
  mkM3 (N := N_Unlike_holds) F ⟨rfl, rfl, rfl, nd_Unlike_holds, rfl, by decide +kernel, by decide +kernel⟩ fun cdv A outer s H E hr p0 p1 p2 b hown => by
    unfold m_Unlike_holds
    exact js_stuck

abbrev N_Unlike_word : List Str := ["self"]
theorem nd_Unlike_word : N_Unlike_word.Nodup := by decide +kernel
theorem ok_Unlike_word {P : Program} {w : World} {K : Fg} {mg : Str → Option Value} {base : Heap} (T : Fx K mg) {fa : Addr} {fd : FuncData} (F : FunD K "word" "Unlike.word" (defArgs (inClass (top 32) 1)) (defBody (inClass (top 32) 1)) (defScope (inClass (top 32) 1)) [] [] fa fd) : FnOk P w K mg base (L2.CX P w) 1 fa fd ["self"] (sp1 K m_Unlike_word) :=
  mkM1 (N := N_Unlike_word) F ⟨rfl, rfl, rfl, nd_Unlike_word, rfl, by decide +kernel, by decide +kernel⟩ fun cdv A outer s H E hr p0 b hown => by
    unfold m_Unlike_word
    exact (js_ret je_str)

theorem om_Look_holds {P : Program} {w : World} {K : Fg} {mg : Str → Option Value} {base : Heap} (T : Fx K mg) : OkM P w K mg base (He.ga K "Look") "holds" 1 (sp3 K m_Look_holds) := by
  obtain ⟨fd, F⟩ := T.q_Look_holds
  exact ⟨_, fd, _, T.t_Look_holds, ok_Look_holds T F, F.bindsN fun _ _ _ _ _ _ us hl => match us, hl with | [_, _, _], _ => rfl⟩
theorem om_Same_holds {P : Program} {w : World} {K : Fg} {mg : Str → Option Value} {base : Heap} (T : Fx K mg) : OkM P w K mg base (He.ga K "Same") "holds" 1 (sp3 K m_Same_holds) := by
  obtain ⟨fd, F⟩ := T.q_Same_holds
  exact ⟨_, fd, _, T.t_Same_holds, ok_Same_holds T F, F.bindsN fun _ _ _ _ _ _ us hl => match us, hl with | [_, _, _], _ => rfl⟩
theorem om_Unlike_holds {P : Program} {w : World} {K : Fg} {mg : Str → Option Value} {base : Heap} (T : Fx K mg) : OkM P w K mg base (He.ga K "Unlike") "holds" 1 (sp3 K m_Unlike_holds) := by
  obtain ⟨fd, F⟩ := T.q_Unlike_holds
  exact ⟨_, fd, _, T.t_Unlike_holds, ok_Unlike_holds T F, F.bindsN fun _ _ _ _ _ _ us hl => match us, hl with | [_, _, _], _ => rfl⟩
theorem dd_Look_holds {P : Program} {w : World} {K : Fg} {mg : Str → Option Value} {base : Heap} (T : Fx K mg) : ∀ (j : Nat) (nm : Str), cs_Look[j]? = some nm → ∃ g : C_Look → Tx → Tx → M Bool, OkM P w K mg base (He.ga K nm) "holds" 1 (sp3 K g) ∧ ∀ x : C_Look, x.c = j → ∀ (a0 : Tx) (a1 : Tx), d_Look_holds x a0 a1 = g x a0 a1 := fun j nm h => match j, h with
  | 0, h => by cases h; exact ⟨m_Look_holds, (om_Look_holds T).mono (by decide), fun x e a0 a1 => by simp only [d_Look_holds, e]⟩
  | 1, h => by cases h; exact ⟨m_Same_holds, (om_Same_holds T).mono (by decide), fun x e a0 a1 => by simp only [d_Look_holds, e]⟩
  | 2, h => by cases h; exact ⟨m_Unlike_holds, (om_Unlike_holds T).mono (by decide), fun x e a0 a1 => by simp only [d_Look_holds, e]⟩
  | n + 3, h => by cases h
theorem om_Look_word {P : Program} {w : World} {K : Fg} {mg : Str → Option Value} {base : Heap} (T : Fx K mg) : OkM P w K mg base (He.ga K "Look") "word" 1 (sp1 K m_Look_word) := by
  obtain ⟨fd, F⟩ := T.q_Look_word
  exact ⟨_, fd, _, T.t_Look_word, ok_Look_word T F, F.bindsN fun _ _ _ _ _ _ us hl => match us, hl with | [_], _ => rfl⟩
theorem om_Same_word {P : Program} {w : World} {K : Fg} {mg : Str → Option Value} {base : Heap} (T : Fx K mg) : OkM P w K mg base (He.ga K "Same") "word" 1 (sp1 K m_Same_word) := by
  obtain ⟨fd, F⟩ := T.q_Same_word
  exact ⟨_, fd, _, T.t_Same_word, ok_Same_word T F, F.bindsN fun _ _ _ _ _ _ us hl => match us, hl with | [_], _ => rfl⟩
theorem om_Unlike_word {P : Program} {w : World} {K : Fg} {mg : Str → Option Value} {base : Heap} (T : Fx K mg) : OkM P w K mg base (He.ga K "Unlike") "word" 1 (sp1 K m_Unlike_word) := by
  obtain ⟨fd, F⟩ := T.q_Unlike_word
  exact ⟨_, fd, _, T.t_Unlike_word, ok_Unlike_word T F, F.bindsN fun _ _ _ _ _ _ us hl => match us, hl with | [_], _ => rfl⟩
theorem dd_Look_word {P : Program} {w : World} {K : Fg} {mg : Str → Option Value} {base : Heap} (T : Fx K mg) : ∀ (j : Nat) (nm : Str), cs_Look[j]? = some nm → ∃ g : C_Look → M Tx, OkM P w K mg base (He.ga K nm) "word" 1 (sp1 K g) ∧ ∀ x : C_Look, x.c = j → d_Look_word x  = g x  := fun j nm h => match j, h with
  | 0, h => by cases h; exact ⟨m_Look_word, (om_Look_word T).mono (by decide), fun x e  => by simp only [d_Look_word, e]⟩
  | 1, h => by cases h; exact ⟨m_Same_word, (om_Same_word T).mono (by decide), fun x e  => by simp only [d_Look_word, e]⟩
  | 2, h => by cases h; exact ⟨m_Unlike_word, (om_Unlike_word T).mono (by decide), fun x e  => by simp only [d_Look_word, e]⟩
  | n + 3, h => by cases h
theorem on_Look {P : Program} {w : World} {K : Fg} {mg : Str → Option Value} {base : Heap} (T : Fx K mg) : OkN P w K mg base "Look" 1 (spI2 K cs_Look fs_Look m_Look___init__) := by
  obtain ⟨fd, F⟩ := T.q_Look___init__
  exact ⟨T.g_Look, _, fd, _, T.n_Look, ok_Look___init__ T F, F.bindsN fun _ _ _ _ _ _ us hl => match us, hl with | [_, _, _], _ => rfl⟩
theorem on_Same {P : Program} {w : World} {K : Fg} {mg : Str → Option Value} {base : Heap} (T : Fx K mg) : OkN P w K mg base "Same" 1 (spI2 K cs_Look fs_Look m_Look___init__) := by
  obtain ⟨fd, F⟩ := T.q_Same___init__
  exact ⟨T.g_Same, _, fd, _, T.n_Same, ok_Look___init__ T F, F.bindsN fun _ _ _ _ _ _ us hl => match us, hl with | [_, _, _], _ => rfl⟩
theorem on_Unlike {P : Program} {w : World} {K : Fg} {mg : Str → Option Value} {base : Heap} (T : Fx K mg) : OkN P w K mg base "Unlike" 1 (spI2 K cs_Look fs_Look m_Look___init__) := by
  obtain ⟨fd, F⟩ := T.q_Unlike___init__
  exact ⟨T.g_Unlike, _, fd, _, T.n_Unlike, ok_Look___init__ T F, F.bindsN fun _ _ _ _ _ _ us hl => match us, hl with | [_, _, _], _ => rfl⟩

abbrev N_read_kind : List Str := ["found"]
theorem nd_read_kind : N_read_kind.Nodup := by decide +kernel
theorem ok_read_kind {P : Program} {w : World} {K : Fg} {mg : Str → Option Value} {base : Heap} (T : Fx K mg) : OkF P w K mg base "read_kind" 3 (sp1 K m_read_kind) :=
  mkF1 (N := N_read_kind) T.f_read_kind T.g_read_kind ⟨rfl, rfl, rfl, nd_read_kind, rfl, by decide +kernel, by decide +kernel⟩ (fun _ _ _ _ _ _ us hl => match us, hl with | [_], _ => rfl) fun cdv A outer s H E hr p0 b hown => by
    unfold m_read_kind
    exact (js_if1 pi_rt (jw_jt (jw_or (jt_cmp op_ne ro_neI (je_callB call_len_seq ra_lenL T.n_len bt_len (je_var 0 rfl)) je_int) (jw_or (jt_not (jt_val (je_call1 (ok_is_kind T) (hr.mono (by decide)) pasF (je_ix ix_list ro_ixL (je_var 0 rfl) je_int)))) (jw_or1 (jt_cmp op_notIn_seq ro_notInU (je_ix ix_list ro_ixL (je_var 0 rfl) je_int) (je_gtup (ys := ["0", "1", "2", "3", "4"]) T.g_SIZES T.u_SIZES)))))) (js_raise takF rfl T.g_NoLine T.x_NoLine)
  (js_ret (je_tri (je_ix ix_list ro_ixL (je_var 0 rfl) je_int) (je_callTy call_int_str ra_intT T.n_int bt_int (je_ix ix_list ro_ixL (je_var 0 rfl) je_int)) (je_cmp op_eq ro_eqT (je_ix ix_list ro_ixL (je_var 0 rfl) je_int) je_str))))

abbrev N_take_looks : List Str := ["found", "at", "looks", "left", "how", "right"]
theorem nd_take_looks : N_take_looks.Nodup := by decide +kernel
theorem ok_take_looks {P : Program} {w : World} {K : Fg} {mg : Str → Option Value} {base : Heap} (T : Fx K mg) : OkF P w K mg base "take_looks" 3 (sp2 K m_take_looks) :=
  mkF2 (N := N_take_looks) T.f_take_looks T.g_take_looks ⟨rfl, rfl, rfl, nd_take_looks, rfl, by decide +kernel, by decide +kernel⟩ (fun _ _ _ _ _ _ us hl => match us, hl with | [_, _], _ => rfl) fun cdv A outer s H E hr p0 p1 b hown => by
    unfold m_take_looks
    exact (js_cons (j1_setF 2 (jf_lst jl_nil) nd_take_looks) fun a1 =>
  (js_whR (Lf := fun (s2 : (Int × (List C_Look))) => [.im (rp K p0), .im (rp K s2.1), .mu (ctL K s2.2), .no, .no, .no]) FUEL (wr := id) (fun _ _ h => h) (Wk.s (Wk.s (Wk.s (Wk.s (Wk.s (Wk.s Wk.nil)))))) (fun s2 => (jt_val je_bl)) (fun s2 => (js_cons (j1_set 3 (je_call2 (ok_piece_at T) (hr.mono (by decide)) pasF (je_var 0 rfl) (je_var 1 rfl)) nd_take_looks) fun a5 =>
  (js_cons (j1_set 4 (je_call2 (ok_piece_at T) (hr.mono (by decide)) pasF (je_var 0 rfl) (je_bin op_add ro_add (je_var 1 rfl) je_int)) nd_take_looks) fun a8 =>
  (js_cons (j1_set 5 (je_call2 (ok_piece_at T) (hr.mono (by decide)) pasF (je_var 0 rfl) (je_bin op_add ro_add (je_var 1 rfl) je_int)) nd_take_looks) fun a13 =>
  (js_if1 pi_tl (jw_jt (jw_or (jt_not (jt_val (je_call1 (ok_is_name T) (hr.mono (by decide)) pasF (je_var 3 rfl)))) (jw_or1 (jt_not (jt_val (je_call1 (ok_is_name T) (hr.mono (by decide)) pasF (je_var 5 rfl))))))) (js_raise takF rfl T.g_NoLine T.x_NoLine)
  (js_cons (j1_if (Lf := fun (s27 : (List C_Look)) => [.im (rp K p0), .im (rp K s2.1), .mu (ctL K s27), .im (rp K a5), .im (rp K a8), .im (rp K a13)]) (jt_cmp op_eq ro_eqT (je_var 4 rfl) je_str) (js_cons (j1_append 2 (je_new2 1 rfl (on_Same T) (hr.mono (by decide)) pasF (je_var 3 rfl) (je_var 5 rfl))) fun a28 =>
  (js_nilP (Wk.s (Wk.s (Wk.s (Wk.s (Wk.s (Wk.s Wk.nil)))))))) (js_cons (j1_if (Lf := fun (s37 : (List C_Look)) => [.im (rp K p0), .im (rp K s2.1), .mu (ctL K s37), .im (rp K a5), .im (rp K a8), .im (rp K a13)]) (jt_cmp op_eq ro_eqT (je_var 4 rfl) je_str) (js_cons (j1_append 2 (je_new2 2 rfl (on_Unlike T) (hr.mono (by decide)) pasF (je_var 3 rfl) (je_var 5 rfl))) fun a38 =>
  (js_nilP (Wk.s (Wk.s (Wk.s (Wk.s (Wk.s (Wk.s Wk.nil)))))))) (js_raise takF rfl T.g_NoLine T.x_NoLine)) fun s37 =>
  (js_nilP (Wk.s (Wk.s (Wk.s (Wk.s (Wk.s (Wk.s Wk.nil))))))))) fun s27 =>
  (js_cons (j1_aug 1 iop_add ro_add je_int nd_take_looks) fun a44 =>
  (js_if1 pi_tl (jt_cmp op_ne ro_neT (je_call2 (ok_piece_at T) (hr.mono (by decide)) pasF (je_var 0 rfl) (je_var 1 rfl)) je_str) (js_frz 2 (js_retL (je_pair (je_var 2 rfl) (je_var 1 rfl))) hown)
  (js_cons (j1_aug 1 iop_add ro_add je_int nd_take_looks) fun a54 =>
  (js_nilL (Wk.s (Wk.s (Wk.s (Wk.n (Wk.n (Wk.n Wk.nil)))))))))))))))) (fun s2 =>
  js_stuck) pasO))

abbrev N_take_pairs : List Str := ["found", "at", "pairs", "left", "right"]
theorem nd_take_pairs : N_take_pairs.Nodup := by decide +kernel
theorem ok_take_pairs {P : Program} {w : World} {K : Fg} {mg : Str → Option Value} {base : Heap} (T : Fx K mg) : OkF P w K mg base "take_pairs" 2 (sp2 K m_take_pairs) :=
  mkF2 (N := N_take_pairs) T.f_take_pairs T.g_take_pairs ⟨rfl, rfl, rfl, nd_take_pairs, rfl, by decide +kernel, by decide +kernel⟩ (fun _ _ _ _ _ _ us hl => match us, hl with | [_, _], _ => rfl) fun cdv A outer s H E hr p0 p1 b hown => by
    unfold m_take_pairs
    exact (js_cons (j1_setF 2 (jf_lst jl_nil) nd_take_pairs) fun a1 =>
  (js_whR (Lf := fun (s2 : (Int × (List (Tx × Tx)))) => [.im (rp K p0), .im (rp K s2.1), .mu (ctL K s2.2), .no, .no]) FUEL (wr := id) (fun _ _ h => h) (Wk.s (Wk.s (Wk.s (Wk.s (Wk.s Wk.nil))))) (fun s2 => (jt_val je_bl)) (fun s2 => (js_cons (j1_set 3 (je_call2 (ok_piece_at T) (hr.mono (by decide)) pasF (je_var 0 rfl) (je_var 1 rfl)) nd_take_pairs) fun a5 =>
  (js_cons (j1_set 4 (je_call2 (ok_piece_at T) (hr.mono (by decide)) pasF (je_var 0 rfl) (je_bin op_add ro_add (je_var 1 rfl) je_int)) nd_take_pairs) fun a8 =>
  (js_if1 pi_tl (jw_jt (jw_or (jt_not (jt_val (je_call1 (ok_is_name T) (hr.mono (by decide)) pasF (je_var 3 rfl)))) (jw_or (jt_cmp op_ne ro_neT (je_call2 (ok_piece_at T) (hr.mono (by decide)) pasF (je_var 0 rfl) (je_bin op_add ro_add (je_var 1 rfl) je_int)) je_str) (jw_or1 (jt_not (jt_val (je_call1 (ok_is_name T) (hr.mono (by decide)) pasF (je_var 4 rfl)))))))) (js_raise takF rfl T.g_NoLine T.x_NoLine)
  (js_cons (j1_append 2 (je_pair (je_var 3 rfl) (je_var 4 rfl))) fun a26 =>
  (js_cons (j1_aug 1 iop_add ro_add je_int nd_take_pairs) fun a31 =>
  (js_if1 pi_tl (jt_cmp op_ne ro_neT (je_call2 (ok_piece_at T) (hr.mono (by decide)) pasF (je_var 0 rfl) (je_var 1 rfl)) je_str) (js_frz 2 (js_retL (je_pair (je_var 2 rfl) (je_var 1 rfl))) hown)
  (js_cons (j1_aug 1 iop_add ro_add je_int nd_take_pairs) fun a41 =>
  (js_nilL (Wk.s (Wk.s (Wk.s (Wk.n (Wk.n Wk.nil)))))))))))))) (fun s2 =>
  js_stuck) pasO))

abbrev N_take_part : List Str := ["word", "found", "at"]
theorem nd_take_part : N_take_part.Nodup := by decide +kernel
theorem ok_take_part {P : Program} {w : World} {K : Fg} {mg : Str → Option Value} {base : Heap} (T : Fx K mg) : OkF P w K mg base "take_part" 5 (sp3 K m_take_part) :=
  mkF3 (N := N_take_part) T.f_take_part T.g_take_part ⟨rfl, rfl, rfl, nd_take_part, rfl, by decide +kernel, by decide +kernel⟩ (fun _ _ _ _ _ _ us hl => match us, hl with | [_, _, _], _ => rfl) fun cdv A outer s H E hr p0 p1 p2 b hown => by
    unfold m_take_part
    exact (js_if1 pi_rt (jt_cmp op_eq ro_eqT (je_var 0 rfl) je_str) (js_ret (je_co (g := fun (x : ((List C_Look) × Int)) => ((Sum.inr (Sum.inl x.1), x.2) : (((List (Tx × (Tup Tx))) ⊕ ((List C_Look) ⊕ (List (Tx × Tx)))) × Int))) (co_fst (co_comp co_inl co_inr)) (je_call2 (ok_take_looks T) (hr.mono (by decide)) pasF (je_var 1 rfl) (je_var 2 rfl))))
  (js_if1 pi_rt (jt_cmp op_eq ro_eqT (je_var 0 rfl) je_str) (js_ret (je_co (g := fun (x : ((List (Tx × Tx)) × Int)) => ((Sum.inr (Sum.inr x.1), x.2) : (((List (Tx × (Tup Tx))) ⊕ ((List C_Look) ⊕ (List (Tx × Tx)))) × Int))) (co_fst (co_comp co_inr co_inr)) (je_call2 (ok_take_pairs T) (hr.mono (by decide)) pasF (je_var 1 rfl) (je_var 2 rfl))))
  (js_ret (je_co (g := fun (x : ((List (Tx × (Tup Tx))) × Int)) => ((Sum.inl x.1, x.2) : (((List (Tx × (Tup Tx))) ⊕ ((List C_Look) ⊕ (List (Tx × Tx)))) × Int))) (co_fst co_inl) (je_call2 (ok_take_facts T) (hr.mono (by decide)) pasF (je_var 1 rfl) (je_var 2 rfl))))))

abbrev N_read_rule : List Str := ["found", "parts", "first", "at", "word", "taken"]
theorem nd_read_rule : N_read_rule.Nodup := by decide +kernel
theorem ok_read_rule {P : Program} {w : World} {K : Fg} {mg : Str → Option Value} {base : Heap} (T : Fx K mg) : OkF P w K mg base "read_rule" 6 (sp1 K m_read_rule) :=
  mkF1 (N := N_read_rule) T.f_read_rule T.g_read_rule ⟨rfl, rfl, rfl, nd_read_rule, rfl, by decide +kernel, by decide +kernel⟩ (fun _ _ _ _ _ _ us hl => match us, hl with | [_], _ => rfl) fun cdv A outer s H E hr p0 b hown => by
    unfold m_read_rule
    exact (js_if1 pi_rt (jw_jt (jw_or (jt_not (jt_val (je_call1 (ok_is_kind T) (hr.mono (by decide)) pasF (je_call2 (ok_piece_at T) (hr.mono (by decide)) pasF (je_var 0 rfl) je_int)))) (jw_or1 (jt_cmp op_ne ro_neT (je_call2 (ok_piece_at T) (hr.mono (by decide)) pasF (je_var 0 rfl) je_int) je_str)))) (js_raise takF rfl T.g_NoLine T.x_NoLine)
  (js_cons (j1_setF 1 jf_dnew nd_read_rule) fun a11 =>
  (js_cons (j1_set 2 je_int nd_read_rule) fun a12 =>
  (js_cons (j1_set 3 je_int nd_read_rule) fun a13 =>
  (js_cons (j1_whB (Lf := fun (s14 : ((Dic ((List (Tx × (Tup Tx))) ⊕ ((List C_Look) ⊕ (List (Tx × Tx))))) × Int × Int)) => [.im (rp K p0), .mu (ctD K s14.1), .im (rp K s14.2.1), .im (rp K s14.2.2), .no, .no]) FUEL (Wk.s (Wk.s (Wk.s (Wk.s (Wk.s (Wk.s Wk.nil)))))) (fun s14 => (jt_val je_bl)) (fun s14 => (js_cons (j1_set 4 (je_call2 (ok_piece_at T) (hr.mono (by decide)) pasF (je_var 0 rfl) (je_var 3 rfl)) nd_read_rule) fun a17 =>
  (js_if1 pi_tl (jt_cmp op_notIn_seq ro_notInU (je_var 4 rfl) (je_slU (je_gtup (ys := ["take", "keep", "look", "put", "tell"]) T.g_PARTS T.u_PARTS) (jo_at (je_var 2 rfl)) jo_no)) (js_raise takF rfl T.g_NoLine T.x_NoLine)
  (js_cons (j1_set 2 (je_bin op_add ro_add (je_tix (ys := ["take", "keep", "look", "put", "tell"]) T.g_PARTS T.u_PARTS T.v_PARTS (je_var 4 rfl)) je_int) nd_read_rule) fun a27 =>
  (js_cons (j1_set 5 (je_call3 (ok_take_part T) (hr.mono (by decide)) pasF (je_var 4 rfl) (je_var 0 rfl) (je_bin op_add ro_add (je_var 3 rfl) je_int)) nd_read_rule) fun a32 =>
  (js_cons (j1_dput 1 hr.units (je_p0 (je_var 5 rfl)) (je_var 4 rfl)) fun a38 =>
  (js_cons (j1_set 3 (je_p1 (je_var 5 rfl)) nd_read_rule) fun a44 =>
  (js_if1 pi_tl (jt_cmp op_eq ro_eqI (je_var 3 rfl) (je_callB call_len_seq ra_lenL T.n_len bt_len (je_var 0 rfl))) (js_brk (Wk.s (Wk.s (Wk.s (Wk.s (Wk.n (Wk.n Wk.nil)))))))
  (js_if1 pi_tl (jt_cmp op_ne ro_neT (je_ix ix_list ro_ixL (je_var 0 rfl) (je_var 3 rfl)) je_str) (js_raise takF rfl T.g_NoLine T.x_NoLine)
  (js_cons (j1_aug 3 iop_add ro_add je_int nd_read_rule) fun a56 =>
  (js_nilL (Wk.s (Wk.s (Wk.s (Wk.s (Wk.n (Wk.n Wk.nil))))))))))))))))) pasO) fun s14 =>
  (js_if1 pi_rt (jw_jt (jw_and (jt_dnotin hr.units je_str (jd_held 1)) (jw_and1 (jt_dnotin hr.units je_str (jd_held 1))))) (js_raise takF rfl T.g_NoLine T.x_NoLine)
  (js_frzD 1 (js_ret (je_pair (je_ix ix_list ro_ixL (je_var 0 rfl) je_int) (je_var 1 rfl))) hown)))))))

abbrev N_left_out : List Str := ["line", "bare"]
theorem nd_left_out : N_left_out.Nodup := by decide +kernel
theorem ok_left_out {P : Program} {w : World} {K : Fg} {mg : Str → Option Value} {base : Heap} (T : Fx K mg) : OkF P w K mg base "left_out" 1 (sp1 K m_left_out) :=
  mkF1 (N := N_left_out) T.f_left_out T.g_left_out ⟨rfl, rfl, rfl, nd_left_out, rfl, by decide +kernel, by decide +kernel⟩ (fun _ _ _ _ _ _ us hl => match us, hl with | [_], _ => rfl) fun cdv A outer s H E hr p0 b hown => by
    unfold m_left_out
    exact (js_cons (j1_set 1 (je_m1 PySem.F.slot_str_lstrip PySem.F.type_str_lstrip mt_lstripChars rm_lstrip (je_var 0 rfl) je_str) nd_left_out) fun a1 =>
  (js_ret (je_or (je_cmp op_eq ro_eqT (je_var 1 rfl) je_str) (je_one (je_m1 PySem.F.slot_str_startswith PySem.F.type_str_startswith mt_startswith rm_startswith (je_var 1 rfl) je_str)))))

abbrev N_read_line : List Str := ["line", "found"]
theorem nd_read_line : N_read_line.Nodup := by decide +kernel
theorem ok_read_line {P : Program} {w : World} {K : Fg} {mg : Str → Option Value} {base : Heap} (T : Fx K mg) : OkF P w K mg base "read_line" 7 (sp1 K m_read_line) :=
  mkF1 (N := N_read_line) T.f_read_line T.g_read_line ⟨rfl, rfl, rfl, nd_read_line, rfl, by decide +kernel, by decide +kernel⟩ (fun _ _ _ _ _ _ us hl => match us, hl with | [_], _ => rfl) fun cdv A outer s H E hr p0 b hown => by
    unfold m_read_line
    exact (js_cons (j1_set 1 (je_call1 (ok_pieces T) (hr.mono (by decide)) pasF (je_var 0 rfl)) nd_read_line) fun a1 =>
  (js_if1 pi_rt (jw_jt (jw_or (jt_cmp op_eq ro_eqT (je_ix ix_list ro_ixL (je_var 1 rfl) je_int) je_str) (jw_or1 (jt_cmp op_eq ro_eqT (je_ix ix_list ro_ixL (je_var 1 rfl) je_int) je_str)))) (js_ret (je_pair je_str (je_inl (je_call1 (ok_read_kind T) (hr.mono (by decide)) pasF (je_var 1 rfl)))))
  (js_if1 pi_rt (jt_cmp op_eq ro_eqT (je_ix ix_list ro_ixL (je_var 1 rfl) je_int) je_str) (js_ret (je_pair je_str (je_inr (je_call1 (ok_read_rule T) (hr.mono (by decide)) pasF (je_var 1 rfl)))))
  (js_raise takF rfl T.g_NoLine T.x_NoLine))))

abbrev N_open_names : List Str := ["facts", "names", "fact", "name"]
theorem nd_open_names : N_open_names.Nodup := by decide +kernel
theorem ok_open_names {P : Program} {w : World} {K : Fg} {mg : Str → Option Value} {base : Heap} (T : Fx K mg) : OkF P w K mg base "open_names" 3 (sp1 K m_open_names) :=
  mkF1 (N := N_open_names) T.f_open_names T.g_open_names ⟨rfl, rfl, rfl, nd_open_names, rfl, by decide +kernel, by decide +kernel⟩ (fun _ _ _ _ _ _ us hl => match us, hl with | [_], _ => rfl) fun cdv A outer s H E hr p0 b hown => by
    unfold m_open_names
    exact (js_cons (j1_setF 1 (jf_lst jl_nil) nd_open_names) fun a1 =>
  (js_cons (j1_forP (Lf := fun (s2 : (List Tx)) => [.im (rp K p0), .mu (ctL K s2), .no, .no]) (ji_list (je_var 0 rfl)) (jg_name 2 (fun _ => nd_open_names)) (Wk.s (Wk.s (Wk.s (Wk.s Wk.nil)))) (fun F7 s2 e3 => (js_cons (j1_forP (Lf := fun (s10 : (List Tx)) => [.im (rp K p0), .mu (ctL K s10), .im (rp K e3), .no]) (ji_tup (je_p1 (je_var 2 rfl))) (jg_name 3 (fun _ => nd_open_names)) (Wk.s (Wk.s (Wk.s (Wk.s Wk.nil)))) (fun F15 s10 e11 => (js_cons (j1_if (Lf := fun (s21 : (List Tx)) => [.im (rp K p0), .mu (ctL K s21), .im (rp K e3), .im (rp K e11)]) (jt_thaw 1 (jw_jt (jw_and (jt_val (je_call1 (ok_is_open T) (hr.mono (by decide)) pasF (je_var 3 rfl))) (jw_and1 (jt_cmp op_notIn_seq ro_notInL (je_var 3 rfl) (je_var 1 rfl))))) hown) (js_cons (j1_append 1 (je_var 3 rfl)) fun a22 =>
  (js_nilP (Wk.s (Wk.s (Wk.s (Wk.s Wk.nil)))))) (js_nilP (Wk.s (Wk.s (Wk.s (Wk.s Wk.nil)))))) fun s21 =>
  (js_nilP (Wk.s (Wk.s (Wk.s (Wk.n Wk.nil))))))) pasO) fun s10 =>
  (js_nilP (Wk.s (Wk.s (Wk.n (Wk.s Wk.nil))))))) pasO) fun s2 =>
  (js_frz 1 (js_ret (je_var 1 rfl)) hown)))

abbrev N_Rule___init__ : List Str := ["self", "title", "parts"]
theorem nd_Rule___init__ : N_Rule___init__.Nodup := by decide +kernel
theorem ok_Rule___init__ {P : Program} {w : World} {K : Fg} {mg : Str → Option Value} {base : Heap} (T : Fx K mg) {fa : Addr} {fd : FuncData} (F : FunD K "__init__" "Rule.__init__" (defArgs (inClass (top 45) 0)) (defBody (inClass (top 45) 0)) (defScope (inClass (top 45) 0)) [] [] fa fd) : FnOk P w K mg base (L2.CX P w) 4 fa fd ["self", "title", "parts"] (spI2 K cs_Rule fs_Rule m_Rule___init__) :=
  mkI2 (N := N_Rule___init__) F ⟨rfl, rfl, rfl, nd_Rule___init__, rfl, by decide +kernel, by decide +kernel⟩ fun cdv A outer s H E hr nm p hnm p0 p1 => by
    unfold m_Rule___init__
    exact (jn_fld [] T.k_Rule hnm (fun b hb => (je_var 1 rfl)) (fun a1 =>
  (jn_fld ["title"] T.k_Rule hnm (fun b hb => (je_callTy call_list_of ra_lstL T.n_list bt_list (je_lf1 (je_dget2 hr.units (jd_val (je_var 2 rfl)) je_str (je_inl (je_lst jl_nil)))))) (fun a8 =>
  (jn_fld ["title", "taken"] T.k_Rule hnm (fun b hb => (je_callTy call_list_of ra_lstL T.n_list bt_list (je_lf1 (je_dget2 hr.units (jd_val (je_var 2 rfl)) je_str (je_inl (je_lst jl_nil)))))) (fun a15 =>
  (jn_fld ["title", "taken", "kept"] T.k_Rule hnm (fun b hb => (je_callTy call_list_of ra_lstL T.n_list bt_list (je_lf2 (je_dget2 hr.units (jd_val (je_var 2 rfl)) je_str (je_inl (je_lst jl_nil)))))) (fun a22 =>
  (jn_fld ["title", "taken", "kept", "looks"] T.k_Rule hnm (fun b hb => (je_callTy call_list_of ra_lstL T.n_list bt_list (je_lf1 (je_dget2 hr.units (jd_val (je_var 2 rfl)) je_str (je_inl (je_lst jl_nil)))))) (fun a29 =>
  (jn_fld ["title", "taken", "kept", "looks", "given"] T.k_Rule hnm (fun b hb => (je_callTy call_list_of ra_lstL T.n_list bt_list (je_lf3 (je_dget2 hr.units (jd_val (je_var 2 rfl)) je_str (je_inl (je_lst jl_nil)))))) (fun a36 =>
  (jn_fld ["title", "taken", "kept", "looks", "given", "told"] T.k_Rule hnm (fun b hb => (je_call1 (ok_open_names T) (hr.mono (by decide)) pasF (je_bin op_catQ ro_catL (je_self ["title", "taken", "kept", "looks", "given", "told"] 1 T.k_Rule hnm hb) (je_self ["title", "taken", "kept", "looks", "given", "told"] 2 T.k_Rule hnm hb)))) (fun a40 =>
  jn_nil) (noMu_im (noMu_im (noMu_im noMu_nil))))) (noMu_im (noMu_im (noMu_im noMu_nil))))) (noMu_im (noMu_im (noMu_im noMu_nil))))) (noMu_im (noMu_im (noMu_im noMu_nil))))) (noMu_im (noMu_im (noMu_im noMu_nil))))) (noMu_im (noMu_im (noMu_im noMu_nil))))) (noMu_im (noMu_im (noMu_im noMu_nil))))

abbrev N_Rule_calls : List Str := ["self"]
theorem nd_Rule_calls : N_Rule_calls.Nodup := by decide +kernel
theorem ok_Rule_calls {P : Program} {w : World} {K : Fg} {mg : Str → Option Value} {base : Heap} (T : Fx K mg) {fa : Addr} {fd : FuncData} (F : FunD K "calls" "Rule.calls" (defArgs (inClass (top 45) 1)) (defBody (inClass (top 45) 1)) (defScope (inClass (top 45) 1)) [] [] fa fd) : FnOk P w K mg base (L2.CX P w) 1 fa fd ["self"] (sp1 K m_Rule_calls) :=
  mkM1 (N := N_Rule_calls) F ⟨rfl, rfl, rfl, nd_Rule_calls, rfl, by decide +kernel, by decide +kernel⟩ fun cdv A outer s H E hr p0 b hown => by
    unfold m_Rule_calls
    exact (js_ret (je_cmp op_eq ro_eqI (je_callB call_len_seq ra_lenL T.n_len bt_len (je_fld 1 (g := fun (a : F_Rule) => a.2.1) T.k_Rule (je_var 0 rfl))) je_int))

theorem om_Rule_calls {P : Program} {w : World} {K : Fg} {mg : Str → Option Value} {base : Heap} (T : Fx K mg) : OkM P w K mg base (He.ga K "Rule") "calls" 1 (sp1 K m_Rule_calls) := by
  obtain ⟨fd, F⟩ := T.q_Rule_calls
  exact ⟨_, fd, _, T.t_Rule_calls, ok_Rule_calls T F, F.bindsN fun _ _ _ _ _ _ us hl => match us, hl with | [_], _ => rfl⟩
theorem dd_Rule_calls {P : Program} {w : World} {K : Fg} {mg : Str → Option Value} {base : Heap} (T : Fx K mg) : ∀ (j : Nat) (nm : Str), cs_Rule[j]? = some nm → ∃ g : C_Rule → M Bool, OkM P w K mg base (He.ga K nm) "calls" 1 (sp1 K g) ∧ ∀ x : C_Rule, x.c = j → d_Rule_calls x  = g x  := fun j nm h => match j, h with
  | 0, h => by cases h; exact ⟨m_Rule_calls, (om_Rule_calls T).mono (by decide), fun x e  => by simp only [d_Rule_calls, e]⟩
  | n + 1, h => by cases h
theorem on_Rule {P : Program} {w : World} {K : Fg} {mg : Str → Option Value} {base : Heap} (T : Fx K mg) : OkN P w K mg base "Rule" 4 (spI2 K cs_Rule fs_Rule m_Rule___init__) := by
  obtain ⟨fd, F⟩ := T.q_Rule___init__
  exact ⟨T.g_Rule, _, fd, _, T.n_Rule, ok_Rule___init__ T F, F.bindsN fun _ _ _ _ _ _ us hl => match us, hl with | [_, _, _], _ => rfl⟩

abbrev N_Book___init__ : List Str := ["self", "kinds", "rules"]
theorem nd_Book___init__ : N_Book___init__.Nodup := by decide +kernel
theorem ok_Book___init__ {P : Program} {w : World} {K : Fg} {mg : Str → Option Value} {base : Heap} (T : Fx K mg) {fa : Addr} {fd : FuncData} (F : FunD K "__init__" "Book.__init__" (defArgs (inClass (top 46) 0)) (defBody (inClass (top 46) 0)) (defScope (inClass (top 46) 0)) [] [] fa fd) : FnOk P w K mg base (L2.CX P w) 1 fa fd ["self", "kinds", "rules"] (spI2 K cs_Book fs_Book m_Book___init__) :=
  mkI2 (N := N_Book___init__) F ⟨rfl, rfl, rfl, nd_Book___init__, rfl, by decide +kernel, by decide +kernel⟩ fun cdv A outer s H E hr nm p hnm p0 p1 => by
    unfold m_Book___init__
    exact (jn_fld [] T.k_Book hnm (fun b hb => (je_callTy call_list_of ra_lstL T.n_list bt_list (je_var 1 rfl))) (fun a2 =>
  (jn_fld ["kinds"] T.k_Book hnm (fun b hb => (je_callTy call_list_of ra_lstL T.n_list bt_list (je_var 2 rfl))) (fun a4 =>
  jn_nil) (noMu_im (noMu_im (noMu_im noMu_nil))))) (noMu_im (noMu_im (noMu_im noMu_nil))))

theorem on_Book {P : Program} {w : World} {K : Fg} {mg : Str → Option Value} {base : Heap} (T : Fx K mg) : OkN P w K mg base "Book" 1 (spI2 K cs_Book fs_Book m_Book___init__) := by
  obtain ⟨fd, F⟩ := T.q_Book___init__
  exact ⟨T.g_Book, _, fd, _, T.n_Book, ok_Book___init__ T F, F.bindsN fun _ _ _ _ _ _ us hl => match us, hl with | [_, _, _], _ => rfl⟩

abbrev N_keep_line : List Str := ["kinds", "rows", "line", "found", "rest", "one"]
theorem nd_keep_line : N_keep_line.Nodup := by decide +kernel
theorem ok_keep_line {P : Program} {w : World} {K : Fg} {mg : Str → Option Value} {base : Heap} (T : Fx K mg) : OkF P w K mg base "keep_line" 8 (spK3 K m_keep_line) :=
  mkFK3 (N := N_keep_line) T.f_keep_line T.g_keep_line ⟨rfl, rfl, rfl, nd_keep_line, rfl, by decide +kernel, by decide +kernel⟩ (fun _ _ _ _ _ _ us hl => match us, hl with | [_, _, _], _ => rfl) fun cdv A outer s H E hr ap aq p0 p1 p2 => by
    unfold m_keep_line
    exact (jk_st (fun b hb => have hown := hb.own; (j1_set 3 (je_call1 (ok_read_line T) (hr.mono (by decide)) pasF (je_var 2 rfl)) nd_keep_line)) (fun a1 =>
  (jk_if2 (fun b hb => have hown := hb.own; (jt_cmp op_eq ro_eqT (je_p0 (je_var 3 rfl)) je_str)) (fun b hb => j1_alias 4 0 nd_keep_line) (fun b hb => j1_alias 4 1 nd_keep_line) (fun _ => (jk_ifR (fun b hb => jt_thawP 4 hb (noMu_im (noMu_im (noMu_im (noMu_im (noMu_im (noMu_no noMu_nil)))))) (fun b hown => (jt_cmp op_in_seq ro_inL (je_t0 (je_getL (je_p1 (je_var 3 rfl)))) (je_jf (jf_lc (own := [("one", 5)]) (ji_list (je_var 4 rfl)) (jg_name 5 (fun _ => nd_keep_line)) (fun _ e13 => (je_t0 (je_var 5 rfl))) nd_keep_line (blkOk_by (N := N_keep_line) (sc := defScope (top 47)) (by decide +kernel))))))) (fun b hb => js_raise takF rfl T.g_Twice T.x_Twice) (fun _ h => nomatch h) (jk_appP 4 (fun b hb => have hown := hb.own; (je_getL (je_p1 (je_var 3 rfl))))) (noMu_im (noMu_im (noMu_im (noMu_im (noMu_im (noMu_no noMu_nil)))))))) (fun _ => (jk_ifR (fun b hb => jt_thawQ 4 hb (noMu_im (noMu_im (noMu_im (noMu_im (noMu_im (noMu_no noMu_nil)))))) (fun b hown => (jt_cmp op_in_seq ro_inL (je_p0 (je_getR (je_p1 (je_var 3 rfl)))) (je_jf (jf_lc (own := [("one", 5)]) (ji_list (je_var 4 rfl)) (jg_name 5 (fun _ => nd_keep_line)) (fun _ e31 => (je_p0 (je_var 5 rfl))) nd_keep_line (blkOk_by (N := N_keep_line) (sc := defScope (top 47)) (by decide +kernel))))))) (fun b hb => js_raise takF rfl T.g_Twice T.x_Twice) (fun _ h => nomatch h) (jk_appQ 4 (fun b hb => have hown := hb.own; (je_getR (je_p1 (je_var 3 rfl))))) (noMu_im (noMu_im (noMu_im (noMu_im (noMu_im (noMu_no noMu_nil)))))))) (fun _ => (noMu_im (noMu_im (noMu_im (noMu_im (noMu_im (noMu_no noMu_nil))))))) (fun _ => (noMu_im (noMu_im (noMu_im (noMu_im (noMu_im (noMu_no noMu_nil))))))))) (fun _ => (noMu_im (noMu_im (noMu_im (noMu_im (noMu_no (noMu_no noMu_nil))))))))

abbrev N_look_at_rule : List Str := ["kinds", "rule", "lasting", "said", "look", "fact", "pair", "name"]
theorem nd_look_at_rule : N_look_at_rule.Nodup := by decide +kernel
theorem ok_look_at_rule {P : Program} {w : World} {K : Fg} {mg : Str → Option Value} {base : Heap} (T : Fx K mg) : OkF P w K mg base "look_at_rule" 3 (sp2 K m_look_at_rule) :=
  mkF2 (N := N_look_at_rule) T.f_look_at_rule T.g_look_at_rule ⟨rfl, rfl, rfl, nd_look_at_rule, rfl, by decide +kernel, by decide +kernel⟩ (fun _ _ _ _ _ _ us hl => match us, hl with | [_, _], _ => rfl) fun cdv A outer s H E hr p0 p1 b hown => by
    unfold m_look_at_rule
    exact (js_cons (j1_drop (je_call2 (ok_look_at_facts T) (hr.mono (by decide)) pasF (je_var 0 rfl) (je_bin op_catQ ro_catL (je_bin op_catQ ro_catL (je_fld 1 (g := fun (a : F_Rule) => a.2.1) T.k_Rule (je_var 1 rfl)) (je_fld 2 (g := fun (a : F_Rule) => a.2.2.1) T.k_Rule (je_var 1 rfl))) (je_fld 4 (g := fun (a : F_Rule) => a.2.2.2.2.1) T.k_Rule (je_var 1 rfl))))) fun a1 =>
  (js_cons (j1_set 2 (je_call1 (ok_kind_lasts T) (hr.mono (by decide)) pasF (je_var 0 rfl)) nd_look_at_rule) fun a12 =>
  (js_cons (j1_drop (je_call2 (ok_look_at_taken T) (hr.mono (by decide)) pasF (je_var 2 rfl) (je_fld 1 (g := fun (a : F_Rule) => a.2.1) T.k_Rule (je_var 1 rfl)))) fun a14 =>
  (js_cons (j1_if (Lf := fun (s21 : Unit) => [.im (rp K p0), .im (rp K p1), .im (rp K a12), .no, .no, .no, .no, .no]) (jt_val (je_meth0 (m := "calls") T.k_Rule rfl (dd_Rule_calls T) (hr.mono (by decide)) pasF (je_var 1 rfl) )) (js_cons (j1_forP (Lf := fun (s23 : Unit) => [.im (rp K p0), .im (rp K p1), .im (rp K a12), .no, .no, .no, .no, .no]) (ji_list (je_fld 4 (g := fun (a : F_Rule) => a.2.2.2.2.1) T.k_Rule (je_var 1 rfl))) (jg_name 5 (fun _ => nd_look_at_rule)) (Wk.s (Wk.s (Wk.s (Wk.s (Wk.s (Wk.s (Wk.s (Wk.s Wk.nil)))))))) (fun F28 s23 e24 => (js_cons (j1_if (Lf := fun (s35 : Unit) => [.im (rp K p0), .im (rp K p1), .im (rp K a12), .no, .no, .im (rp K e24), .no, .no]) (jt_not (jt_val (je_dget hr.units (jd_val (je_var 2 rfl)) (je_p0 (je_var 5 rfl))))) (js_raise takF rfl T.g_BadCall T.x_BadCall) (js_nilP (Wk.s (Wk.s (Wk.s (Wk.s (Wk.s (Wk.s (Wk.s (Wk.s Wk.nil)))))))))) fun s35 =>
  (js_nilP (Wk.s (Wk.s (Wk.s (Wk.s (Wk.s (Wk.n (Wk.s (Wk.s Wk.nil))))))))))) pasO) fun s23 =>
  (js_nilP (Wk.s (Wk.s (Wk.s (Wk.s (Wk.s (Wk.s (Wk.s (Wk.s Wk.nil)))))))))) (js_nilP (Wk.s (Wk.s (Wk.s (Wk.s (Wk.s (Wk.s (Wk.s (Wk.s Wk.nil)))))))))) fun s21 =>
  (js_cons (j1_setF 3 (jf_lst jl_nil) nd_look_at_rule) fun a36 =>
  (js_cons (j1_forP (Lf := fun (s38 : (List Tx)) => [.im (rp K p0), .im (rp K p1), .im (rp K a12), .mu (ctL K s38), .no, .no, .no, .no]) (ji_list (je_fld 3 (g := fun (a : F_Rule) => a.2.2.2.1) T.k_Rule (je_var 1 rfl))) (jg_name 4 (fun _ => nd_look_at_rule)) (Wk.s (Wk.s (Wk.s (Wk.s (Wk.s (Wk.s (Wk.s (Wk.s Wk.nil)))))))) (fun F43 s38 e39 => (js_cons (j1_ext 3 (jf_lst (jl_cons (je_fld 0 (g := fun (a : F_Look) => a.1) T.k_Look (je_var 4 rfl)) (jl_cons (je_fld 1 (g := fun (a : F_Look) => a.2.1) T.k_Look (je_var 4 rfl)) jl_nil))) nd_look_at_rule) fun a44 =>
  (js_nilP (Wk.s (Wk.s (Wk.s (Wk.s (Wk.n (Wk.s (Wk.s (Wk.s Wk.nil))))))))))) pasO) fun s38 =>
  (js_cons (j1_forP (Lf := fun (s53 : (List Tx)) => [.im (rp K p0), .im (rp K p1), .im (rp K a12), .mu (ctL K s53), .no, .no, .no, .no]) (ji_list (je_fld 4 (g := fun (a : F_Rule) => a.2.2.2.2.1) T.k_Rule (je_var 1 rfl))) (jg_name 5 (fun _ => nd_look_at_rule)) (Wk.s (Wk.s (Wk.s (Wk.s (Wk.s (Wk.s (Wk.s (Wk.s Wk.nil)))))))) (fun F58 s53 e54 => (js_cons (j1_ext 3 (jf_listU T.n_list (je_p1 (je_var 5 rfl))) nd_look_at_rule) fun a59 =>
  (js_nilP (Wk.s (Wk.s (Wk.s (Wk.s (Wk.s (Wk.n (Wk.s (Wk.s Wk.nil))))))))))) pasO) fun s53 =>
  (js_cons (j1_forP (Lf := fun (s65 : (List Tx)) => [.im (rp K p0), .im (rp K p1), .im (rp K a12), .mu (ctL K s65), .no, .no, .no, .no]) (ji_list (je_fld 5 (g := fun (a : F_Rule) => a.2.2.2.2.2.1) T.k_Rule (je_var 1 rfl))) (jg_name 6 (fun _ => nd_look_at_rule)) (Wk.s (Wk.s (Wk.s (Wk.s (Wk.s (Wk.s (Wk.s (Wk.s Wk.nil)))))))) (fun F70 s65 e66 => (js_cons (j1_ext 3 (jf_listP T.n_list (je_var 6 rfl)) nd_look_at_rule) fun a71 =>
  (js_nilP (Wk.s (Wk.s (Wk.s (Wk.s (Wk.s (Wk.s (Wk.n (Wk.s Wk.nil))))))))))) pasO) fun s65 =>
  (js_frz 3 (js_cons (j1_forP (Lf := fun (s74 : Unit) => [.im (rp K p0), .im (rp K p1), .im (rp K a12), .im (rp K s65), .no, .no, .no, .no]) (ji_list (je_var 3 rfl)) (jg_name 7 (fun _ => nd_look_at_rule)) (Wk.s (Wk.s (Wk.s (Wk.s (Wk.s (Wk.s (Wk.s (Wk.s Wk.nil)))))))) (fun F79 s74 e75 => (js_cons (j1_if (Lf := fun (s86 : Unit) => [.im (rp K p0), .im (rp K p1), .im (rp K a12), .im (rp K s65), .no, .no, .no, .im (rp K e75)]) (jw_jt (jw_and (jt_val (je_call1 (ok_is_open T) (hr.mono (by decide)) pasF (je_var 7 rfl))) (jw_and1 (jt_cmp op_notIn_seq ro_notInL (je_var 7 rfl) (je_fld 6 (g := fun (a : F_Rule) => a.2.2.2.2.2.2.1) T.k_Rule (je_var 1 rfl)))))) (js_raise takF rfl T.g_NoName T.x_NoName) (js_nilP (Wk.s (Wk.s (Wk.s (Wk.s (Wk.s (Wk.s (Wk.s (Wk.s Wk.nil)))))))))) fun s86 =>
  (js_nilP (Wk.s (Wk.s (Wk.s (Wk.s (Wk.s (Wk.s (Wk.s (Wk.n Wk.nil))))))))))) pasO) fun s74 =>
  js_nilF) hown)))))))))

abbrev N_made_book : List Str := ["kinds", "rows", "rules", "row", "rule"]
theorem nd_made_book : N_made_book.Nodup := by decide +kernel
theorem ok_made_book {P : Program} {w : World} {K : Fg} {mg : Str → Option Value} {base : Heap} (T : Fx K mg) : OkF P w K mg base "made_book" 6 (sp2 K m_made_book) :=
  mkF2 (N := N_made_book) T.f_made_book T.g_made_book ⟨rfl, rfl, rfl, nd_made_book, rfl, by decide +kernel, by decide +kernel⟩ (fun _ _ _ _ _ _ us hl => match us, hl with | [_, _], _ => rfl) fun cdv A outer s H E hr p0 p1 b hown => by
    unfold m_made_book
    exact (js_cons (j1_setF 2 (jf_lst jl_nil) nd_made_book) fun a1 =>
  (js_cons (j1_forP (Lf := fun (s2 : (List C_Rule)) => [.im (rp K p0), .im (rp K p1), .mu (ctL K s2), .no, .no]) (ji_list (je_var 1 rfl)) (jg_name 3 (fun _ => nd_made_book)) (Wk.s (Wk.s (Wk.s (Wk.s (Wk.s Wk.nil))))) (fun F7 s2 e3 => (js_cons (j1_set 4 (je_new2 0 rfl (on_Rule T) (hr.mono (by decide)) pasF (je_p0 (je_var 3 rfl)) (je_p1 (je_var 3 rfl))) nd_made_book) fun a8 =>
  (js_cons (j1_drop (je_call2 (ok_look_at_rule T) (hr.mono (by decide)) pasF (je_var 0 rfl) (je_var 4 rfl))) fun a16 =>
  (js_cons (j1_append 2 (je_var 4 rfl)) fun a20 =>
  (js_nilP (Wk.s (Wk.s (Wk.s (Wk.n (Wk.n Wk.nil)))))))))) pasO) fun s2 =>
  (js_frz 2 (js_ret (je_new2 0 rfl (on_Book T) (hr.mono (by decide)) pasF (je_var 0 rfl) (je_var 2 rfl))) hown)))

abbrev N_read_book : List Str := ["text", "kinds", "rows", "line"]
theorem nd_read_book : N_read_book.Nodup := by decide +kernel
theorem ok_read_book {P : Program} {w : World} {K : Fg} {mg : Str → Option Value} {base : Heap} (T : Fx K mg) : OkF P w K mg base "read_book" 9 (sp1 K m_read_book) :=
  mkF1 (N := N_read_book) T.f_read_book T.g_read_book ⟨rfl, rfl, rfl, nd_read_book, rfl, by decide +kernel, by decide +kernel⟩ (fun _ _ _ _ _ _ us hl => match us, hl with | [_], _ => rfl) fun cdv A outer s H E hr p0 b hown => by
    unfold m_read_book
    exact (js_cons (j1_setF 1 (jf_lst jl_nil) nd_read_book) fun a1 =>
  (js_cons (j1_setF 2 (jf_lst jl_nil) nd_read_book) fun a2 =>
  (js_cons (j1_forP (Lf := fun (s5 : ((List (T3 Tx Int Bool)) × (List (Tx × (Dic ((List (Tx × (Tup Tx))) ⊕ ((List C_Look) ⊕ (List (Tx × Tx))))))))) => [.im (rp K p0), .mu (ctL K s5.1), .mu (ctL K s5.2), .no]) (ji_list (je_m1 PySem.F.slot_str_split PySem.F.type_str_split mt_split rm_split (je_var 0 rfl) je_str)) (jg_name 3 (fun _ => nd_read_book)) (Wk.s (Wk.s (Wk.s (Wk.s Wk.nil)))) (fun F10 s5 e6 => (js_cons (j1_if (Lf := fun (s14 : ((List (T3 Tx Int Bool)) × (List (Tx × (Dic ((List (Tx × (Tup Tx))) ⊕ ((List C_Look) ⊕ (List (Tx × Tx))))))))) => [.im (rp K p0), .mu (ctL K s14.1), .mu (ctL K s14.2), .im (rp K e6)]) (jt_not (jt_val (je_call1 (ok_left_out T) (hr.mono (by decide)) pasF (je_var 3 rfl)))) (js_cons (j1_callK 1 2 (ok_keep_line T) (hr.mono (by decide)) pasF (je_var 3 rfl)) fun a15 =>
  (js_nilP (Wk.s (Wk.s (Wk.s (Wk.s Wk.nil)))))) (js_nilP (Wk.s (Wk.s (Wk.s (Wk.s Wk.nil)))))) fun s14 =>
  (js_nilP (Wk.s (Wk.s (Wk.s (Wk.n Wk.nil))))))) pasO) fun s5 =>
  (js_frz 1 (js_frz 2 (js_ret (je_call2 (ok_made_book T) (hr.mono (by decide)) pasF (je_var 1 rfl) (je_var 2 rfl))) hown) hown))))

abbrev N_rule_text : List Str := ["rule", "parts", "look", "pair"]
theorem nd_rule_text : N_rule_text.Nodup := by decide +kernel
theorem ok_rule_text {P : Program} {w : World} {K : Fg} {mg : Str → Option Value} {base : Heap} (T : Fx K mg) : OkF P w K mg base "rule_text" 3 (sp1 K m_rule_text) :=
  mkF1 (N := N_rule_text) T.f_rule_text T.g_rule_text ⟨rfl, rfl, rfl, nd_rule_text, rfl, by decide +kernel, by decide +kernel⟩ (fun _ _ _ _ _ _ us hl => match us, hl with | [_], _ => rfl) fun cdv A outer s H E hr p0 b hown => by
    unfold m_rule_text
    exact (js_cons (j1_setF 1 (jf_lst jl_nil) nd_rule_text) fun a1 =>
  (js_cons (j1_if (Lf := fun (s7 : (List Tx)) => [.im (rp K p0), .mu (ctL K s7), .no, .no]) (jt_cmp op_gt ro_gt (je_callB call_len_seq ra_lenL T.n_len bt_len (je_fld 1 (g := fun (a : F_Rule) => a.2.1) T.k_Rule (je_var 0 rfl))) je_int) (js_cons (j1_append 1 (je_bin op_add_str ro_addT je_str (je_call1 (ok_facts_text T) (hr.mono (by decide)) pasF (je_fld 1 (g := fun (a : F_Rule) => a.2.1) T.k_Rule (je_var 0 rfl))))) fun a8 =>
  (js_nilP (Wk.s (Wk.s (Wk.s (Wk.s Wk.nil)))))) (js_nilP (Wk.s (Wk.s (Wk.s (Wk.s Wk.nil)))))) fun s7 =>
  (js_cons (j1_if (Lf := fun (s20 : (List Tx)) => [.im (rp K p0), .mu (ctL K s20), .no, .no]) (jt_cmp op_gt ro_gt (je_callB call_len_seq ra_lenL T.n_len bt_len (je_fld 2 (g := fun (a : F_Rule) => a.2.2.1) T.k_Rule (je_var 0 rfl))) je_int) (js_cons (j1_append 1 (je_bin op_add_str ro_addT je_str (je_call1 (ok_facts_text T) (hr.mono (by decide)) pasF (je_fld 2 (g := fun (a : F_Rule) => a.2.2.1) T.k_Rule (je_var 0 rfl))))) fun a21 =>
  (js_nilP (Wk.s (Wk.s (Wk.s (Wk.s Wk.nil)))))) (js_nilP (Wk.s (Wk.s (Wk.s (Wk.s Wk.nil)))))) fun s20 =>
  (js_cons (j1_if (Lf := fun (s33 : (List Tx)) => [.im (rp K p0), .mu (ctL K s33), .no, .no]) (jt_cmp op_gt ro_gt (je_callB call_len_seq ra_lenL T.n_len bt_len (je_fld 3 (g := fun (a : F_Rule) => a.2.2.2.1) T.k_Rule (je_var 0 rfl))) je_int) (js_cons (j1_append 1 (je_bin op_add_str ro_addT je_str (je_m1 PySem.F.slot_str_join PySem.F.type_str_join mt_join rm_join je_str (je_jf (jf_lc (own := [("look", 2)]) (ji_list (je_fld 3 (g := fun (a : F_Rule) => a.2.2.2.1) T.k_Rule (je_var 0 rfl))) (jg_name 2 (fun _ => nd_rule_text)) (fun _ e36 => (je_bin op_add_str ro_addT (je_bin op_add_str ro_addT (je_bin op_add_str ro_addT (je_bin op_add_str ro_addT (je_fld 0 (g := fun (a : F_Look) => a.1) T.k_Look (je_var 2 rfl)) je_str) (je_meth0 (m := "word") T.k_Look rfl (dd_Look_word T) (hr.mono (by decide)) passL (je_var 2 rfl) )) je_str) (je_fld 1 (g := fun (a : F_Look) => a.2.1) T.k_Look (je_var 2 rfl)))) nd_rule_text (blkOk_by (N := N_rule_text) (sc := defScope (top 51)) (by decide +kernel))))))) fun a34 =>
  (js_nilP (Wk.s (Wk.s (Wk.s (Wk.s Wk.nil)))))) (js_nilP (Wk.s (Wk.s (Wk.s (Wk.s Wk.nil)))))) fun s33 =>
  (js_cons (j1_if (Lf := fun (s60 : (List Tx)) => [.im (rp K p0), .mu (ctL K s60), .no, .no]) (jt_cmp op_gt ro_gt (je_callB call_len_seq ra_lenL T.n_len bt_len (je_fld 4 (g := fun (a : F_Rule) => a.2.2.2.2.1) T.k_Rule (je_var 0 rfl))) je_int) (js_cons (j1_append 1 (je_bin op_add_str ro_addT je_str (je_call1 (ok_facts_text T) (hr.mono (by decide)) pasF (je_fld 4 (g := fun (a : F_Rule) => a.2.2.2.2.1) T.k_Rule (je_var 0 rfl))))) fun a61 =>
  (js_nilP (Wk.s (Wk.s (Wk.s (Wk.s Wk.nil)))))) (js_nilP (Wk.s (Wk.s (Wk.s (Wk.s Wk.nil)))))) fun s60 =>
  (js_cons (j1_if (Lf := fun (s73 : (List Tx)) => [.im (rp K p0), .mu (ctL K s73), .no, .no]) (jt_cmp op_gt ro_gt (je_callB call_len_seq ra_lenL T.n_len bt_len (je_fld 5 (g := fun (a : F_Rule) => a.2.2.2.2.2.1) T.k_Rule (je_var 0 rfl))) je_int) (js_cons (j1_append 1 (je_bin op_add_str ro_addT je_str (je_m1 PySem.F.slot_str_join PySem.F.type_str_join mt_join rm_join je_str (je_jf (jf_lc (own := [("pair", 3)]) (ji_list (je_fld 5 (g := fun (a : F_Rule) => a.2.2.2.2.2.1) T.k_Rule (je_var 0 rfl))) (jg_name 3 (fun _ => nd_rule_text)) (fun _ e76 => (je_bin op_add_str ro_addT (je_bin op_add_str ro_addT (je_p0 (je_var 3 rfl)) je_str) (je_p1 (je_var 3 rfl)))) nd_rule_text (blkOk_by (N := N_rule_text) (sc := defScope (top 51)) (by decide +kernel))))))) fun a74 =>
  (js_nilP (Wk.s (Wk.s (Wk.s (Wk.s Wk.nil)))))) (js_nilP (Wk.s (Wk.s (Wk.s (Wk.s Wk.nil)))))) fun s73 =>
  (js_frz 1 (js_ret (je_bin op_add_str ro_addT (je_bin op_add_str ro_addT (je_bin op_add_str ro_addT je_str (je_fld 0 (g := fun (a : F_Rule) => a.1) T.k_Rule (je_var 0 rfl))) je_str) (je_m1 PySem.F.slot_str_join PySem.F.type_str_join mt_join rm_join je_str (je_var 1 rfl)))) hown)))))))

abbrev N_book_text : List Str := ["book", "lines", "kind", "rule", "word"]
theorem nd_book_text : N_book_text.Nodup := by decide +kernel
theorem ok_book_text {P : Program} {w : World} {K : Fg} {mg : Str → Option Value} {base : Heap} (T : Fx K mg) : OkF P w K mg base "book_text" 4 (sp1 K m_book_text) :=
  mkF1 (N := N_book_text) T.f_book_text T.g_book_text ⟨rfl, rfl, rfl, nd_book_text, rfl, by decide +kernel, by decide +kernel⟩ (fun _ _ _ _ _ _ us hl => match us, hl with | [_], _ => rfl) fun cdv A outer s H E hr p0 b hown => by
    unfold m_book_text
    exact (js_cons (j1_setF 1 (jf_lst jl_nil) nd_book_text) fun a1 =>
  (js_cons (j1_forP (Lf := fun (s3 : (List Tx)) => [.im (rp K p0), .mu (ctL K s3), .no, .no, .no]) (ji_list (je_fld 0 (g := fun (a : F_Book) => a.1) T.k_Book (je_var 0 rfl))) (jg_name 2 (fun _ => nd_book_text)) (Wk.s (Wk.s (Wk.s (Wk.s (Wk.s Wk.nil))))) (fun F8 s3 e4 => (js_cons (j1_set 4 je_str nd_book_text) fun a9 =>
  (js_cons (j1_if (Lf := fun (s13 : Tx) => [.im (rp K p0), .mu (ctL K s3), .im (rp K e4), .no, .im (rp K s13)]) (jt_val (je_t2 (je_var 2 rfl))) (js_cons (j1_set 4 je_str nd_book_text) fun a14 =>
  (js_nilP (Wk.s (Wk.s (Wk.s (Wk.s (Wk.s Wk.nil))))))) (js_nilP (Wk.s (Wk.s (Wk.s (Wk.s (Wk.s Wk.nil))))))) fun s13 =>
  (js_cons (j1_append 1 (je_bin op_add_str ro_addT (je_bin op_add_str ro_addT (je_bin op_add_str ro_addT (je_var 4 rfl) (je_t0 (je_var 2 rfl))) je_str) (je_callTy call_str_int ra_strI T.n_str bt_str (je_t1 (je_var 2 rfl))))) fun a15 =>
  (js_nilP (Wk.s (Wk.s (Wk.n (Wk.s (Wk.n Wk.nil)))))))))) pasO) fun s3 =>
  (js_cons (j1_forP (Lf := fun (s30 : (List Tx)) => [.im (rp K p0), .mu (ctL K s30), .no, .no, .no]) (ji_list (je_fld 1 (g := fun (a : F_Book) => a.2.1) T.k_Book (je_var 0 rfl))) (jg_name 3 (fun _ => nd_book_text)) (Wk.s (Wk.s (Wk.s (Wk.s (Wk.s Wk.nil))))) (fun F35 s30 e31 => (js_cons (j1_append 1 (je_call1 (ok_rule_text T) (hr.mono (by decide)) pasF (je_var 3 rfl))) fun a36 =>
  (js_nilP (Wk.s (Wk.s (Wk.s (Wk.n (Wk.s Wk.nil)))))))) pasO) fun s30 =>
  (js_frz 1 (js_ret (je_m1 PySem.F.slot_str_join PySem.F.type_str_join mt_join rm_join je_str (je_var 1 rfl))) hown))))

abbrev N__law_cell_at : List Str := ["_law_script", "_law_k"]
theorem nd__law_cell_at : N__law_cell_at.Nodup := by decide +kernel
theorem ok__law_cell_at {P : Program} {w : World} {K : Fg} {mg : Str → Option Value} {base : Heap} (T : Fx K mg) : OkF P w K mg base "_law_cell_at" 1 (sp2 K m__law_cell_at) :=
  mkF2 (N := N__law_cell_at) T.f__law_cell_at T.g__law_cell_at ⟨rfl, rfl, rfl, nd__law_cell_at, rfl, by decide +kernel, by decide +kernel⟩ (fun _ _ _ _ _ _ us hl => match us, hl with | [_, _], _ => rfl) fun cdv A outer s H E hr p0 p1 b hown => by
    unfold m__law_cell_at
    exact (js_if1 pi_rt (jt_cmp op_lt ro_lt (je_var 1 rfl) (je_callB call_len_seq ra_lenL T.n_len bt_len (je_var 0 rfl))) (js_ret (je_ix ix_list ro_ixL (je_var 0 rfl) (je_var 1 rfl)))
  (js_ret je_int))

abbrev N__law_mix : List Str := ["_law_cell", "_law_k", "_law_factor"]
theorem nd__law_mix : N__law_mix.Nodup := by decide +kernel
theorem ok__law_mix {P : Program} {w : World} {K : Fg} {mg : Str → Option Value} {base : Heap} (T : Fx K mg) : OkF P w K mg base "_law_mix" 1 (sp2 K m__law_mix) :=
  mkF2 (N := N__law_mix) T.f__law_mix T.g__law_mix ⟨rfl, rfl, rfl, nd__law_mix, rfl, by decide +kernel, by decide +kernel⟩ (fun _ _ _ _ _ _ us hl => match us, hl with | [_, _], _ => rfl) fun cdv A outer s H E hr p0 p1 b hown => by
    unfold m__law_mix
    exact (js_cons (j1_set 2 (je_ix ix_list ro_ixL (je_lst (jl_cons je_int (jl_cons je_int (jl_cons je_int (jl_cons je_int (jl_cons je_int (jl_cons je_int (jl_cons je_int jl_nil)))))))) (je_bin op_mod ro_mod (je_var 1 rfl) je_int)) nd__law_mix) fun a1 =>
  (js_ret (je_bin op_mod ro_mod (je_bin op_mul ro_mul (je_bin op_add ro_add (je_bin op_mod ro_mod (je_var 0 rfl) je_int) (je_bin op_mul ro_mul je_int (je_var 1 rfl))) (je_var 2 rfl)) je_int)))

abbrev N__law_names : List Str := ["_law_cell", "_law_many", "_law_firsts", "_law_rest", "_law_number", "_law_start", "_law_tail", "_law_size", "_law_at", "_law_k", "_law_sign", "_law_j"]
theorem nd__law_names : N__law_names.Nodup := by decide +kernel
theorem ok__law_names {P : Program} {w : World} {K : Fg} {mg : Str → Option Value} {base : Heap} (T : Fx K mg) : OkF P w K mg base "_law_names" 2 (sp3 K m__law_names) :=
  mkF3 (N := N__law_names) T.f__law_names T.g__law_names ⟨rfl, rfl, rfl, nd__law_names, rfl, by decide +kernel, by decide +kernel⟩ (fun _ _ _ _ _ _ us hl => match us, hl with | [_, _, _], _ => rfl) fun cdv A outer s H E hr p0 p1 p2 b hown => by
    unfold m__law_names
    exact (js_cons (j1_set 3 je_str nd__law_names) fun a1 =>
  (js_cons (j1_set 4 (je_call2 (ok__law_mix T) (hr.mono (by decide)) pasF (je_var 0 rfl) je_int) nd__law_names) fun a2 =>
  (js_cons (j1_set 5 (je_bin op_mod ro_mod (je_bin op_fdiv ro_div (je_var 4 rfl) je_int) (je_callB call_len_str ra_lenS T.n_len bt_len (je_var 2 rfl))) nd__law_names) fun a5 =>
  (js_cons (j1_set 6 (je_m1 PySem.F.slot_str_join PySem.F.type_str_join mt_join rm_join je_str (je_jf (jf_lc (own := [("_law_j", 11)]) (ji_range1 T.n_range je_int) (jg_name 11 (fun _ => nd__law_names)) (fun _ e13 => (je_ix ix_str ro_ixS (je_var 3 rfl) (je_bin op_mod ro_mod (je_bin op_add ro_add (je_bin op_fdiv ro_div (je_var 4 rfl) (je_bin op_add ro_add (je_var 11 rfl) je_int)) (je_bin op_mul ro_mul (je_var 11 rfl) (je_var 11 rfl))) je_int))) nd__law_names (blkOk_by (N := N__law_names) (sc := defScope (top 56)) (by decide +kernel))))) nd__law_names) fun a11 =>
  (js_if1 pi_rt (jt_cmp op_eq ro_eqI (je_bin op_mod ro_mod (je_var 4 rfl) je_int) je_int) (js_ret (je_jf (jf_lc (own := [("_law_k", 9)]) (ji_range1 T.n_range (je_var 1 rfl)) (jg_name 9 (fun _ => nd__law_names)) (fun _ e35 => (je_bin op_add_str ro_addT (je_ix ix_str ro_ixS (je_var 2 rfl) (je_var 5 rfl)) (je_slS (je_var 6 rfl) jo_no (jo_at (je_var 9 rfl))))) nd__law_names (blkOk_by (N := N__law_names) (sc := defScope (top 56)) (by decide +kernel)))))
  (js_if1 pi_rt (jt_cmp op_eq ro_eqI (je_bin op_mod ro_mod (je_var 4 rfl) je_int) je_int) (js_cons (j1_set 7 (je_bin op_mod ro_mod (je_bin op_fdiv ro_div (je_var 4 rfl) je_int) je_int) nd__law_names) fun a50 =>
  (js_ret (je_jf (jf_lc (own := [("_law_k", 9)]) (ji_range1 T.n_range (je_var 1 rfl)) (jg_name 9 (fun _ => nd__law_names)) (fun _ e56 => (je_bin op_add_str ro_addT (je_ix ix_str ro_ixS (je_var 2 rfl) (je_bin op_mod ro_mod (je_bin op_add ro_add (je_var 5 rfl) (je_var 9 rfl)) (je_callB call_len_str ra_lenS T.n_len bt_len (je_var 2 rfl)))) (je_slS (je_var 6 rfl) jo_no (jo_at (je_var 7 rfl))))) nd__law_names (blkOk_by (N := N__law_names) (sc := defScope (top 56)) (by decide +kernel))))))
  (js_cons (j1_set 7 (je_bin op_mod ro_mod (je_bin op_fdiv ro_div (je_var 4 rfl) je_int) je_int) nd__law_names) fun a71 =>
  (js_cons (j1_set 8 (je_bin op_mod ro_mod (je_bin op_fdiv ro_div (je_var 4 rfl) je_int) (je_bin op_add ro_add (je_var 7 rfl) je_int)) nd__law_names) fun a76 =>
  (js_cons (j1_setF 3 (jf_lc (own := [("_law_k", 9)]) (ji_range1 T.n_range (je_var 1 rfl)) (jg_name 9 (fun _ => nd__law_names)) (fun _ e85 => (je_ix ix_str ro_ixS (je_var 3 rfl) (je_bin op_mod ro_mod (je_bin op_add ro_add (je_bin op_fdiv ro_div (je_var 4 rfl) je_int) (je_var 9 rfl)) je_int))) nd__law_names (blkOk_by (N := N__law_names) (sc := defScope (top 56)) (by decide +kernel))) nd__law_names) fun a83 =>
  (js_frz 3 (js_ret (je_jf (jf_lc (own := [("_law_sign", 10)]) (ji_list (je_var 3 rfl)) (jg_name 10 (fun _ => nd__law_names)) (fun _ e95 => (je_bin op_add_str ro_addT (je_bin op_add_str ro_addT (je_bin op_add_str ro_addT (je_ix ix_str ro_ixS (je_var 2 rfl) (je_var 5 rfl)) (je_slS (je_var 6 rfl) jo_no (jo_at (je_var 8 rfl)))) (je_var 10 rfl)) (je_slS (je_var 6 rfl) (jo_at (je_var 8 rfl)) (jo_at (je_var 7 rfl))))) nd__law_names (blkOk_by (N := N__law_names) (sc := defScope (top 56)) (by decide +kernel))))) hown))))))))))

abbrev N__law_titles : List Str := ["_law_cell", "_law_many"]
theorem nd__law_titles : N__law_titles.Nodup := by decide +kernel
theorem ok__law_titles {P : Program} {w : World} {K : Fg} {mg : Str → Option Value} {base : Heap} (T : Fx K mg) : OkF P w K mg base "_law_titles" 3 (sp2 K m__law_titles) :=
  mkF2 (N := N__law_titles) T.f__law_titles T.g__law_titles ⟨rfl, rfl, rfl, nd__law_titles, rfl, by decide +kernel, by decide +kernel⟩ (fun _ _ _ _ _ _ us hl => match us, hl with | [_, _], _ => rfl) fun cdv A outer s H E hr p0 p1 b hown => by
    unfold m__law_titles
    exact (js_ret (je_call3 (ok__law_names T) (hr.mono (by decide)) pasF (je_var 0 rfl) (je_var 1 rfl) je_str))

abbrev N__law_opens : List Str := ["_law_cell", "_law_many"]
theorem nd__law_opens : N__law_opens.Nodup := by decide +kernel
theorem ok__law_opens {P : Program} {w : World} {K : Fg} {mg : Str → Option Value} {base : Heap} (T : Fx K mg) : OkF P w K mg base "_law_opens" 3 (sp2 K m__law_opens) :=
  mkF2 (N := N__law_opens) T.f__law_opens T.g__law_opens ⟨rfl, rfl, rfl, nd__law_opens, rfl, by decide +kernel, by decide +kernel⟩ (fun _ _ _ _ _ _ us hl => match us, hl with | [_, _], _ => rfl) fun cdv A outer s H E hr p0 p1 b hown => by
    unfold m__law_opens
    exact (js_ret (je_call3 (ok__law_names T) (hr.mono (by decide)) pasF (je_var 0 rfl) (je_var 1 rfl) je_str))

abbrev N__law_words : List Str := ["_law_cell", "_law_many"]
theorem nd__law_words : N__law_words.Nodup := by decide +kernel
theorem ok__law_words {P : Program} {w : World} {K : Fg} {mg : Str → Option Value} {base : Heap} (T : Fx K mg) : OkF P w K mg base "_law_words" 3 (sp2 K m__law_words) :=
  mkF2 (N := N__law_words) T.f__law_words T.g__law_words ⟨rfl, rfl, rfl, nd__law_words, rfl, by decide +kernel, by decide +kernel⟩ (fun _ _ _ _ _ _ us hl => match us, hl with | [_, _], _ => rfl) fun cdv A outer s H E hr p0 p1 b hown => by
    unfold m__law_words
    exact (js_ret (je_call3 (ok__law_names T) (hr.mono (by decide)) pasF (je_var 0 rfl) (je_var 1 rfl) je_str))

abbrev N__law_kinds : List Str := ["_law_cell", "_law_sizes", "_law_titles_here", "_law_number", "_law_rows", "_law_flags", "_law_k"]
theorem nd__law_kinds : N__law_kinds.Nodup := by decide +kernel
theorem ok__law_kinds {P : Program} {w : World} {K : Fg} {mg : Str → Option Value} {base : Heap} (T : Fx K mg) : OkF P w K mg base "_law_kinds" 4 (sp2 K m__law_kinds) :=
  mkF2 (N := N__law_kinds) T.f__law_kinds T.g__law_kinds ⟨rfl, rfl, rfl, nd__law_kinds, rfl, by decide +kernel, by decide +kernel⟩ (fun _ _ _ _ _ _ us hl => match us, hl with | [_, _], _ => rfl) fun cdv A outer s H E hr p0 p1 b hown => by
    unfold m__law_kinds
    exact (js_cons (j1_set 2 (je_call2 (ok__law_titles T) (hr.mono (by decide)) pasF (je_var 0 rfl) je_int) nd__law_kinds) fun a1 =>
  (js_cons (j1_set 3 (je_call2 (ok__law_mix T) (hr.mono (by decide)) pasF (je_var 0 rfl) je_int) nd__law_kinds) fun a4 =>
  (js_cons (j1_set 4 (je_lst (jl_cons (je_lst (jl_cons je_bl (jl_cons je_bl (jl_cons je_bl (jl_cons je_bl jl_nil))))) (jl_cons (je_lst (jl_cons je_bl (jl_cons je_bl (jl_cons je_bl (jl_cons je_bl jl_nil))))) jl_nil))) nd__law_kinds) fun a7 =>
  (js_cons (j1_set 4 (je_bin op_catQ ro_catL (je_var 4 rfl) (je_lst (jl_cons (je_lst (jl_cons je_bl (jl_cons je_bl (jl_cons je_bl (jl_cons je_bl jl_nil))))) (jl_cons (je_lst (jl_cons je_bl (jl_cons je_bl (jl_cons je_bl (jl_cons je_bl jl_nil))))) jl_nil)))) nd__law_kinds) fun a28 =>
  (js_cons (j1_set 5 (je_ix ix_list ro_ixL (je_var 4 rfl) (je_bin op_mod ro_mod (je_var 3 rfl) je_int)) nd__law_kinds) fun a51 =>
  (js_ret (je_jf (jf_lc (own := [("_law_k", 6)]) (ji_range1 T.n_range je_int) (jg_name 6 (fun _ => nd__law_kinds)) (fun _ e57 => (je_tri (je_ix ix_list ro_ixL (je_var 2 rfl) (je_var 6 rfl)) (je_ix ix_list ro_ixL (je_var 1 rfl) (je_bin op_mod ro_mod (je_bin op_fdiv ro_div (je_var 3 rfl) (je_bin op_add ro_add (je_bin op_mul ro_mul je_int (je_var 6 rfl)) je_int)) (je_callB call_len_seq ra_lenL T.n_len bt_len (je_var 1 rfl)))) (je_ix ix_list ro_ixL (je_var 5 rfl) (je_var 6 rfl)))) nd__law_kinds (blkOk_by (N := N__law_kinds) (sc := defScope (top 60)) (by decide +kernel))))))))))

abbrev N__law_fact : List Str := ["_law_kinds_here", "_law_names_here", "_law_cell", "_law_number", "_law_kind", "_law_args", "_law_k"]
theorem nd__law_fact : N__law_fact.Nodup := by decide +kernel
theorem ok__law_fact {P : Program} {w : World} {K : Fg} {mg : Str → Option Value} {base : Heap} (T : Fx K mg) : OkF P w K mg base "_law_fact" 2 (sp3 K m__law_fact) :=
  mkF3 (N := N__law_fact) T.f__law_fact T.g__law_fact ⟨rfl, rfl, rfl, nd__law_fact, rfl, by decide +kernel, by decide +kernel⟩ (fun _ _ _ _ _ _ us hl => match us, hl with | [_, _, _], _ => rfl) fun cdv A outer s H E hr p0 p1 p2 b hown => by
    unfold m__law_fact
    exact (js_cons (j1_set 3 (je_call2 (ok__law_mix T) (hr.mono (by decide)) pasF (je_var 2 rfl) je_int) nd__law_fact) fun a1 =>
  (js_cons (j1_set 4 (je_ix ix_list ro_ixL (je_var 0 rfl) (je_bin op_mod ro_mod (je_var 3 rfl) (je_callB call_len_seq ra_lenL T.n_len bt_len (je_var 0 rfl)))) nd__law_fact) fun a4 =>
  (js_cons (j1_set 3 (je_bin op_fdiv ro_div (je_var 3 rfl) je_int) nd__law_fact) fun a10 =>
  (js_cons (j1_setF 5 (jf_lst jl_nil) nd__law_fact) fun a13 =>
  (js_cons (j1_forP (Lf := fun (s17 : (Int × (List Tx))) => [.im (rp K p0), .im (rp K p1), .im (rp K p2), .im (rp K s17.1), .im (rp K a4), .mu (ctL K s17.2), .no]) (ji_range1 T.n_range (je_t1 (je_var 4 rfl))) (jg_name 6 (fun _ => nd__law_fact)) (Wk.s (Wk.s (Wk.s (Wk.s (Wk.s (Wk.s (Wk.s Wk.nil))))))) (fun F22 s17 e18 => (js_cons (j1_append 5 (je_ix ix_list ro_ixL (je_var 1 rfl) (je_bin op_mod ro_mod (je_var 3 rfl) (je_callB call_len_seq ra_lenL T.n_len bt_len (je_var 1 rfl))))) fun a23 =>
  (js_cons (j1_set 3 (je_bin op_add ro_add (je_bin op_fdiv ro_div (je_var 3 rfl) (je_callB call_len_seq ra_lenL T.n_len bt_len (je_var 1 rfl))) (je_bin op_mul ro_mul je_int (je_var 6 rfl))) nd__law_fact) fun a31 =>
  (js_nilP (Wk.s (Wk.s (Wk.s (Wk.s (Wk.s (Wk.s (Wk.n Wk.nil))))))))))) pasO) fun s17 =>
  (js_frz 5 (js_ret (je_pair (je_t0 (je_var 4 rfl)) (je_callTy call_tuple_of ra_tupL T.n_tuple bt_tuple (je_var 5 rfl)))) hown))))))

abbrev N__law_fact_text : List Str := ["_law_fact_here"]
theorem nd__law_fact_text : N__law_fact_text.Nodup := by decide +kernel
theorem ok__law_fact_text {P : Program} {w : World} {K : Fg} {mg : Str → Option Value} {base : Heap} (T : Fx K mg) : OkF P w K mg base "_law_fact_text" 1 (sp1 K m__law_fact_text) :=
  mkF1 (N := N__law_fact_text) T.f__law_fact_text T.g__law_fact_text ⟨rfl, rfl, rfl, nd__law_fact_text, rfl, by decide +kernel, by decide +kernel⟩ (fun _ _ _ _ _ _ us hl => match us, hl with | [_], _ => rfl) fun cdv A outer s H E hr p0 b hown => by
    unfold m__law_fact_text
    exact (js_if1 pi_rt (jt_cmp op_eq ro_eqI (je_callB call_len_seq ra_lenU T.n_len bt_len (je_p1 (je_var 0 rfl))) je_int) (js_ret (je_p0 (je_var 0 rfl)))
  (js_ret (je_bin op_add_str ro_addT (je_bin op_add_str ro_addT (je_bin op_add_str ro_addT (je_p0 (je_var 0 rfl)) je_str) (je_m1 PySem.F.slot_str_join PySem.F.type_str_join mt_join rm_joinU je_str (je_p1 (je_var 0 rfl)))) je_str)))

abbrev N__law_counts : List Str := ["_law_cell", "_law_menu", "_law_number", "_law_many", "_law_row", "_law_k"]
theorem nd__law_counts : N__law_counts.Nodup := by decide +kernel
theorem ok__law_counts {P : Program} {w : World} {K : Fg} {mg : Str → Option Value} {base : Heap} (T : Fx K mg) : OkF P w K mg base "_law_counts" 2 (sp2 K m__law_counts) :=
  mkF2 (N := N__law_counts) T.f__law_counts T.g__law_counts ⟨rfl, rfl, rfl, nd__law_counts, rfl, by decide +kernel, by decide +kernel⟩ (fun _ _ _ _ _ _ us hl => match us, hl with | [_, _], _ => rfl) fun cdv A outer s H E hr p0 p1 b hown => by
    unfold m__law_counts
    exact (js_cons (j1_set 2 (je_call2 (ok__law_mix T) (hr.mono (by decide)) pasF (je_var 0 rfl) je_int) nd__law_counts) fun a1 =>
  (js_cons (j1_set 3 (je_callB call_len_seq ra_lenL T.n_len bt_len (je_var 1 rfl)) nd__law_counts) fun a4 =>
  (js_cons (j1_setF 4 (jf_lst jl_nil) nd__law_counts) fun a6 =>
  (js_cons (j1_forP (Lf := fun (s8 : (Int × (List Int))) => [.im (rp K p0), .im (rp K p1), .im (rp K s8.1), .im (rp K a4), .mu (ctL K s8.2), .no]) (ji_range1 T.n_range je_int) (jg_name 5 (fun _ => nd__law_counts)) (Wk.s (Wk.s (Wk.s (Wk.s (Wk.s (Wk.s Wk.nil)))))) (fun F13 s8 e9 => (js_cons (j1_append 4 (je_ix ix_list ro_ixL (je_var 1 rfl) (je_bin op_mod ro_mod (je_var 2 rfl) (je_var 3 rfl)))) fun a14 =>
  (js_cons (j1_set 2 (je_bin op_fdiv ro_div (je_var 2 rfl) (je_var 3 rfl)) nd__law_counts) fun a21 =>
  (js_nilP (Wk.s (Wk.s (Wk.s (Wk.s (Wk.s (Wk.n Wk.nil)))))))))) pasO) fun s8 =>
  (js_cons (j1_if (Lf := fun (s31 : (List Int)) => [.im (rp K p0), .im (rp K p1), .im (rp K s8.1), .im (rp K a4), .mu (ctL K s31), .no]) (jt_cmp op_eq ro_eqI (je_bin op_add ro_add (je_ixM 4 je_int) (je_ixM 4 je_int)) je_int) (js_cons (j1_setIx 4 je_int je_int) fun a32 =>
  (js_nilP (Wk.s (Wk.s (Wk.s (Wk.s (Wk.s (Wk.s Wk.nil)))))))) (js_nilP (Wk.s (Wk.s (Wk.s (Wk.s (Wk.s (Wk.s Wk.nil)))))))) fun s31 =>
  (js_frz 4 (js_ret (je_var 4 rfl)) hown))))))

abbrev N__law_facts : List Str := ["_law_kinds_here", "_law_names_here", "_law_cells", "_law_first", "_law_many", "_law_k"]
theorem nd__law_facts : N__law_facts.Nodup := by decide +kernel
theorem ok__law_facts {P : Program} {w : World} {K : Fg} {mg : Str → Option Value} {base : Heap} (T : Fx K mg) : OkF P w K mg base "_law_facts" 3 (sp5 K m__law_facts) :=
  mkF5 (N := N__law_facts) T.f__law_facts T.g__law_facts ⟨rfl, rfl, rfl, nd__law_facts, rfl, by decide +kernel, by decide +kernel⟩ (fun _ _ _ _ _ _ us hl => match us, hl with | [_, _, _, _, _], _ => rfl) fun cdv A outer s H E hr p0 p1 p2 p3 p4 b hown => by
    unfold m__law_facts
    exact (js_ret (je_jf (jf_lc (own := [("_law_k", 5)]) (ji_range1 T.n_range (je_var 4 rfl)) (jg_name 5 (fun _ => nd__law_facts)) (fun _ e2 => (je_call3 (ok__law_fact T) (hr.mono (by decide)) passL (je_var 0 rfl) (je_var 1 rfl) (je_call2 (ok__law_mix T) (hr.mono (by decide)) passL (je_ix ix_list ro_ixL (je_var 2 rfl) (je_bin op_mod ro_mod (je_bin op_add ro_add (je_var 3 rfl) (je_var 5 rfl)) (je_callB call_len_seq ra_lenL T.n_len bt_len (je_var 2 rfl)))) (je_bin op_add ro_add (je_var 3 rfl) (je_var 5 rfl))))) nd__law_facts (blkOk_by (N := N__law_facts) (sc := defScope (top 64)) (by decide +kernel)))))

abbrev N__law_heads : List Str := ["_law_facts_here", "_law_known", "_law_fact_here", "_law_name"]
theorem nd__law_heads : N__law_heads.Nodup := by decide +kernel
theorem ok__law_heads {P : Program} {w : World} {K : Fg} {mg : Str → Option Value} {base : Heap} (T : Fx K mg) : OkF P w K mg base "_law_heads" 1 (sp1 K m__law_heads) :=
  mkF1 (N := N__law_heads) T.f__law_heads T.g__law_heads ⟨rfl, rfl, rfl, nd__law_heads, rfl, by decide +kernel, by decide +kernel⟩ (fun _ _ _ _ _ _ us hl => match us, hl with | [_], _ => rfl) fun cdv A outer s H E hr p0 b hown => by
    unfold m__law_heads
    exact (js_cons (j1_setF 1 (jf_lst jl_nil) nd__law_heads) fun a1 =>
  (js_cons (j1_forP (Lf := fun (s2 : (List Tx)) => [.im (rp K p0), .mu (ctL K s2), .no, .no]) (ji_list (je_var 0 rfl)) (jg_name 2 (fun _ => nd__law_heads)) (Wk.s (Wk.s (Wk.s (Wk.s Wk.nil)))) (fun F7 s2 e3 => (js_cons (j1_forP (Lf := fun (s10 : (List Tx)) => [.im (rp K p0), .mu (ctL K s10), .im (rp K e3), .no]) (ji_tup (je_p1 (je_var 2 rfl))) (jg_name 3 (fun _ => nd__law_heads)) (Wk.s (Wk.s (Wk.s (Wk.s Wk.nil)))) (fun F15 s10 e11 => (js_cons (j1_if (Lf := fun (s23 : (List Tx)) => [.im (rp K p0), .mu (ctL K s23), .im (rp K e3), .im (rp K e11)]) (jt_thaw 1 (jw_jt (jw_and (jt_val (je_m0 PySem.F.slot_str_isupper PySem.F.type_str_isupper mt_isupper rm_isupper (je_ix ix_str ro_ixS (je_var 3 rfl) je_int))) (jw_and1 (jt_cmp op_notIn_seq ro_notInL (je_var 3 rfl) (je_var 1 rfl))))) hown) (js_cons (j1_append 1 (je_var 3 rfl)) fun a24 =>
  (js_nilP (Wk.s (Wk.s (Wk.s (Wk.s Wk.nil)))))) (js_nilP (Wk.s (Wk.s (Wk.s (Wk.s Wk.nil)))))) fun s23 =>
  (js_nilP (Wk.s (Wk.s (Wk.s (Wk.n Wk.nil))))))) pasO) fun s10 =>
  (js_nilP (Wk.s (Wk.s (Wk.n (Wk.s Wk.nil))))))) pasO) fun s2 =>
  (js_frz 1 (js_ret (je_var 1 rfl)) hown)))

abbrev N__law_two : List Str := ["_law_names_here", "_law_cells", "_law_first", "_law_k", "_law_number"]
theorem nd__law_two : N__law_two.Nodup := by decide +kernel
theorem ok__law_two {P : Program} {w : World} {K : Fg} {mg : Str → Option Value} {base : Heap} (T : Fx K mg) : OkF P w K mg base "_law_two" 2 (sp4 K m__law_two) :=
  mkF4 (N := N__law_two) T.f__law_two T.g__law_two ⟨rfl, rfl, rfl, nd__law_two, rfl, by decide +kernel, by decide +kernel⟩ (fun _ _ _ _ _ _ us hl => match us, hl with | [_, _, _, _], _ => rfl) fun cdv A outer s H E hr p0 p1 p2 p3 b hown => by
    unfold m__law_two
    exact (js_cons (j1_set 4 (je_call2 (ok__law_mix T) (hr.mono (by decide)) pasF (je_ix ix_list ro_ixL (je_var 1 rfl) (je_bin op_mod ro_mod (je_bin op_add ro_add (je_var 2 rfl) (je_bin op_mul ro_mul je_int (je_var 3 rfl))) (je_callB call_len_seq ra_lenL T.n_len bt_len (je_var 1 rfl)))) (je_bin op_add ro_add (je_var 2 rfl) (je_var 3 rfl))) nd__law_two) fun a1 =>
  (js_ret (je_tri (je_ix ix_list ro_ixL (je_var 0 rfl) (je_bin op_mod ro_mod (je_var 4 rfl) (je_callB call_len_seq ra_lenL T.n_len bt_len (je_var 0 rfl)))) (je_ix ix_list ro_ixL (je_var 0 rfl) (je_bin op_mod ro_mod (je_bin op_fdiv ro_div (je_var 4 rfl) je_int) (je_callB call_len_seq ra_lenL T.n_len bt_len (je_var 0 rfl)))) (je_bin op_mod ro_mod (je_bin op_fdiv ro_div (je_var 4 rfl) je_int) je_int))))

abbrev N__law_rule : List Str := ["_law_kinds_here", "_law_opens_here", "_law_words_here", "_law_cells", "_law_menu", "_law_row", "_law_taken", "_law_kept", "_law_names_here", "_law_some", "_law_given", "_law_looks", "_law_k", "_law_told", "_law_two_here", "_law_kind"]
theorem nd__law_rule : N__law_rule.Nodup := by decide +kernel
theorem ok__law_rule {P : Program} {w : World} {K : Fg} {mg : Str → Option Value} {base : Heap} (T : Fx K mg) : OkF P w K mg base "_law_rule" 4 (sp5 K m__law_rule) :=
  mkF5 (N := N__law_rule) T.f__law_rule T.g__law_rule ⟨rfl, rfl, rfl, nd__law_rule, rfl, by decide +kernel, by decide +kernel⟩ (fun _ _ _ _ _ _ us hl => match us, hl with | [_, _, _, _, _], _ => rfl) fun cdv A outer s H E hr p0 p1 p2 p3 p4 b hown => by
    unfold m__law_rule
    exact (js_cons (j1_set 5 (je_call2 (ok__law_counts T) (hr.mono (by decide)) pasF (je_ix ix_list ro_ixL (je_var 3 rfl) je_int) (je_var 4 rfl)) nd__law_rule) fun a1 =>
  (js_cons (j1_set 3 (je_slL (je_var 3 rfl) (jo_at je_int) jo_no) nd__law_rule) fun a6 =>
  (js_cons (j1_set 6 (je_call5 (ok__law_facts T) (hr.mono (by decide)) pasF (je_jf (jf_lf (own := [("_law_kind", 15)]) (ji_list (je_var 0 rfl)) (jg_name 15 (fun _ => nd__law_rule)) (fun _ e12 => (jt_not (jt_val (je_t2 (je_var 15 rfl))))) (fun _ e12 => (je_var 15 rfl)) nd__law_rule (blkOk_by (N := N__law_rule) (sc := defScope (top 67)) (by decide +kernel)))) (je_bin op_catQ ro_catL (je_var 1 rfl) (je_var 2 rfl)) (je_var 3 rfl) je_int (je_ix ix_list ro_ixL (je_var 5 rfl) je_int)) nd__law_rule) fun a11 =>
  (js_cons (j1_set 7 (je_call5 (ok__law_facts T) (hr.mono (by decide)) pasF (je_var 0 rfl) (je_bin op_catQ ro_catL (je_var 1 rfl) (je_var 2 rfl)) (je_var 3 rfl) (je_ix ix_list ro_ixL (je_var 5 rfl) je_int) (je_ix ix_list ro_ixL (je_var 5 rfl) je_int)) nd__law_rule) fun a26 =>
  (js_cons (j1_set 8 (je_bin op_catQ ro_catL (je_call1 (ok__law_heads T) (hr.mono (by decide)) pasF (je_bin op_catQ ro_catL (je_var 6 rfl) (je_var 7 rfl))) (je_var 2 rfl)) nd__law_rule) fun a38 =>
  (js_cons (j1_set 9 (je_var 0 rfl) nd__law_rule) fun a44 =>
  (js_cons (j1_if (Lf := fun (s49 : (List (T3 Tx Int Bool))) => [.im (rp K p0), .im (rp K p1), .im (rp K p2), .im (rp K a6), .im (rp K p4), .im (rp K a1), .im (rp K a11), .im (rp K a26), .im (rp K a38), .im (rp K s49), .no, .no, .no, .no, .no, .no]) (jt_cmp op_eq ro_eqI (je_callB call_len_seq ra_lenL T.n_len bt_len (je_var 6 rfl)) je_int) (js_cons (j1_setLf 9 (own := [("_law_kind", 15)]) (ji_list (je_var 0 rfl)) (jg_name 15 (fun _ => nd__law_rule)) (fun _ e51 => (jt_val (je_t2 (je_var 15 rfl)))) (fun _ e51 => (je_var 15 rfl)) nd__law_rule (blkOk_by (N := N__law_rule) (sc := defScope (top 67)) (by decide +kernel))) fun a50 =>
  (js_frz 9 (js_nilP (Wk.s (Wk.s (Wk.s (Wk.s (Wk.s (Wk.s (Wk.s (Wk.s (Wk.s (Wk.s (Wk.s (Wk.s (Wk.s (Wk.s (Wk.s (Wk.s Wk.nil))))))))))))))))) hown)) (js_nilP (Wk.s (Wk.s (Wk.s (Wk.s (Wk.s (Wk.s (Wk.s (Wk.s (Wk.s (Wk.s (Wk.s (Wk.s (Wk.s (Wk.s (Wk.s (Wk.s Wk.nil)))))))))))))))))) fun s49 =>
  (js_cons (j1_set 10 (je_call5 (ok__law_facts T) (hr.mono (by decide)) pasF (je_var 9 rfl) (je_var 8 rfl) (je_var 3 rfl) je_int (je_ix ix_list ro_ixL (je_var 5 rfl) je_int)) nd__law_rule) fun a55 =>
  (js_cons (j1_setF 11 (jf_lst jl_nil) nd__law_rule) fun a63 =>
  (js_cons (j1_forP (Lf := fun (s67 : (List (T3 Tx Tx Tx))) => [.im (rp K p0), .im (rp K p1), .im (rp K p2), .im (rp K a6), .im (rp K p4), .im (rp K a1), .im (rp K a11), .im (rp K a26), .im (rp K a38), .im (rp K s49), .im (rp K a55), .mu (ctL K s67), .no, .no, .no, .no]) (ji_range1 T.n_range (je_ix ix_list ro_ixL (je_var 5 rfl) je_int)) (jg_name 12 (fun _ => nd__law_rule)) (Wk.s (Wk.s (Wk.s (Wk.s (Wk.s (Wk.s (Wk.s (Wk.s (Wk.s (Wk.s (Wk.s (Wk.s (Wk.s (Wk.s (Wk.s (Wk.s Wk.nil)))))))))))))))) (fun F72 s67 e68 => (js_cons (j1_set 14 (je_call4 (ok__law_two T) (hr.mono (by decide)) pasF (je_var 8 rfl) (je_var 3 rfl) je_int (je_var 12 rfl)) nd__law_rule) fun a73 =>
  (js_cons (j1_append 11 (je_tri (je_t0 (je_var 14 rfl)) (je_ix ix_list ro_ixL (je_lst (jl_cons je_str (jl_cons je_str jl_nil))) (je_t2 (je_var 14 rfl))) (je_t1 (je_var 14 rfl)))) fun a78 =>
  (js_nilP (Wk.s (Wk.s (Wk.s (Wk.s (Wk.s (Wk.s (Wk.s (Wk.s (Wk.s (Wk.s (Wk.s (Wk.s (Wk.n (Wk.s (Wk.n (Wk.s Wk.nil)))))))))))))))))))) pasO) fun s67 =>
  (js_cons (j1_setF 13 (jf_lst jl_nil) nd__law_rule) fun a96 =>
  (js_cons (j1_forP (Lf := fun (s100 : (List (Tx × Tx))) => [.im (rp K p0), .im (rp K p1), .im (rp K p2), .im (rp K a6), .im (rp K p4), .im (rp K a1), .im (rp K a11), .im (rp K a26), .im (rp K a38), .im (rp K s49), .im (rp K a55), .mu (ctL K s67), .no, .mu (ctL K s100), .no, .no]) (ji_range1 T.n_range (je_ix ix_list ro_ixL (je_var 5 rfl) je_int)) (jg_name 12 (fun _ => nd__law_rule)) (Wk.s (Wk.s (Wk.s (Wk.s (Wk.s (Wk.s (Wk.s (Wk.s (Wk.s (Wk.s (Wk.s (Wk.s (Wk.s (Wk.s (Wk.s (Wk.s Wk.nil)))))))))))))))) (fun F105 s100 e101 => (js_cons (j1_set 14 (je_call4 (ok__law_two T) (hr.mono (by decide)) pasF (je_var 8 rfl) (je_var 3 rfl) je_int (je_var 12 rfl)) nd__law_rule) fun a106 =>
  (js_cons (j1_append 13 (je_pair (je_t0 (je_var 14 rfl)) (je_t1 (je_var 14 rfl)))) fun a111 =>
  (js_nilP (Wk.s (Wk.s (Wk.s (Wk.s (Wk.s (Wk.s (Wk.s (Wk.s (Wk.s (Wk.s (Wk.s (Wk.s (Wk.n (Wk.s (Wk.n (Wk.s Wk.nil)))))))))))))))))))) pasO) fun s100 =>
  (js_frz 11 (js_frz 13 (js_ret (je_quin (je_var 6 rfl) (je_var 7 rfl) (je_var 11 rfl) (je_var 10 rfl) (je_var 13 rfl))) hown) hown)))))))))))))

abbrev N__law_rule_text : List Str := ["_law_title", "_law_rule_here", "_law_rows", "_law_fact_here", "_law_look", "_law_pair"]
theorem nd__law_rule_text : N__law_rule_text.Nodup := by decide +kernel
theorem ok__law_rule_text {P : Program} {w : World} {K : Fg} {mg : Str → Option Value} {base : Heap} (T : Fx K mg) : OkF P w K mg base "_law_rule_text" 2 (sp2 K m__law_rule_text) :=
  mkF2 (N := N__law_rule_text) T.f__law_rule_text T.g__law_rule_text ⟨rfl, rfl, rfl, nd__law_rule_text, rfl, by decide +kernel, by decide +kernel⟩ (fun _ _ _ _ _ _ us hl => match us, hl with | [_, _], _ => rfl) fun cdv A outer s H E hr p0 p1 b hown => by
    unfold m__law_rule_text
    exact (js_cons (j1_setF 2 (jf_lst jl_nil) nd__law_rule_text) fun a1 =>
  (js_cons (j1_if (Lf := fun (s8 : (List Tx)) => [.im (rp K p0), .im (rp K p1), .mu (ctL K s8), .no, .no, .no]) (jt_cmp op_gt ro_gt (je_callB call_len_seq ra_lenL T.n_len bt_len (je_at at_v0 (je_var 1 rfl))) je_int) (js_cons (j1_append 2 (je_bin op_add_str ro_addT je_str (je_m1 PySem.F.slot_str_join PySem.F.type_str_join mt_join rm_join je_str (je_jf (jf_lc (own := [("_law_fact_here", 3)]) (ji_list (je_at at_v0 (je_var 1 rfl))) (jg_name 3 (fun _ => nd__law_rule_text)) (fun _ e12 => (je_call1 (ok__law_fact_text T) (hr.mono (by decide)) passL (je_var 3 rfl))) nd__law_rule_text (blkOk_by (N := N__law_rule_text) (sc := defScope (top 68)) (by decide +kernel))))))) fun a9 =>
  (js_nilP (Wk.s (Wk.s (Wk.s (Wk.s (Wk.s (Wk.s Wk.nil)))))))) (js_nilP (Wk.s (Wk.s (Wk.s (Wk.s (Wk.s (Wk.s Wk.nil)))))))) fun s8 =>
  (js_cons (j1_if (Lf := fun (s27 : (List Tx)) => [.im (rp K p0), .im (rp K p1), .mu (ctL K s27), .no, .no, .no]) (jt_cmp op_gt ro_gt (je_callB call_len_seq ra_lenL T.n_len bt_len (je_at at_v1 (je_var 1 rfl))) je_int) (js_cons (j1_append 2 (je_bin op_add_str ro_addT je_str (je_m1 PySem.F.slot_str_join PySem.F.type_str_join mt_join rm_join je_str (je_jf (jf_lc (own := [("_law_fact_here", 3)]) (ji_list (je_at at_v1 (je_var 1 rfl))) (jg_name 3 (fun _ => nd__law_rule_text)) (fun _ e31 => (je_call1 (ok__law_fact_text T) (hr.mono (by decide)) passL (je_var 3 rfl))) nd__law_rule_text (blkOk_by (N := N__law_rule_text) (sc := defScope (top 68)) (by decide +kernel))))))) fun a28 =>
  (js_nilP (Wk.s (Wk.s (Wk.s (Wk.s (Wk.s (Wk.s Wk.nil)))))))) (js_nilP (Wk.s (Wk.s (Wk.s (Wk.s (Wk.s (Wk.s Wk.nil)))))))) fun s27 =>
  (js_cons (j1_if (Lf := fun (s46 : (List Tx)) => [.im (rp K p0), .im (rp K p1), .mu (ctL K s46), .no, .no, .no]) (jt_cmp op_gt ro_gt (je_callB call_len_seq ra_lenL T.n_len bt_len (je_at at_v2 (je_var 1 rfl))) je_int) (js_cons (j1_append 2 (je_bin op_add_str ro_addT je_str (je_m1 PySem.F.slot_str_join PySem.F.type_str_join mt_join rm_join je_str (je_jf (jf_lc (own := [("_law_look", 4)]) (ji_list (je_at at_v2 (je_var 1 rfl))) (jg_name 4 (fun _ => nd__law_rule_text)) (fun _ e50 => (je_m1 PySem.F.slot_str_join PySem.F.type_str_join mt_join rm_join je_str (je_callTy call_list_of ra_lst3 T.n_list bt_list (je_var 4 rfl)))) nd__law_rule_text (blkOk_by (N := N__law_rule_text) (sc := defScope (top 68)) (by decide +kernel))))))) fun a47 =>
  (js_nilP (Wk.s (Wk.s (Wk.s (Wk.s (Wk.s (Wk.s Wk.nil)))))))) (js_nilP (Wk.s (Wk.s (Wk.s (Wk.s (Wk.s (Wk.s Wk.nil)))))))) fun s46 =>
  (js_cons (j1_if (Lf := fun (s67 : (List Tx)) => [.im (rp K p0), .im (rp K p1), .mu (ctL K s67), .no, .no, .no]) (jt_cmp op_gt ro_gt (je_callB call_len_seq ra_lenL T.n_len bt_len (je_at at_v3 (je_var 1 rfl))) je_int) (js_cons (j1_append 2 (je_bin op_add_str ro_addT je_str (je_m1 PySem.F.slot_str_join PySem.F.type_str_join mt_join rm_join je_str (je_jf (jf_lc (own := [("_law_fact_here", 3)]) (ji_list (je_at at_v3 (je_var 1 rfl))) (jg_name 3 (fun _ => nd__law_rule_text)) (fun _ e71 => (je_call1 (ok__law_fact_text T) (hr.mono (by decide)) passL (je_var 3 rfl))) nd__law_rule_text (blkOk_by (N := N__law_rule_text) (sc := defScope (top 68)) (by decide +kernel))))))) fun a68 =>
  (js_nilP (Wk.s (Wk.s (Wk.s (Wk.s (Wk.s (Wk.s Wk.nil)))))))) (js_nilP (Wk.s (Wk.s (Wk.s (Wk.s (Wk.s (Wk.s Wk.nil)))))))) fun s67 =>
  (js_cons (j1_if (Lf := fun (s86 : (List Tx)) => [.im (rp K p0), .im (rp K p1), .mu (ctL K s86), .no, .no, .no]) (jt_cmp op_gt ro_gt (je_callB call_len_seq ra_lenL T.n_len bt_len (je_at at_v4 (je_var 1 rfl))) je_int) (js_cons (j1_append 2 (je_bin op_add_str ro_addT je_str (je_m1 PySem.F.slot_str_join PySem.F.type_str_join mt_join rm_join je_str (je_jf (jf_lc (own := [("_law_pair", 5)]) (ji_list (je_at at_v4 (je_var 1 rfl))) (jg_name 5 (fun _ => nd__law_rule_text)) (fun _ e90 => (je_bin op_add_str ro_addT (je_bin op_add_str ro_addT (je_p0 (je_var 5 rfl)) je_str) (je_p1 (je_var 5 rfl)))) nd__law_rule_text (blkOk_by (N := N__law_rule_text) (sc := defScope (top 68)) (by decide +kernel))))))) fun a87 =>
  (js_nilP (Wk.s (Wk.s (Wk.s (Wk.s (Wk.s (Wk.s Wk.nil)))))))) (js_nilP (Wk.s (Wk.s (Wk.s (Wk.s (Wk.s (Wk.s Wk.nil)))))))) fun s86 =>
  (js_frz 2 (js_ret (je_bin op_add_str ro_addT (je_bin op_add_str ro_addT (je_bin op_add_str ro_addT je_str (je_var 0 rfl)) je_str) (je_m1 PySem.F.slot_str_join PySem.F.type_str_join mt_join rm_join je_str (je_var 2 rfl)))) hown)))))))

abbrev N__law_kind_text : List Str := ["_law_kind"]
theorem nd__law_kind_text : N__law_kind_text.Nodup := by decide +kernel
theorem ok__law_kind_text {P : Program} {w : World} {K : Fg} {mg : Str → Option Value} {base : Heap} (T : Fx K mg) : OkF P w K mg base "_law_kind_text" 1 (sp1 K m__law_kind_text) :=
  mkF1 (N := N__law_kind_text) T.f__law_kind_text T.g__law_kind_text ⟨rfl, rfl, rfl, nd__law_kind_text, rfl, by decide +kernel, by decide +kernel⟩ (fun _ _ _ _ _ _ us hl => match us, hl with | [_], _ => rfl) fun cdv A outer s H E hr p0 b hown => by
    unfold m__law_kind_text
    exact (js_ret (je_bin op_add_str ro_addT (je_bin op_add_str ro_addT (je_bin op_add_str ro_addT (je_ix ix_list ro_ixL (je_lst (jl_cons je_str (jl_cons je_str jl_nil))) (je_callTy call_int1 ra_intB T.n_int bt_int (je_t2 (je_var 0 rfl)))) (je_t0 (je_var 0 rfl))) je_str) (je_callTy call_str_int ra_strI T.n_str bt_str (je_t1 (je_var 0 rfl)))))

abbrev N__law_spread : List Str := ["_law_line", "_law_seed", "_law_text", "_law_k"]
theorem nd__law_spread : N__law_spread.Nodup := by decide +kernel
theorem ok__law_spread {P : Program} {w : World} {K : Fg} {mg : Str → Option Value} {base : Heap} (T : Fx K mg) : OkF P w K mg base "_law_spread" 1 (sp2 K m__law_spread) :=
  mkF2 (N := N__law_spread) T.f__law_spread T.g__law_spread ⟨rfl, rfl, rfl, nd__law_spread, rfl, by decide +kernel, by decide +kernel⟩ (fun _ _ _ _ _ _ us hl => match us, hl with | [_, _], _ => rfl) fun cdv A outer s H E hr p0 p1 b hown => by
    unfold m__law_spread
    exact (js_cons (j1_set 2 (je_slS je_str jo_no (jo_at (je_bin op_mod ro_mod (je_var 1 rfl) je_int))) nd__law_spread) fun a1 =>
  (js_cons (j1_forP (Lf := fun (s10 : Tx) => [.im (rp K p0), .im (rp K p1), .im (rp K s10), .no]) (ji_range1 T.n_range (je_callB call_len_str ra_lenS T.n_len bt_len (je_var 0 rfl))) (jg_name 3 (fun _ => nd__law_spread)) (Wk.s (Wk.s (Wk.s (Wk.s Wk.nil)))) (fun F15 s10 e11 => (js_cons (j1_set 2 (je_bin op_add_str ro_addT (je_var 2 rfl) (je_ix ix_str ro_ixS (je_var 0 rfl) (je_var 3 rfl))) nd__law_spread) fun a16 =>
  (js_cons (j1_if (Lf := fun (s38 : Tx) => [.im (rp K p0), .im (rp K p1), .im (rp K s38), .im (rp K e11)]) (jw_jt (jw_or (jt_cmp op_inS ro_in (je_ix ix_str ro_ixS (je_var 0 rfl) (je_var 3 rfl)) je_str) (jw_or1 (jt_cmp op_in_str ro_inG (je_slS (je_var 0 rfl) (jo_at (je_bin op_add ro_add (je_var 3 rfl) je_int)) (jo_at (je_bin op_add ro_add (je_var 3 rfl) je_int))) je_str)))) (js_cons (j1_set 2 (je_bin op_add_str ro_addT (je_var 2 rfl) (je_slS je_str jo_no (jo_at (je_ix ix_list ro_ixL (je_lst (jl_cons je_int (jl_cons je_int (jl_cons je_int (jl_cons je_int (jl_cons je_int (jl_cons je_int (jl_cons je_int jl_nil)))))))) (je_bin op_mod ro_mod (je_bin op_add ro_add (je_var 1 rfl) (je_bin op_mul ro_mul (je_var 3 rfl) (je_var 3 rfl))) je_int))))) nd__law_spread) fun a39 =>
  (js_nilP (Wk.s (Wk.s (Wk.s (Wk.s Wk.nil)))))) (js_nilP (Wk.s (Wk.s (Wk.s (Wk.s Wk.nil)))))) fun s38 =>
  (js_nilP (Wk.s (Wk.s (Wk.s (Wk.n Wk.nil)))))))) pasO) fun s10 =>
  (js_ret (je_bin op_add_str ro_addT (je_var 2 rfl) (je_slS je_str jo_no (jo_at (je_bin op_mod ro_mod (je_var 1 rfl) je_int)))))))

abbrev N__law_closer : List Str := ["_law_line", "_law_sign"]
theorem nd__law_closer : N__law_closer.Nodup := by decide +kernel
theorem ok__law_closer {P : Program} {w : World} {K : Fg} {mg : Str → Option Value} {base : Heap} (T : Fx K mg) : OkF P w K mg base "_law_closer" 1 (sp1 K m__law_closer) :=
  mkSg (N := N__law_closer) (cs := [(",", _, _), (";", _, _), (":", _, _), ("=", _, _)]) (z := " ") (a := " =") (b := "=") T.f__law_closer T.g__law_closer ⟨rfl, rfl, rfl, nd__law_closer, rfl, by decide +kernel, by decide +kernel⟩ (fun _ _ _ _ _ _ us hl => match us, hl with | [_], _ => rfl) rfl rfl (by decide +kernel) rfl rfl (fun _ => rfl) rfl rfl nd__law_closer (by decide) (by decide) (by decide) (by decide +kernel) (by decide +kernel) (by decide +kernel) (by decide +kernel) (fun cdv L => ⟨rfl, rfl, rfl, fun _ => rfl, rfl, rfl⟩) rfl rfl

abbrev N__law_turned : List Str := ["_law_lines", "_law_by", "_law_at"]
theorem nd__law_turned : N__law_turned.Nodup := by decide +kernel
theorem ok__law_turned {P : Program} {w : World} {K : Fg} {mg : Str → Option Value} {base : Heap} (T : Fx K mg) : OkF P w K mg base "_law_turned" 1 (sp2 K m__law_turned) :=
  mkF2 (N := N__law_turned) T.f__law_turned T.g__law_turned ⟨rfl, rfl, rfl, nd__law_turned, rfl, by decide +kernel, by decide +kernel⟩ (fun _ _ _ _ _ _ us hl => match us, hl with | [_, _], _ => rfl) fun cdv A outer s H E hr p0 p1 b hown => by
    unfold m__law_turned
    exact (js_cons (j1_set 2 (je_bin op_mod ro_mod (je_var 1 rfl) (je_callB2 (call_max2 rfl) ra_max2 T.n_max bt_max je_int (je_callB call_len_seq ra_lenL T.n_len bt_len (je_var 0 rfl)))) nd__law_turned) fun a1 =>
  (js_ret (je_bin op_catQ ro_catL (je_slL (je_var 0 rfl) (jo_at (je_var 2 rfl)) jo_no) (je_slL (je_var 0 rfl) jo_no (jo_at (je_var 2 rfl))))))

abbrev N__law_rules : List Str := ["_law_script", "_law_kinds_here", "_law_opens_here", "_law_words_here", "_law_titles_here", "_law_rows", "_law_k", "_law_cells", "_law_rule_here"]
theorem nd__law_rules : N__law_rules.Nodup := by decide +kernel
theorem ok__law_rules {P : Program} {w : World} {K : Fg} {mg : Str → Option Value} {base : Heap} (T : Fx K mg) : OkF P w K mg base "_law_rules" 5 (sp4 K m__law_rules) :=
  mkF4 (N := N__law_rules) T.f__law_rules T.g__law_rules ⟨rfl, rfl, rfl, nd__law_rules, rfl, by decide +kernel, by decide +kernel⟩ (fun _ _ _ _ _ _ us hl => match us, hl with | [_, _, _, _], _ => rfl) fun cdv A outer s H E hr p0 p1 p2 p3 b hown => by
    unfold m__law_rules
    exact (js_cons (j1_set 4 (je_call2 (ok__law_titles T) (hr.mono (by decide)) pasF (je_call2 (ok__law_cell_at T) (hr.mono (by decide)) pasF (je_var 0 rfl) je_int) je_int) nd__law_rules) fun a1 =>
  (js_cons (j1_setF 5 (jf_lst jl_nil) nd__law_rules) fun a6 =>
  (js_cons (j1_forP (Lf := fun (s8 : (List Tx)) => [.im (rp K p0), .im (rp K p1), .im (rp K p2), .im (rp K p3), .im (rp K a1), .mu (ctL K s8), .no, .no, .no]) (ji_range1 T.n_range je_int) (jg_name 6 (fun _ => nd__law_rules)) (Wk.s (Wk.s (Wk.s (Wk.s (Wk.s (Wk.s (Wk.s (Wk.s (Wk.s Wk.nil))))))))) (fun F13 s8 e9 => (js_cons (j1_set 7 (je_slL (je_var 0 rfl) (jo_at (je_bin op_add ro_add je_int (je_bin op_mul ro_mul je_int (je_var 6 rfl)))) (jo_at (je_bin op_add ro_add je_int (je_bin op_mul ro_mul je_int (je_var 6 rfl))))) nd__law_rules) fun a14 =>
  (js_cons (j1_if (Lf := fun (s32 : (List Tx)) => [.im (rp K p0), .im (rp K p1), .im (rp K p2), .im (rp K p3), .im (rp K a1), .mu (ctL K s32), .im (rp K e9), .im (rp K a14), .no]) (jt_cmp op_gt ro_gt (je_callB call_len_seq ra_lenL T.n_len bt_len (je_var 7 rfl)) je_int) (js_cons (j1_set 8 (je_call5 (ok__law_rule T) (hr.mono (by decide)) pasF (je_var 1 rfl) (je_var 2 rfl) (je_var 3 rfl) (je_var 7 rfl) (je_lst (jl_cons je_int (jl_cons je_int (jl_cons je_int (jl_cons je_int (jl_cons je_int (jl_cons je_int (jl_cons je_int jl_nil))))))))) nd__law_rules) fun a33 =>
  (js_cons (j1_append 5 (je_call2 (ok__law_rule_text T) (hr.mono (by decide)) pasF (je_ix ix_list ro_ixL (je_var 4 rfl) (je_var 6 rfl)) (je_var 8 rfl))) fun a53 =>
  (js_nilP (Wk.s (Wk.s (Wk.s (Wk.s (Wk.s (Wk.s (Wk.s (Wk.s (Wk.n Wk.nil)))))))))))) (js_nilP (Wk.s (Wk.s (Wk.s (Wk.s (Wk.s (Wk.s (Wk.s (Wk.s (Wk.s Wk.nil))))))))))) fun s32 =>
  (js_nilP (Wk.s (Wk.s (Wk.s (Wk.s (Wk.s (Wk.s (Wk.n (Wk.n (Wk.s Wk.nil))))))))))))) pasO) fun s8 =>
  (js_frz 5 (js_ret (je_var 5 rfl)) hown))))

abbrev N__law_written : List Str := ["_law_line", "_law_number"]
theorem nd__law_written : N__law_written.Nodup := by decide +kernel
theorem ok__law_written {P : Program} {w : World} {K : Fg} {mg : Str → Option Value} {base : Heap} (T : Fx K mg) : OkF P w K mg base "_law_written" 2 (sp2 K m__law_written) :=
  mkF2 (N := N__law_written) T.f__law_written T.g__law_written ⟨rfl, rfl, rfl, nd__law_written, rfl, by decide +kernel, by decide +kernel⟩ (fun _ _ _ _ _ _ us hl => match us, hl with | [_, _], _ => rfl) fun cdv A outer s H E hr p0 p1 b hown => by
    unfold m__law_written
    exact (js_if1 pi_rt (jt_cmp op_eq ro_eqI (je_bin op_mod ro_mod (je_var 1 rfl) je_int) je_int) (js_ret (je_call2 (ok__law_spread T) (hr.mono (by decide)) pasF (je_var 0 rfl) (je_bin op_fdiv ro_div (je_var 1 rfl) je_int)))
  (js_if1 pi_rt (jt_cmp op_eq ro_eqI (je_bin op_mod ro_mod (je_var 1 rfl) je_int) je_int) (js_ret (je_call1 (ok__law_closer T) (hr.mono (by decide)) pasF (je_var 0 rfl)))
  (js_ret (je_var 0 rfl))))

abbrev N_law : List Str := ["_law_script", "_law_number", "_law_kinds_here", "_law_opens_here", "_law_words_here", "_law_rows", "_law_due", "_law_lines", "_law_line", "_law_book", "_law_other", "_law_told", "_law_kind"]
theorem nd_law : N_law.Nodup := by decide +kernel
theorem ok_law {P : Program} {w : World} {K : Fg} {mg : Str → Option Value} {base : Heap} (T : Fx K mg) {fd : FuncData} (F : FunD K "law" "law" (defArgs (top 75)) (defBody (top 75)) (defScope (top 75)) [] [] (He.ga K "law") fd) : FnOk P w K mg base (L2.CX P w) 10 (He.ga K "law") fd ["_law_script"] (sp1 K m_law) :=
  mkC1 (N := N_law) F ⟨rfl, rfl, rfl, nd_law, rfl, by decide +kernel, by decide +kernel⟩ fun cdv A outer s H E hr p0 b hown => by
    unfold m_law
    exact (js_cons (j1_set 1 (je_call2 (ok__law_mix T) (hr.mono (by decide)) pasF (je_call2 (ok__law_cell_at T) (hr.mono (by decide)) pasF (je_var 0 rfl) je_int) je_int) nd_law) fun a1 =>
  (js_cons (j1_set 2 (je_call2 (ok__law_kinds T) (hr.mono (by decide)) pasF (je_call2 (ok__law_cell_at T) (hr.mono (by decide)) pasF (je_var 0 rfl) je_int) (je_lst (jl_cons je_int (jl_cons je_int (jl_cons je_int (jl_cons je_int (jl_cons je_int jl_nil))))))) nd_law) fun a6 =>
  (js_cons (j1_set 3 (je_call2 (ok__law_opens T) (hr.mono (by decide)) pasF (je_call2 (ok__law_cell_at T) (hr.mono (by decide)) pasF (je_var 0 rfl) je_int) je_int) nd_law) fun a21 =>
  (js_cons (j1_set 4 (je_call2 (ok__law_words T) (hr.mono (by decide)) pasF (je_call2 (ok__law_cell_at T) (hr.mono (by decide)) pasF (je_var 0 rfl) je_int) je_int) nd_law) fun a26 =>
  (js_cons (j1_setF 5 (jf_lst (jl_cons (je_call2 (ok__law_turned T) (hr.mono (by decide)) pasF (je_jf (jf_lc (own := [("_law_kind", 12)]) (ji_list (je_var 2 rfl)) (jg_name 12 (fun _ => nd_law)) (fun _ e32 => (je_call1 (ok__law_kind_text T) (hr.mono (by decide)) passL (je_var 12 rfl))) nd_law (blkOk_by (N := N_law) (sc := defScope (top 75)) (by decide +kernel)))) (je_bin op_fdiv ro_div (je_var 1 rfl) je_int)) jl_nil)) nd_law) fun a31 =>
  (js_cons (j1_append 5 (je_call2 (ok__law_turned T) (hr.mono (by decide)) pasF (je_call4 (ok__law_rules T) (hr.mono (by decide)) pasF (je_var 0 rfl) (je_var 2 rfl) (je_var 3 rfl) (je_var 4 rfl)) (je_bin op_fdiv ro_div (je_var 1 rfl) je_int))) fun a41 =>
  (js_cons (j1_set 6 (je_m1 PySem.F.slot_str_join PySem.F.type_str_join mt_join rm_join je_str (je_bin op_catQ ro_catL (je_ixM 5 je_int) (je_ixM 5 je_int))) nd_law) fun a52 =>
  (js_cons (j1_if (Lf := fun (s64 : (List (List Tx))) => [.im (rp K p0), .im (rp K a1), .im (rp K a6), .im (rp K a21), .im (rp K a26), .mu (ctL K s64), .im (rp K a52), .no, .no, .no, .no, .no, .no]) (jt_cmp op_eq ro_eqI (je_bin op_mod ro_mod (je_var 1 rfl) je_int) je_int) (js_cons (j1_setF 5 (jf_lst (jl_cons (je_ixM 5 je_int) (jl_cons (je_ixM 5 je_int) jl_nil))) nd_law) fun a65 =>
  (js_nilP (Wk.s (Wk.s (Wk.s (Wk.s (Wk.s (Wk.s (Wk.s (Wk.s (Wk.s (Wk.s (Wk.s (Wk.s (Wk.s Wk.nil))))))))))))))) (js_nilP (Wk.s (Wk.s (Wk.s (Wk.s (Wk.s (Wk.s (Wk.s (Wk.s (Wk.s (Wk.s (Wk.s (Wk.s (Wk.s Wk.nil))))))))))))))) fun s64 =>
  (js_cons (j1_setF 7 (jf_lst jl_nil) nd_law) fun a72 =>
  (js_cons (j1_forP (Lf := fun (s77 : (List Tx)) => [.im (rp K p0), .im (rp K a1), .im (rp K a6), .im (rp K a21), .im (rp K a26), .mu (ctL K s64), .im (rp K a52), .mu (ctL K s77), .no, .no, .no, .no, .no]) (ji_list (je_bin op_catQ ro_catL (je_ixM 5 je_int) (je_ixM 5 je_int))) (jg_name 8 (fun _ => nd_law)) (Wk.s (Wk.s (Wk.s (Wk.s (Wk.s (Wk.s (Wk.s (Wk.s (Wk.s (Wk.s (Wk.s (Wk.s (Wk.s Wk.nil))))))))))))) (fun F82 s77 e78 => (js_cons (j1_append 7 (je_call2 (ok__law_written T) (hr.mono (by decide)) pasF (je_var 8 rfl) (je_bin op_add ro_add (je_bin op_fdiv ro_div (je_var 1 rfl) je_int) (je_bin op_mul ro_mul je_int (je_lenM 7 T.n_len))))) fun a83 =>
  (js_cons (j1_if (Lf := fun (s103 : (List Tx)) => [.im (rp K p0), .im (rp K a1), .im (rp K a6), .im (rp K a21), .im (rp K a26), .mu (ctL K s64), .im (rp K a52), .mu (ctL K s103), .im (rp K e78), .no, .no, .no, .no]) (jt_cmp op_eq ro_eqI (je_bin op_mod ro_mod (je_bin op_add ro_add (je_bin op_fdiv ro_div (je_var 1 rfl) je_int) (je_lenM 7 T.n_len)) je_int) je_int) (js_cons (j1_append 7 (je_bin op_add_str ro_addT je_str (je_slS (je_var 8 rfl) jo_no (jo_at je_int)))) fun a104 =>
  (js_nilP (Wk.s (Wk.s (Wk.s (Wk.s (Wk.s (Wk.s (Wk.s (Wk.s (Wk.s (Wk.s (Wk.s (Wk.s (Wk.s Wk.nil))))))))))))))) (js_nilP (Wk.s (Wk.s (Wk.s (Wk.s (Wk.s (Wk.s (Wk.s (Wk.s (Wk.s (Wk.s (Wk.s (Wk.s (Wk.s Wk.nil))))))))))))))) fun s103 =>
  (js_nilP (Wk.s (Wk.s (Wk.s (Wk.s (Wk.s (Wk.s (Wk.s (Wk.s (Wk.n (Wk.s (Wk.s (Wk.s (Wk.s Wk.nil))))))))))))))))) pasO) fun s77 =>
  (js_frz 7 (js_cons (j1_set 9 (je_call1 (ok_read_book T) (hr.mono (by decide)) pasF (je_m1 PySem.F.slot_str_join PySem.F.type_str_join mt_join rm_join je_str (je_var 7 rfl))) nd_law) fun a113 =>
  (js_cons (j1_set 10 (je_call1 (ok_read_book T) (hr.mono (by decide)) pasF (je_var 6 rfl)) nd_law) fun a117 =>
  (js_cons (j1_set 11 (je_call1 (ok_book_text T) (hr.mono (by decide)) pasF (je_var 9 rfl)) nd_law) fun a119 =>
  (js_if1 pi_rt (jw_jt (jw_or (jt_not (jt_val (je_isiB (tn := "str") tyx_str (by decide +kernel) T.n_isinstance T.n_str bt_str (je_var 11 rfl)))) (jw_or (jt_cmp op_ne ro_neT (je_var 11 rfl) (je_var 6 rfl)) (jw_or1 (jt_cmp op_ne ro_neT (je_call1 (ok_book_text T) (hr.mono (by decide)) pasF (je_var 10 rfl)) (je_var 6 rfl)))))) (js_ret je_bl)
  (js_ret (je_and (je_cmp op_eq ro_eqT (je_call1 (ok_book_text T) (hr.mono (by decide)) pasF (je_call1 (ok_read_book T) (hr.mono (by decide)) pasF (je_var 11 rfl))) (je_var 6 rfl)) (je_one (je_cmp op_eq ro_eqT (je_call1 (ok_book_text T) (hr.mono (by decide)) pasF (je_var 9 rfl)) (je_var 6 rfl))))))))) hown)))))))))))
end Q

set_option Elab.async false
set_option linter.all false
set_option maxRecDepth 100000
set_option maxHeartbeats 2000000
namespace Q
open PySem L2 G TL
theorem tup_b {α β : Type} {x : List α} {f : Tup α → M β} : ((pure x : M (Tup α)) >>= f) = f x := rfl
def small : Tx := tx "abcdefghijklmnopqrstuvwxyz"
def great : Tx := tx "ABCDEFGHIJKLMNOPQRSTUVWXYZ"
def figs : Tx := tx "0123456789"
def alnum : Tx := tx "abcdefghijklmnopqrstuvwxyz0123456789ABCDEFGHIJKLMNOPQRSTUVWXYZ"
def isSign (c : Nat) : Bool := decide (c ∈ small) || decide (c ∈ great) || decide (c ∈ figs)
def isNm (x : Tx) : Bool := decide (1 ≤ x.length) && decide (x.length ≤ 12) && x.all isSign
def sg (p : Nat → Bool) (s : Tx) : Bool := match s with
  | [c] => p c
  | _ => false
theorem any_signs (x : Tx) (p : Nat → Bool) : (signs x).any (sg p) = x.any p := by
  unfold signs
  rw [List.any_map]
  rfl
theorem mem_signs {x s : Tx} (h : s ∈ signs x) : ∃ c, s = [c] ∧ c ∈ x := by
  obtain ⟨c, hc, rfl⟩ := List.mem_map.mp h
  exact ⟨c, rfl, hc⟩
theorem any_not (x : Tx) (p : Nat → Bool) : (x.any fun c => !p c) = !(x.all p) := by
  rw [List.any_eq_not_all_not]
  congr 2
  funext c
  rw [Bool.not_not]
theorem is_name_eq {x : Tx} (hz : x.length ≤ SZ) : m_is_name x = .ok (isNm x) := by
  unfold m_is_name isNm
  simp only [pure_bind, lenT_ok hz]
  by_cases h1 : 1 ≤ x.length
  · by_cases h2 : x.length ≤ 12
    · have i1 : (1 : Int) ≤ (x.length : Int) := by omega
      have i2 : (x.length : Int) ≤ 12 := by omega
      simp only [i1, i2, h1, h2, decide_true, if_true, pure_bind, Bool.not_true, Bool.false_eq_true, if_false, Bool.true_and]
      rw [forT_search (p := sg fun c => !isSign c) (r := false)]
      · rw [any_signs, any_not]
        cases x.all isSign <;> rfl
      · intro s hs
        obtain ⟨c, rfl, _⟩ := mem_signs hs
        simp only [inS_one, pure_bind, sg, isSign, small, great, figs]
        by_cases a1 : c ∈ tx "abcdefghijklmnopqrstuvwxyz" <;> by_cases a2 : c ∈ tx "ABCDEFGHIJKLMNOPQRSTUVWXYZ" <;> by_cases a3 : c ∈ tx "0123456789" <;> simp [a1, a2, a3] <;> rfl
    · have i1 : (1 : Int) ≤ (x.length : Int) := by omega
      have i2 : ¬ (x.length : Int) ≤ 12 := by omega
      simp only [i1, i2, h1, h2, decide_true, decide_false, if_true, pure_bind, Bool.not_false, Bool.true_and, Bool.false_and]
      rfl
  · have i1 : ¬ (1 : Int) ≤ (x.length : Int) := by omega
    simp only [i1, h1, decide_false, Bool.false_eq_true, if_false, pure_bind, Bool.not_false, if_true, Bool.false_and]
    rfl
theorem alnum_mem (c : Nat) : decide (c ∈ alnum) = isSign c := by
  have e : alnum = small ++ (figs ++ great) := by decide +kernel
  unfold isSign
  rw [e]
  by_cases a1 : c ∈ small <;> by_cases a2 : c ∈ great <;> by_cases a3 : c ∈ figs <;> simp [a1, a2, a3]
theorem sign_of_alnum {c : Nat} (h : c ∈ alnum) : isSign c = true := by rw [← alnum_mem]; exact decide_eq_true h
theorem alnum_len : alnum.length = 62 := by decide +kernel
theorem cell_ok (ns : List Int) (i : Int) (h : 0 ≤ i) : Okp (m__law_cell_at ns i) fun _ => True := by
  unfold m__law_cell_at
  simp only [pure_bind]
  by_cases hi : i < (ns.length : Int)
  · simp only [hi, decide_true, if_true]
    obtain ⟨a, e, _⟩ := atL_ok (xs := ns) h hi
    exact ⟨a, e, trivial⟩
  · simp only [hi, decide_false, Bool.false_eq_true, if_false]
    exact ⟨0, rfl, trivial⟩
theorem mix_ok (x k : Int) (h0 : 0 ≤ k) (h1 : k ≤ 1000) : Okp (m__law_mix x k) fun y => 0 ≤ y ∧ y < 999983 := by
  unfold m__law_mix
  simp only [pure_bind, modI_ok (show (0 : Int) < 7 by decide)]
  obtain ⟨a, e, ha⟩ := atL_ok (xs := ([48271, 69621, 16807, 40692, 30269, 62089, 45991] : List Int)) (i := k % 7) (by omega) (by show k % 7 < 7; omega)
  simp only [e, okb, pure_bind, modI_ok (show (0 : Int) < 1000003 by decide)]
  simp only [mulI_l (show (-(2 ^ 64) : Int) < 31 by decide) (show (31 : Int) < 2 ^ 64 by decide), pure_bind, mulI_r (show (-(2 ^ 64) : Int) < a by simp at ha; omega) (show a < (2 ^ 64 : Int) by simp at ha; omega), modI_ok (show (0 : Int) < 999983 by decide)]
  exact ⟨_, rfl, by omega, by omega⟩
theorem joinL_mem (s : Tx) : ∀ (xs : List Tx) {c : Nat}, c ∈ joinL s xs → c ∈ s ∨ ∃ x ∈ xs, c ∈ x
  | [], c, h => by cases h
  | [x], c, h => .inr ⟨x, List.mem_cons_self .., h⟩
  | x :: y :: r, c, h => by
    have e : joinL s (x :: y :: r) = x ++ (s ++ joinL s (y :: r)) := rfl
    rw [e, List.mem_append, List.mem_append] at h
    rcases h with h | h | h
    · exact .inr ⟨x, List.mem_cons_self .., h⟩
    · exact .inl h
    · rcases joinL_mem s (y :: r) h with h | ⟨z, hz, h⟩
      · exact .inl h
      · exact .inr ⟨z, List.mem_cons_of_mem _ hz, h⟩
theorem cut_mem {α : Type} {xs : List α} {lo hi : Option Int} {c : α} (h : c ∈ cut xs lo hi) : c ∈ xs := List.mem_of_mem_drop (List.mem_of_mem_take h)
theorem cutT_ok {x : Tx} {lo hi : Option Int} (h : x.length ≤ SZ) : cutT x lo hi = .ok (cut x lo hi) := by unfold cutT; rw [chk_b h]; rfl
/-- a name of the law's: its first sign from the firsts -/
def Nm (firsts y : Tx) : Prop := ∃ c r, y = c :: r ∧ c ∈ firsts ∧ r.length ≤ 11 ∧ ∀ d ∈ r, isSign d = true
theorem Nm.name {f y : Tx} (hf : ∀ c ∈ f, isSign c = true) (h : Nm f y) : isNm y = true := by
  obtain ⟨c, r, rfl, h1, h2, h3⟩ := h
  unfold isNm
  rw [List.all_cons, hf c h1, List.all_eq_true.mpr h3, List.length_cons, decide_eq_true (by omega), decide_eq_true (by omega)]
  rfl
theorem at_alnum {i : Int} (h0 : 0 ≤ i) (h1 : i < 62) : Okp (atT alnum i) fun y => ∃ c, y = [c] ∧ isSign c = true := by
  obtain ⟨c, e, e2⟩ := atT_ok (x := alnum) (i := i) h0 (by rw [alnum_len]; exact h1) (by rw [alnum_len, SZ_val]; decide)
  exact ⟨[c], e, c, rfl, sign_of_alnum (List.mem_of_getElem? e2)⟩
theorem names_ok (x n : Int) (f : Tx) (h0 : 0 ≤ n) (h1 : n ≤ 1000) (hf : 0 < f.length) (hf2 : f.length ≤ 1000) : Okp (m__law_names x n f) fun xs => xs.length = n.toNat ∧ ∀ y ∈ xs, Nm f y := by
  have hfz : f.length ≤ SZ := by rw [SZ_val]; omega
  have first : ∀ i : Int, 0 ≤ i → i < f.length → Okp (atT f i) fun y => ∃ c, y = [c] ∧ c ∈ f := fun i i0 i1 => by
    obtain ⟨c, e, e2⟩ := atT_ok (x := f) (i := i) i0 i1 hfz
    exact ⟨[c], e, c, rfl, List.mem_of_getElem? e2⟩
  unfold m__law_names
  rw [show tx "abcdefghijklmnopqrstuvwxyz0123456789ABCDEFGHIJKLMNOPQRSTUVWXYZ" = alnum from rfl]
  simp only [pure_bind]
  refine Okp.bind (mix_ok x 0 (by decide) (by decide)) fun a ha => ?_
  simp only [divI_ok (show (0 : Int) < 5 by decide) (show (5 : Int) < 1073741824 by decide), divI_ok (show (0 : Int) < 3 by decide) (show (3 : Int) < 1073741824 by decide), divI_ok (show (0 : Int) < 33 by decide) (show (33 : Int) < 1073741824 by decide), divI_ok (show (0 : Int) < 7 by decide) (show (7 : Int) < 1073741824 by decide),
    lenT_ok hfz, pure_bind, modI_ok (show (0 : Int) < (f.length : Int) by omega), modI_ok (show (0 : Int) < 3 by decide), modI_ok (show (0 : Int) < 12 by decide), modI_ok (show (0 : Int) < 11 by decide), modI_ok (show (0 : Int) < 62 by decide), range1_ok (show -(2 ^ 62) ≤ (11 : Int) by decide) (show (11 : Int) < 2 ^ 62 by decide), okb, range1_ok (show -(2 ^ 62) ≤ n by omega) (show n < 2 ^ 62 by omega)]
  have s0 : 0 ≤ a / 5 % (f.length : Int) := Int.emod_nonneg _ (by omega)
  have s1 : a / 5 % (f.length : Int) < f.length := Int.emod_lt_of_pos _ (by omega)
  refine Okp.bind (P := fun t : Tx => t.length ≤ 11 ∧ ∀ c ∈ t, isSign c = true) ?_ fun t ⟨t1, t2⟩ => ?_
  · refine Okp.bind (lc_ok (Q := fun y : Tx => ∃ c, y = [c] ∧ isSign c = true) (by rw [rangeL_len, SZ_val]; decide) fun e he => ?_) fun ys ⟨hl, hy⟩ => ?_
    · have hb := mem_rangeL he
      rw [divI_ok (show (0 : Int) < e + 1 by omega) (show e + 1 < 1073741824 by omega), pure_bind, mulI_l (show (-(2 ^ 64) : Int) < e by omega) (show e < 2 ^ 64 by omega), pure_bind]
      exact at_alnum (by omega) (by omega)
    · rw [rangeL_len] at hl
      have l1 : ∀ y ∈ ys, y.length ≤ 1 := fun y h => by obtain ⟨c, rfl, _⟩ := hy y h; exact Nat.le_refl _
      have e0 : (tx "").length = 0 := by decide +kernel
      have s2 := sum_le (k := 1) l1
      have s3 := joinL_len (tx "") ys
      rw [e0] at s3
      have hl' : ys.length = 11 := hl
      refine ⟨_, joinM_ok (by rw [e0]; omega), by omega, fun c hc => ?_⟩
      rcases joinL_mem _ _ hc with h | ⟨y, h1, h2⟩
      · exact absurd h (by rw [show tx "" = [] from rfl]; exact List.not_mem_nil)
      · obtain ⟨d, rfl, hd⟩ := hy y h1
        rw [List.mem_singleton.mp h2]; exact hd
  have tz : t.length ≤ SZ := by rw [SZ_val]; omega
  have mk : ∀ (i lo hi : Option Int) (j : Int), 0 ≤ j → j < f.length → Okp (atT f j >>= fun x => cutT t lo hi >>= fun y => addT x y) (fun y => Nm f y) := fun i lo hi j j0 j1 => by
    refine Okp.bind (first j j0 j1) fun y ⟨c, e, hc⟩ => ?_
    subst e
    have hl := cut_len t lo hi
    rw [cutT_ok tz, okb, addT_ok (by show 1 + _ ≤ SZ; rw [SZ_val]; omega)]
    exact ⟨_, rfl, c, cut t lo hi, rfl, hc, by omega, fun d hd => t2 d (cut_mem hd)⟩
  by_cases h3 : a % 3 = 0
  · simp only [h3, decide_true, if_true]
    refine Okp.imp (lc_ok (Q := Nm f) (by rw [rangeL_len, SZ_val]; omega) fun e he => ?_) fun ys ⟨a, b⟩ => ⟨by rw [a, rangeL_len], b⟩
    exact mk none _ _ _ s0 s1
  simp only [h3, decide_false, Bool.false_eq_true, if_false]
  by_cases h4 : a % 3 = 1
  · simp only [h4, decide_true, if_true]
    refine Okp.imp (lc_ok (Q := Nm f) (by rw [rangeL_len, SZ_val]; omega) fun e he => ?_) fun ys ⟨a, b⟩ => ⟨by rw [a, rangeL_len], b⟩
    exact mk none _ _ _ (Int.emod_nonneg _ (by omega)) (Int.emod_lt_of_pos _ (by omega))
  simp only [h4, decide_false, Bool.false_eq_true, if_false, modI_ok (show (0 : Int) < a / 3 % 11 + 1 by omega), pure_bind]
  refine Okp.bind (lc_ok (Q := fun y : Tx => ∃ c, y = [c] ∧ isSign c = true) (by rw [rangeL_len, SZ_val]; omega) fun e he => ?_) fun ys ⟨hl, hy⟩ => ?_
  · exact at_alnum (by omega) (by omega)
  rw [rangeL_len] at hl
  refine Okp.imp (lc_ok (Q := Nm f) (by rw [SZ_val]; omega) fun e he => ?_) fun zs ⟨a, b⟩ => ⟨by rw [a, hl], b⟩
  obtain ⟨d, rfl, hd⟩ := hy e he
  simp only [bind_assoc]
  refine Okp.bind (first _ s0 s1) fun y ⟨c, e, hc⟩ => ?_
  subst e
  have g0 : 0 ≤ a / 33 % (a / 3 % 11 + 1) := Int.emod_nonneg _ (by omega)
  have g1 : a / 33 % (a / 3 % 11 + 1) < a / 3 % 11 + 1 := Int.emod_lt_of_pos _ (by omega)
  have two : ∀ p q : Int, 0 ≤ p → p ≤ q → q ≤ 10 → (cut t none (some p)).length + (cut t (some p) (some q)).length ≤ 10 := fun p q p0 p1 p2 => by
    unfold cut
    rw [List.length_take, List.length_drop, List.length_take, List.length_drop]
    show min (HT.sIx _ _ (some p) - 0) _ + min (HT.sIx _ _ (some q) - HT.sIx _ _ (some p)) _ ≤ 10
    have z : ∀ (d : Nat) (v : Int), 0 ≤ v → HT.sIx t.length d (some v) = min v.toNat t.length := fun d v hv => by
      show (if v < 0 then _ else _) = _
      rw [if_neg (by omega)]
    rw [z _ p p0, z _ q (by omega), z _ p p0]
    omega
  have hl2 := two (a / 33 % (a / 3 % 11 + 1)) (a / 3 % 11) g0 (by omega) (by omega)
  rw [cutT_ok tz, okb, addT_ok (by show 1 + _ ≤ SZ; rw [SZ_val]; omega), pure_bind, addT_ok (by simp only [List.length_append, List.length_cons, List.length_nil]; rw [SZ_val]; omega), pure_bind, cutT_ok tz, okb, addT_ok (by simp only [List.length_append, List.length_cons, List.length_nil]; rw [SZ_val]; omega)]
  refine ⟨_, rfl, c, cut t none (some (a / 33 % (a / 3 % 11 + 1))) ++ [d] ++ cut t (some (a / 33 % (a / 3 % 11 + 1))) (some (a / 3 % 11)), by simp, hc, ?_, fun u hu => ?_⟩
  · simp only [List.length_append, List.length_cons, List.length_nil]; omega
  · simp only [List.mem_append, List.mem_singleton] at hu
    rcases hu with (h | h) | h
    · exact t2 u (cut_mem h)
    · rw [h]; exact hd
    · exact t2 u (cut_mem h)
/-! pieces -/
def marks : Tx := tx "(),;:=-"
def isMark (c : Nat) : Bool := decide (c ∈ marks)
def flush (f : List Tx) (n : Tx) : List Tx := if n = [] then f else f ++ [n]
/-- one sign of a line -/
def stp (f : List Tx) (n : Tx) (c : Nat) : Option (List Tx × Tx) :=
  if isSign c = true then some (f, n ++ [c]) else if isMark c = true then some (flush f n ++ [[c]], []) else if c = 32 then some (flush f n, []) else none
def prun (f : List Tx) (n : Tx) : Tx → Option (List Tx × Tx)
  | [] => some (f, n)
  | c :: r => match stp f n c with
    | some (f', n') => prun f' n' r
    | none => none
def pcs (t : Tx) : Option (List Tx) := (prun [] [] t).map fun s => flush s.1 s.2
theorem flush_len (f : List Tx) (n : Tx) : (flush f n).length ≤ f.length + n.length := by
  unfold flush
  by_cases h : n = []
  · rw [if_pos h]; omega
  · rw [if_neg h, List.length_append, List.length_singleton]
    have : 0 < n.length := List.length_pos_iff.mpr h
    omega
theorem stp_len {f f' : List Tx} {n n' : Tx} {c : Nat} (h : stp f n c = some (f', n')) : f'.length + n'.length ≤ f.length + n.length + 1 := by
  unfold stp at h
  have fl := flush_len f n
  by_cases h1 : isSign c = true
  · rw [if_pos h1] at h; cases h; rw [List.length_append, List.length_singleton]; omega
  · rw [if_neg h1] at h
    by_cases h2 : isMark c = true
    · rw [if_pos h2] at h; cases h; rw [List.length_append, List.length_singleton, List.length_nil]; omega
    · rw [if_neg h2] at h
      by_cases h3 : c = 32
      · rw [if_pos h3] at h; cases h; rw [List.length_nil]; omega
      · rw [if_neg h3] at h; cases h
theorem tx_nil : tx "" = [] := rfl
theorem pieces_eq {t : Tx} (hz : t.length < SZ) : m_pieces t = match pcs t with
    | some xs => .ok xs
    | none => raise "NoLine" := by
  have key : ∀ (r : Tx) (f : List Tx) (n : Tx) (g : List Tx × Tx → Tx → M (Tl (List Tx × Tx) No)), (∀ (f : List Tx) (n : Tx) (c : Nat), f.length + n.length < SZ → g (f, n) [c] = match stp f n c with
      | some s => .ok (.ct s)
      | none => raise "NoLine") → f.length + n.length + r.length < SZ → forB g (f, n) (signs r) = match prun f n r with
      | some s => .ok s
      | none => raise "NoLine" := by
    intro r
    induction r with
    | nil => intro f n g _ _; rfl
    | cons c r ih =>
      intro f n g hg hl
      rw [List.length_cons] at hl
      show (g (f, n) [c] >>= _) = _
      rw [hg f n c (by omega)]
      unfold prun
      cases h : stp f n c with
      | none => rfl
      | some s =>
        obtain ⟨f', n'⟩ := s
        have := stp_len h
        exact ih f' n' g hg (by omega)
  unfold m_pieces
  simp only [pure_bind]
  rw [tx_nil, key t [] [] _ _ (by simpa using hz)]
  · unfold pcs
    cases h : prun [] [] t with
    | none => rfl
    | some s =>
      obtain ⟨f, n⟩ := s
      have hb : f.length + n.length ≤ t.length := by
        have gen : ∀ (r : Tx) (f n f' n'), prun f n r = some (f', n') → f'.length + n'.length ≤ f.length + n.length + r.length := by
          intro r
          induction r with
          | nil => intro f n f' n' h; cases h; simp
          | cons c r ih =>
            intro f n f' n' h
            unfold prun at h
            cases h2 : stp f n c with
            | none => rw [h2] at h; cases h
            | some s =>
              rw [h2] at h
              have := stp_len h2
              have := ih _ _ _ _ h
              rw [List.length_cons]; omega
        have := gen _ _ _ _ _ h
        simpa using this
      simp only [okb, bind_pure, Option.map_some]
      unfold flush
      by_cases hn : n = []
      · subst hn; rfl
      · simp only [hn, decide_false, Bool.not_false, if_true, if_false]
        rw [chk_b (by omega)]
        rfl
  · intro f n c hl
    have fl := flush_len f n
    unfold stp
    simp only [inS_one]
    rw [show tx " " = [32] from rfl]
    show (_ : M _) = _
    by_cases h1 : isSign c = true
    · rw [if_pos h1]
      have : (if decide (c ∈ tx "abcdefghijklmnopqrstuvwxyz") = true then (pure true : M Bool) else pure (decide (c ∈ tx "ABCDEFGHIJKLMNOPQRSTUVWXYZ")) >>= fun c16 => if c16 = true then pure true else pure (decide (c ∈ tx "0123456789"))) = pure true := by
        unfold isSign small great figs at h1
        by_cases a1 : c ∈ tx "abcdefghijklmnopqrstuvwxyz" <;> by_cases a2 : c ∈ tx "ABCDEFGHIJKLMNOPQRSTUVWXYZ" <;> by_cases a3 : c ∈ tx "0123456789" <;> simp [a1, a2, a3] at h1 ⊢
      simp only [pure_bind] at this ⊢
      rw [this, pure_bind, if_pos rfl, addT_ok (by rw [List.length_singleton]; omega)]
      rfl
    · rw [if_neg h1]
      have : (if decide (c ∈ tx "abcdefghijklmnopqrstuvwxyz") = true then (pure true : M Bool) else pure (decide (c ∈ tx "ABCDEFGHIJKLMNOPQRSTUVWXYZ")) >>= fun c16 => if c16 = true then pure true else pure (decide (c ∈ tx "0123456789"))) = pure false := by
        unfold isSign small great figs at h1
        by_cases a1 : c ∈ tx "abcdefghijklmnopqrstuvwxyz" <;> by_cases a2 : c ∈ tx "ABCDEFGHIJKLMNOPQRSTUVWXYZ" <;> by_cases a3 : c ∈ tx "0123456789" <;> simp [a1, a2, a3] at h1 ⊢
      simp only [pure_bind] at this ⊢
      rw [this, pure_bind, if_neg Bool.false_ne_true]
      have fs : (if (!decide (n = ([] : Tx))) = true then (chk (f.length < SZ) >>= fun _u27 => pure n) >>= fun a25 => pure ((f ++ [a25]), ([] : Tx)) else (pure (f, n) : M (List Tx × Tx))) = .ok (flush f n, []) := by
        unfold flush
        by_cases hn : n = []
        · subst hn; rfl
        · simp only [hn, decide_false, Bool.not_false, if_true, if_false]
          rw [chk_b (by omega)]; rfl
      rw [fs, okb]
      show (if isMark c = true then _ else _) = _
      by_cases h2 : isMark c = true
      · rw [if_pos h2, if_pos h2, chk_b (by show (flush f n).length < SZ; omega)]
        rfl
      · rw [if_neg h2, if_neg h2]
        by_cases h3 : c = 32
        · subst h3; rfl
        · have h4 : ¬ ([c] : Tx) = [32] := fun z => h3 (by injection z)
          simp only [h3, h4, decide_false, Bool.not_false, if_true, if_false]

/-! a fact's parse -/
def hd (l : List Tx) : Tx := l.headD []
def isKd (x : Tx) : Bool := isNm x && decide (x.headD 0 ∈ small)
/-- names parted by commas, up to a bracket -/
def pA1 (acc : List Tx) : List Tx → Option (List Tx × List Tx)
  | nm :: sgn :: r => if isNm nm = true then (if sgn = [41] then some (acc ++ [nm], r) else if sgn = [44] then pA1 (acc ++ [nm]) r else none) else none
  | _ => none
def pA (l : List Tx) : Option (List Tx × List Tx) := if hd l = [41] then some ([], l.tail) else pA1 [] l
def pF (l : List Tx) : Option ((Tx × List Tx) × List Tx) :=
  if isKd (hd l) = true then (if hd l.tail = [40] then (pA l.tail.tail).map fun s => ((hd l, s.1), s.2) else some ((hd l, []), l.tail)) else none
def tks (xs : List Tx) : Prop := xs.length < SZ ∧ ∀ x ∈ xs, x.length ≤ SZ
theorem piece_eq {xs : List Tx} {i : Nat} : m_piece_at xs (i : Int) = .ok (hd (xs.drop i)) := by
  unfold m_piece_at hd
  simp only [pure_bind]
  by_cases h : (i : Int) < (xs.length : Int)
  · simp only [h, decide_true, if_true]
    have h' : i < xs.length := by omega
    unfold atL atI
    rw [ixN_nat (by omega) h, Int.toNat_natCast]
    show ofO xs[i]? = _
    rw [List.getElem?_eq_getElem h', List.drop_eq_getElem_cons h']
    rfl
  · simp only [h, decide_false, Bool.false_eq_true, if_false]
    rw [List.drop_eq_nil_of_le (by omega)]
    rfl
theorem hd_len {xs : List Tx} (h : tks xs) (i : Nat) : (hd (xs.drop i)).length ≤ SZ := by
  unfold hd
  cases e : xs.drop i with
  | nil => exact Nat.zero_le _
  | cons a r => exact h.2 a (List.mem_of_mem_drop (i := i) (by rw [e]; exact List.mem_cons_self ..))
theorem is_kind_eq {x : Tx} (hz : x.length ≤ SZ) : m_is_kind x = .ok (isKd x) := by
  unfold m_is_kind isKd
  simp only [pure_bind, is_name_eq hz, okb]
  cases h : isNm x with
  | false => rfl
  | true =>
    match x, h with
    | [], h => exact absurd h (by decide)
    | c :: r, h =>
      obtain ⟨d, e, e2⟩ := atT_ok (x := c :: r) (i := 0) (by decide) (by rw [List.length_cons]; omega) hz
      have : d = c := by simpa using e2.symm
      subst this
      rw [if_pos rfl, e, pure_bind]
      rfl
theorem nil_notNm : isNm [] = false := by decide
theorem tx_close : tx ")" = [41] := rfl
theorem tx_comma : tx "," = [44] := rfl
theorem tx_open : tx "(" = [40] := rfl
theorem hd_tail (l : List Tx) (i : Nat) : hd (l.drop (i + 1)) = hd (l.drop i).tail := by rw [List.tail_drop]
theorem args_loop {xs : List Tx} (hx : tks xs) {mr : Int × List Tx → M (Tup Tx × Int)} : ∀ (fuel i : Nat) (acc : List Tx), acc.length + xs.length < SZ + i → xs.length < fuel + i → i ≤ xs.length → ∀ g : Int × List Tx → M (Tl (Int × List Tx) (Tup Tx × Int)), (∀ (i : Nat) (acc : List Tx), acc.length < SZ → g ((i : Int), acc) =
      if isNm (hd (xs.drop i)) = true then (if hd (xs.drop (i + 1)) = [41] then .ok (.rt (acc ++ [hd (xs.drop i)], ((i + 2 : Nat) : Int))) else if hd (xs.drop (i + 1)) = [44] then .ok (.ct (((i + 2 : Nat) : Int), acc ++ [hd (xs.drop i)])) else raise "NoLine") else raise "NoLine") →
    (whT (fun _ => (pure true : M Bool)) g fuel ((i : Int), acc) >>= thenT mr id) = match pA1 acc (xs.drop i) with
      | some (args, rest) => .ok (args, ((xs.length - rest.length : Nat) : Int))
      | none => raise "NoLine" := by
  intro fuel
  induction fuel with
  | zero => intro i acc h1 h2 h3; omega
  | succ fuel ih =>
    intro i acc h1 h2 h3 g hg
    by_cases hi : i = xs.length
    · subst hi
      unfold whT
      rw [pure_bind, if_pos rfl]
      rw [hg _ acc (by omega), List.drop_length]
      have : isNm (hd []) = false := nil_notNm
      rw [this]
      rfl
    · have hl : acc.length < SZ := by omega
      unfold whT
      rw [pure_bind, if_pos rfl, hg i acc hl]
      have e : xs.drop i = xs[i]'(by omega) :: xs.drop (i + 1) := List.drop_eq_getElem_cons (by omega)
      cases e1 : xs.drop (i + 1) with
      | nil =>
        rw [e, e1]
        show _ = raise "NoLine"
        by_cases hn : isNm (hd [xs[i]'(by omega)]) = true
        · rw [if_pos hn, if_neg (by decide), if_neg (by decide)]; rfl
        · rw [if_neg hn]; rfl
      | cons sgn r =>
        have e2 : xs.drop (i + 2) = r := by rw [← List.drop_drop (i := 1) (j := i + 1), e1]; rfl
        have h5 : i + 2 ≤ xs.length := by
          have := congrArg List.length e1
          rw [List.length_drop, List.length_cons] at this; omega
        rw [e, e1]
        unfold pA1
        show ((if isNm (xs[i]'(by omega)) = true then (if sgn = [41] then _ else if sgn = [44] then _ else _) else _) >>= _) >>= _ = _
        by_cases hn : isNm (xs[i]'(by omega)) = true
        · rw [if_pos hn, if_pos hn]
          by_cases c1 : sgn = [41]
          · rw [if_pos c1, if_pos c1]
            have : xs.length - r.length = i + 2 := by rw [← e2, List.length_drop]; omega
            show Except.ok _ = Except.ok _
            rw [this]
            rfl
          · rw [if_neg c1, if_neg c1]
            by_cases c2 : sgn = [44]
            · rw [if_pos c2, if_pos c2]
              show (whT _ g fuel (((i + 2 : Nat) : Int), acc ++ [xs[i]'(by omega)]) >>= _) = _
              rw [ih (i + 2) (acc ++ [xs[i]'(by omega)]) (by rw [List.length_append, List.length_singleton]; omega) (by omega) h5 g hg, e2]
            · rw [if_neg c2, if_neg c2]; rfl
        · rw [if_neg hn, if_neg hn]; rfl
theorem take_arguments_eq {xs : List Tx} (hx : tks xs) {i : Nat} (hi : i ≤ xs.length) : m_take_arguments xs (i : Int) = match pA (xs.drop i) with
    | some (args, rest) => .ok (args, (((if hd (xs.drop i) = [41] then i + 1 else xs.length - rest.length) : Nat) : Int))
    | none => raise "NoLine" := by
  unfold m_take_arguments pA
  simp only [pure_bind, piece_eq, okb, tx_close, tx_comma]
  by_cases h : hd (xs.drop i) = [41]
  · simp only [h, decide_true, if_true]
    rfl
  · simp only [h, decide_false, Bool.false_eq_true, if_false]
    refine args_loop hx FUEL i [] (by have := hx.1; simp; omega) (by have := hx.1; rw [SZ_val] at this; show _ < 1000000000000 + i; omega) hi _ fun j acc hl => ?_
    have e1 : ((j : Int) + 1) = ((j + 1 : Nat) : Int) := by omega
    have e2 : ((j : Int) + 2) = ((j + 2 : Nat) : Int) := by omega
    simp only [e1, e2, piece_eq, okb, is_name_eq (hd_len hx j)]
    cases isNm (hd (xs.drop j)) with
    | false => rfl
    | true =>
      simp only [Bool.not_true, Bool.false_eq_true, if_false, if_true]
      rw [chk_b hl, pure_bind]
      by_cases c1 : hd (xs.drop (j + 1)) = [41]
      · simp only [c1, decide_true, if_true]; rfl
      · by_cases c2 : hd (xs.drop (j + 1)) = [44]
        · simp only [c2, decide_true, if_true, Bool.not_true]; rfl
        · simp only [c1, c2, decide_false, Bool.false_eq_true, if_false, Bool.not_false, if_true]
          rfl

theorem pA1_len : ∀ (n : Nat) (l : List Tx), l.length ≤ n → ∀ (acc : List Tx) {a r : List Tx}, pA1 acc l = some (a, r) → r.length < l.length := by
  intro n
  induction n with
  | zero =>
    intro l hl acc a r h
    match l, hl with
    | [], _ => simp [pA1] at h
  | succ n ih =>
    intro l hl acc a r h
    match l with
    | [] => simp [pA1] at h
    | [x] => simp [pA1] at h
    | x :: y :: t =>
      unfold pA1 at h
      by_cases h1 : isNm x = true
      · rw [if_pos h1] at h
        by_cases h2 : y = [41]
        · rw [if_pos h2] at h; cases h; rw [List.length_cons, List.length_cons]; omega
        · rw [if_neg h2] at h
          by_cases h3 : y = [44]
          · rw [if_pos h3] at h
            have := ih t (by rw [List.length_cons, List.length_cons] at hl; omega) _ h
            rw [List.length_cons, List.length_cons]; omega
          · rw [if_neg h3] at h; cases h
      · rw [if_neg h1] at h; cases h
theorem pA_len {l a r : List Tx} (h : pA l = some (a, r)) : r.length < l.length := by
  unfold pA at h
  by_cases h1 : hd l = [41]
  · rw [if_pos h1] at h; cases h
    match l, h1 with
    | [], h1 => cases h1
    | _ :: t, _ => rw [List.tail_cons, List.length_cons]; omega
  · rw [if_neg h1] at h
    exact pA1_len _ l (Nat.le_refl _) [] h
theorem pF_len {l : List Tx} {f : Tx × List Tx} {r : List Tx} (h : pF l = some (f, r)) : r.length < l.length := by
  unfold pF at h
  by_cases h1 : isKd (hd l) = true
  · rw [if_pos h1] at h
    match l, h1 with
    | [], h1 => exact absurd h1 (by decide)
    | x :: t, _ =>
      by_cases h2 : hd (x :: t).tail = [40]
      · rw [if_pos h2] at h
        cases e : pA (x :: t).tail.tail with
        | none => rw [e] at h; cases h
        | some s =>
          rw [e] at h
          obtain ⟨a, r'⟩ := s
          cases h
          have this : r'.length < _ := pA_len e
          rw [List.tail_cons, List.length_tail] at this
          show r'.length < _
          rw [List.length_cons]; omega
      · rw [if_neg h2] at h; cases h
        rw [List.tail_cons, List.length_cons]; omega
  · rw [if_neg h1] at h; cases h
theorem tail_drop' (l : List Tx) (i : Nat) : (l.drop i).tail = l.drop (i + 1) := List.tail_drop
theorem pA_at {xs : List Tx} {i : Nat} {a r : List Tx} (h : pA (xs.drop i) = some (a, r)) : (if hd (xs.drop i) = [41] then i + 1 else xs.length - r.length) = xs.length - r.length := by
  by_cases h1 : hd (xs.drop i) = [41]
  · rw [if_pos h1]
    unfold pA at h
    rw [if_pos h1] at h
    cases h
    rw [tail_drop', List.length_drop]
    have : i < xs.length := by
      rcases Nat.lt_or_ge i xs.length with z | z
      · exact z
      · rw [List.drop_eq_nil_of_le z] at h1; cases h1
    omega
  · rw [if_neg h1]
theorem take_fact_eq {xs : List Tx} (hx : tks xs) {i : Nat} (hi : i ≤ xs.length) : m_take_fact xs (i : Int) = match pF (xs.drop i) with
    | some (f, rest) => .ok ((f.1, f.2), ((xs.length - rest.length : Nat) : Int))
    | none => raise "NoLine" := by
  unfold m_take_fact pF
  have e1 : ((i : Int) + 1) = ((i + 1 : Nat) : Int) := by omega
  have e2 : ((i : Int) + 2) = ((i + 2 : Nat) : Int) := by omega
  simp only [pure_bind, piece_eq, okb, tx_open, e1, e2, is_kind_eq (hd_len hx i), tail_drop']
  cases hk : isKd (hd (xs.drop i)) with
  | false => rfl
  | true =>
    have il : i < xs.length := by
      rcases Nat.lt_or_ge i xs.length with z | z
      · exact z
      · rw [List.drop_eq_nil_of_le z] at hk; exact absurd hk (by decide)
    simp only [Bool.not_true, Bool.false_eq_true, if_false, if_true]
    by_cases h2 : hd (xs.drop (i + 1)) = [40]
    · have il2 : i + 1 < xs.length := by
        rcases Nat.lt_or_ge (i + 1) xs.length with z | z
        · exact z
        · rw [List.drop_eq_nil_of_le z] at h2; cases h2
      simp only [h2, decide_true, Bool.not_true, Bool.false_eq_true, if_false, if_true]
      rw [take_arguments_eq hx (by omega)]
      rw [show i + 1 + 1 = i + 2 from rfl]
      cases e : pA (xs.drop (i + 2)) with
      | none => rfl
      | some s =>
        obtain ⟨a, r⟩ := s
        simp only [Option.map_some, okb]
        rw [pA_at e]
        rfl
    · simp only [h2, decide_false, Bool.not_false, if_true, if_false]
      rw [List.length_drop]
      have : xs.length - (xs.length - (i + 1)) = i + 1 := by omega
      rw [this]
      rfl
/-! text put together from tokens -/
def sp (s : Tx) : Prop := ∀ c ∈ s, c = 32
def nmT (x : Tx) : Prop := x ≠ [] ∧ ∀ c ∈ x, isSign c = true
def mkT (x : Tx) : Prop := ∃ c, x = [c] ∧ isMark c = true ∧ isSign c = false
def alt : Bool → List Tx → Prop
  | _, [] => True
  | b, x :: r => (b = false ∧ nmT x ∧ alt true r) ∨ (mkT x ∧ alt false r)
def weave : List (Tx × Tx) → Tx
  | [] => []
  | (s, t) :: r => s ++ (t ++ weave r)
theorem run_cons (f : List Tx) (n : Tx) (c : Nat) (r : Tx) : prun f n (c :: r) = (stp f n c).bind fun s => prun s.1 s.2 r := by
  show (match stp f n c with
    | some (f', n') => prun f' n' r
    | none => none) = _
  cases stp f n c <;> rfl
theorem run_app (a b : Tx) : ∀ (f : List Tx) (n : Tx), prun f n (a ++ b) = (prun f n a).bind fun s => prun s.1 s.2 b := by
  induction a with
  | nil => intro f n; rfl
  | cons c a ih =>
    intro f n
    rw [List.cons_append, run_cons, run_cons]
    cases stp f n c with
    | none => rfl
    | some s => exact ih s.1 s.2
theorem sp_notSign : isSign 32 = false := by decide +kernel
theorem sp_notMark : isMark 32 = false := by decide +kernel
theorem flush_nil (f : List Tx) : flush f [] = f := rfl
theorem run_sp {s : Tx} (hs : sp s) : ∀ (f : List Tx) (n : Tx), ∃ f' n', prun f n s = some (f', n') ∧ flush f' n' = flush f n ∧ (n = [] → n' = []) := by
  induction s with
  | nil => intro f n; exact ⟨f, n, rfl, rfl, fun h => h⟩
  | cons c s ih =>
    intro f n
    have hc := hs c (List.mem_cons_self ..)
    subst hc
    obtain ⟨f', n', e, e2, e3⟩ := ih (fun c h => hs c (List.mem_cons_of_mem _ h)) (flush f n) []
    refine ⟨f', n', ?_, ?_, fun _ => e3 rfl⟩
    · unfold prun stp
      rw [sp_notSign, sp_notMark]
      exact e
    · rw [e2]; rfl
theorem run_nm {x : Tx} (h : ∀ c ∈ x, isSign c = true) : ∀ (f : List Tx) (n : Tx), prun f n x = some (f, n ++ x) := by
  induction x with
  | nil => intro f n; rw [List.append_nil]; rfl
  | cons c x ih =>
    intro f n
    unfold prun stp
    rw [if_pos (h c (List.mem_cons_self ..))]
    show prun f (n ++ [c]) x = _
    rw [ih (fun c hc => h c (List.mem_cons_of_mem _ hc)), List.append_assoc]
    rfl
theorem run_weave : ∀ (ps : List (Tx × Tx)) (b : Bool) (f : List Tx) (n : Tx), (∀ p ∈ ps, sp p.1) → alt b (ps.map (·.2)) → (n ≠ [] → b = true) → ∃ f' n', prun f n (weave ps) = some (f', n') ∧ flush f' n' = flush f n ++ ps.map (·.2)
  | [], b, f, n, _, _, _ => ⟨f, n, rfl, by simp⟩
  | (s, t) :: r, b, f, n, hs, ha, hn => by
    obtain ⟨f1, n1, e1, e2, e3⟩ := run_sp (hs (s, t) (List.mem_cons_self ..)) f n
    have hs' : ∀ p ∈ r, sp p.1 := fun p hp => hs p (List.mem_cons_of_mem _ hp)
    unfold weave
    rw [run_app, e1, Option.bind_some, run_app]
    rcases ha with ⟨hb, ht, hr⟩ | ⟨⟨c, rfl, hc, hc2⟩, hr⟩
    · have n0 : n = [] := Classical.byContradiction fun z => by rw [hb] at hn; exact Bool.false_ne_true (hn z)
      have n1' := e3 n0
      subst n1'
      rw [run_nm ht.2, Option.bind_some]
      obtain ⟨f', n', g1, g2⟩ := run_weave r true f1 ([] ++ t) hs' hr (fun _ => rfl)
      refine ⟨f', n', g1, ?_⟩
      rw [g2, List.nil_append]
      unfold flush
      rw [if_neg ht.1]
      have : f1 = flush f n := by rw [← e2]; rfl
      rw [this, List.append_assoc]
      rfl
    · have : prun f1 n1 [c] = some (flush f1 n1 ++ [[c]], []) := by
        unfold prun stp
        rw [hc2, hc]
        rfl
      rw [this, Option.bind_some]
      obtain ⟨f', n', g1, g2⟩ := run_weave r false (flush f1 n1 ++ [[c]]) [] hs' hr (fun z => absurd rfl z)
      refine ⟨f', n', g1, ?_⟩
      rw [g2, flush_nil, e2, List.append_assoc]
      rfl
theorem pcs_weave {ps : List (Tx × Tx)} {s : Tx} (hs : ∀ p ∈ ps, sp p.1) (ha : alt false (ps.map (·.2))) (hs2 : sp s) : pcs (weave ps ++ s) = some (ps.map (·.2)) := by
  obtain ⟨f, n, e1, e2⟩ := run_weave ps false [] [] hs ha (fun z => absurd rfl z)
  obtain ⟨f', n', e3, e4, _⟩ := run_sp hs2 f n
  unfold pcs
  rw [run_app, e1, Option.bind_some, e3, Option.map_some, e4, e2]
  rfl
theorem weave_app : ∀ (a b : List (Tx × Tx)), weave (a ++ b) = weave a ++ weave b
  | [], b => rfl
  | (s, t) :: r, b => by
    show s ++ (t ++ weave (r ++ b)) = (s ++ (t ++ weave r)) ++ weave b
    rw [weave_app r b, List.append_assoc, List.append_assoc]
/-- no blanks between -/
theorem pcs_flat {xs : List Tx} (ha : alt false xs) : pcs xs.flatten = some xs := by
  have e : ∀ ys : List Tx, weave (ys.map fun t => ([], t)) = ys.flatten := by
    intro ys
    induction ys with
    | nil => rfl
    | cons y ys ih => show [] ++ (y ++ weave _) = _; rw [ih]; rfl
  have m : (xs.map fun t : Tx => (([] : Tx), t)).map (·.2) = xs := by rw [List.map_map]; exact List.map_id' xs
  have := pcs_weave (ps := xs.map fun t => ([], t)) (s := []) (fun p hp => by
    obtain ⟨t, _, rfl⟩ := List.mem_map.mp hp
    intro c hc; cases hc) (by rw [m]; exact ha) (fun c hc => by cases hc)
  rw [m, List.append_nil, e] at this
  exact this
/-- names, parted by commas -/
def commas : List Tx → List Tx
  | [] => []
  | a :: r => a :: r.flatMap fun x => [[44], x]
theorem commas_snoc (xs : List Tx) (y : Tx) : commas (xs ++ [y]) = commas xs ++ (if xs = [] then [y] else [[44], y]) := by
  cases xs with
  | nil => rfl
  | cons a r =>
    rw [if_neg (fun z => by cases z)]
    show a :: ((r ++ [y]).flatMap fun x => [[44], x]) = (a :: r.flatMap fun x => [[44], x]) ++ [[44], y]
    rw [List.flatMap_append]
    rfl
theorem commas_join : ∀ (a : Tx) (r : List Tx), joinL [44] (a :: r) = (commas (a :: r)).flatten
  | a, [] => by show a = (a :: []).flatten; simp
  | a, b :: r => by
    have ih := commas_join b r
    have e : joinL [44] (a :: b :: r) = a ++ ([44] ++ joinL [44] (b :: r)) := rfl
    rw [e, ih]
    show _ = (a :: [44] :: b :: r.flatMap fun x => [[44], x]).flatten
    rw [List.flatten_cons, List.flatten_cons]
    rfl
/-- a fact's tokens -/
def toks (t : Tx) (args : List Tx) (br : Bool) : List Tx := if args = [] ∧ br = false then [t] else t :: [40] :: (commas args ++ [[41]])
theorem nmT_of {x : Tx} (h : isNm x = true) : nmT x := by
  unfold isNm at h
  simp only [Bool.and_eq_true, decide_eq_true_eq, List.all_eq_true] at h
  refine ⟨fun z => ?_, h.2⟩
  rw [z] at h
  exact absurd h.1.1 (by decide)
theorem mk_close : mkT [41] := ⟨41, rfl, by decide +kernel, by decide +kernel⟩
theorem mk_open : mkT [40] := ⟨40, rfl, by decide +kernel, by decide +kernel⟩
theorem mk_comma : mkT [44] := ⟨44, rfl, by decide +kernel, by decide +kernel⟩
theorem alt_commas {k : List Tx} (hk : ∀ b, alt b ([41] :: k)) : ∀ (r : List Tx) (a : Tx), nmT a → (∀ x ∈ r, nmT x) → alt false (commas (a :: r) ++ ([41] :: k))
  | [], a, ha, _ => .inl ⟨rfl, ha, hk true⟩
  | b :: r, a, ha, hr => .inl ⟨rfl, ha, .inr ⟨mk_comma, alt_commas hk r b (hr b (List.mem_cons_self ..)) fun x hx => hr x (List.mem_cons_of_mem _ hx)⟩⟩
theorem alt_close {k : List Tx} (h : alt false k) (b : Bool) : alt b ([41] :: k) := .inr ⟨mk_close, h⟩
theorem alt_toks {t : Tx} {args : List Tx} {br : Bool} (ht : nmT t) (ha : ∀ x ∈ args, nmT x) : alt false (toks t args br) := by
  unfold toks
  by_cases h : args = [] ∧ br = false
  · rw [if_pos h]; exact .inl ⟨rfl, ht, trivial⟩
  · rw [if_neg h]
    refine .inl ⟨rfl, ht, .inr ⟨mk_open, ?_⟩⟩
    match args, ha with
    | [], _ => exact alt_close (show alt false [] from trivial) false
    | a :: r, ha => exact alt_commas (alt_close (show alt false [] from trivial)) r a (ha a (List.mem_cons_self ..)) fun x hx => ha x (List.mem_cons_of_mem _ hx)
theorem isNm_ne {x : Tx} {c : Nat} (h : isNm x = true) (hc : isSign c = false) : x ≠ [c] := fun z => by
  have := (nmT_of h).2 c (by rw [z]; exact List.mem_cons_self ..)
  rw [hc] at this; cases this
theorem pA1_commas {k : List Tx} : ∀ (r : List Tx) (a : Tx) (acc : List Tx), isNm a = true → (∀ x ∈ r, isNm x = true) → pA1 acc (commas (a :: r) ++ ([41] :: k)) = some (acc ++ a :: r, k)
  | [], a, acc, ha, _ => by
    show pA1 acc (a :: [41] :: k) = _
    unfold pA1
    rw [if_pos ha, if_pos rfl]
  | b :: r, a, acc, ha, hr => by
    show pA1 acc (a :: [44] :: (commas (b :: r) ++ ([41] :: k))) = _
    unfold pA1
    rw [if_pos ha, if_neg (by decide), if_pos rfl, pA1_commas r b (acc ++ [a]) (hr b (List.mem_cons_self ..)) fun x hx => hr x (List.mem_cons_of_mem _ hx), List.append_assoc]
    rfl
theorem pF_toks {t : Tx} {args : List Tx} {br : Bool} {k : List Tx} (hk : hd k ≠ [40]) (ht : isKd t = true) (ha : ∀ x ∈ args, isNm x = true) : pF (toks t args br ++ k) = some ((t, args), k) := by
  unfold toks
  by_cases h : args = [] ∧ br = false
  · rw [if_pos h, h.1]
    show pF (t :: k) = _
    unfold pF
    rw [if_pos (show isKd (hd (t :: k)) = true from ht), if_neg (show ¬ hd (t :: k).tail = [40] from hk)]
    rfl
  · rw [if_neg h]
    show pF (t :: [40] :: (commas args ++ [[41]] ++ k)) = _
    unfold pF
    rw [if_pos (show isKd (hd (t :: _)) = true from ht), if_pos (show hd (t :: [40] :: _).tail = [40] from rfl)]
    show (pA (commas args ++ [[41]] ++ k)).map _ = _
    rw [List.append_assoc]
    show (pA (commas args ++ ([41] :: k))).map _ = _
    match args, ha with
    | [], _ => rfl
    | a :: r, ha =>
      have h1 := ha a (List.mem_cons_self ..)
      unfold pA
      rw [if_neg (show ¬ hd (commas (a :: r) ++ ([41] :: k)) = [41] from isNm_ne h1 (by decide +kernel)), pA1_commas r a [] h1 fun x hx => ha x (List.mem_cons_of_mem _ hx)]
      rfl
/-- a fact's text -/
def ftext (t : Tx) (args : List Tx) : Tx := if args = [] then t else t ++ [40] ++ joinL [44] args ++ [41]
theorem ftext_flat (t : Tx) (args : List Tx) : ftext t args = (toks t args false).flatten := by
  unfold ftext toks
  match args with
  | [] => simp
  | a :: r =>
    rw [if_neg (fun z => by cases z), if_neg (fun z => by cases z.1), commas_join]
    simp
theorem commas_len : ∀ xs : List Tx, (commas xs).length ≤ 2 * xs.length
  | [] => Nat.le_refl _
  | a :: r => by
    have : (r.flatMap fun x => [[44], x]).length = 2 * r.length := by
      induction r with
      | nil => rfl
      | cons x r ih => simp only [List.flatMap_cons, List.length_append, ih, List.length_cons, List.length_nil]; omega
    show (r.flatMap fun x => [[44], x]).length + 1 ≤ _
    rw [this, List.length_cons]; omega
theorem commas_mem {P : Tx → Prop} (hc : P [44]) : ∀ {xs : List Tx}, (∀ x ∈ xs, P x) → ∀ x ∈ commas xs, P x
  | [], _, x, hx => by cases hx
  | a :: r, h, x, hx => by
    rcases List.mem_cons.mp hx with e | hx
    · rw [e]; exact h a (List.mem_cons_self ..)
    · obtain ⟨y, hy, hx⟩ := List.mem_flatMap.mp hx
      rcases List.mem_cons.mp hx with e | hx
      · rw [e]; exact hc
      · rw [List.mem_singleton.mp hx]; exact h y (List.mem_cons_of_mem _ hy)
theorem toks_mem {P : Tx → Prop} {t : Tx} {args : List Tx} {br : Bool} (h1 : P t) (h2 : P [40]) (h3 : P [41]) (h4 : P [44]) (ha : ∀ x ∈ args, P x) : ∀ x ∈ toks t args br, P x := by
  intro x hx
  unfold toks at hx
  by_cases h : args = [] ∧ br = false
  · rw [if_pos h] at hx; rw [List.mem_singleton.mp hx]; exact h1
  · rw [if_neg h] at hx
    rcases List.mem_cons.mp hx with e | hx
    · rw [e]; exact h1
    · rcases List.mem_cons.mp hx with e | hx
      · rw [e]; exact h2
      · rcases List.mem_append.mp hx with hx | hx
        · exact commas_mem h4 ha x hx
        · rw [List.mem_singleton.mp hx]; exact h3
theorem toks_len (t : Tx) (args : List Tx) (br : Bool) : (toks t args br).length ≤ 2 * args.length + 3 := by
  unfold toks
  by_cases h : args = [] ∧ br = false
  · rw [if_pos h, List.length_singleton]; omega
  · rw [if_neg h, List.length_cons, List.length_cons, List.length_append, List.length_singleton]
    have := commas_len args
    omega
theorem isNm_len {x : Tx} (h : isNm x = true) : x.length ≤ 12 := by
  unfold isNm at h
  simp only [Bool.and_eq_true, decide_eq_true_eq] at h
  exact h.1.2
theorem isKd_nm {x : Tx} (h : isKd x = true) : isNm x = true := by
  unfold isKd at h
  simp only [Bool.and_eq_true] at h
  exact h.1
theorem flatten_len {n : Nat} : ∀ {xs : List Tx}, (∀ x ∈ xs, x.length ≤ n) → xs.flatten.length ≤ n * xs.length
  | [], _ => Nat.zero_le _
  | x :: xs, h => by
    have := flatten_len (xs := xs) fun y hy => h y (List.mem_cons_of_mem _ hy)
    have := h x (List.mem_cons_self ..)
    rw [List.flatten_cons, List.length_append, List.length_cons, Nat.mul_add]; omega
theorem forP_inv {S : Type} {f : S → Int → M S} (I : Nat → S → Prop) : ∀ (n lo : Nat) (s : S), (∀ (k : Nat) (s : S), lo ≤ k → k < lo + n → I k s → Okp (f s (k : Int)) (I (k + 1))) → I lo s → Okp (forP f s (rangeL (lo : Int) n)) (I (lo + n))
  | 0, lo, s, _, h => ⟨s, rfl, h⟩
  | n + 1, lo, s, hf, h => by
    have e : rangeL (lo : Int) (n + 1) = (lo : Int) :: rangeL ((lo + 1 : Nat) : Int) n := by
      unfold rangeL
      rw [List.range_succ_eq_map, List.map_cons, List.map_map]
      refine congr (congrArg _ (by simp)) (List.map_congr_left fun i _ => ?_)
      show (lo : Int) + ((i + 1 : Nat) : Int) = ((lo + 1 : Nat) : Int) + (i : Int)
      omega
    rw [e]
    refine Okp.bind (hf lo s (Nat.le_refl _) (by omega) h) fun s' h' => ?_
    have := forP_inv I n (lo + 1) s' (fun k s h1 h2 => hf k s (by omega) (by omega)) h'
    rw [show lo + 1 + n = lo + (n + 1) by omega] at this
    exact this
theorem small_sign : ∀ c ∈ small, isSign c = true := by decide +kernel
theorem great_sign : ∀ c ∈ great, isSign c = true := by decide +kernel
theorem words_sign : ∀ c ∈ tx "abcdefghijklmnopqrstuvwxyz0123456789", isSign c = true := by decide +kernel
theorem Nm.kind {y : Tx} (h : Nm small y) : isKd y = true := by
  unfold isKd
  rw [h.name small_sign]
  obtain ⟨c, r, rfl, hc, _⟩ := h
  exact decide_eq_true hc
theorem ftext_len {t : Tx} {args : List Tx} (ht : t.length ≤ 12) (ha : ∀ x ∈ args, x.length ≤ 12) (hl : args.length ≤ 100) : (ftext t args).length ≤ 3000 := by
  rw [ftext_flat]
  have := flatten_len (n := 12) (toks_mem (P := fun x => x.length ≤ 12) (br := false) ht (by decide) (by decide) (by decide) ha)
  have := toks_len t args false
  omega
theorem join_bound {args : List Tx} (ha : ∀ x ∈ args, x.length ≤ 12) (hl : args.length ≤ 100) : (args.map (·.length)).sum + args.length * ([44] : Tx).length ≤ 1300 := by
  have := sum_le ha
  rw [List.length_singleton]
  omega
theorem fact_text_core {t : Tx} {args : List Tx} (ht : t.length ≤ 12) (ha : ∀ x ∈ args, x.length ≤ 12) (hl : args.length ≤ 100) :
    (if decide ((args.length : Int) = 0) = true then (pure t : M Tx) else ((addT t [40] >>= fun x => joinM [44] args >>= fun y => addT x y) >>= fun x => addT x [41])) = .ok (ftext t args) := by
  have j1 := join_bound ha hl
  have j2 := joinL_len [44] args
  unfold ftext
  by_cases h : args = []
  · subst h; rfl
  · have h0 : ¬ ((args.length : Int) = 0) := fun z => h (List.length_eq_zero_iff.mp (by omega))
    rw [decide_eq_false h0, if_neg Bool.false_ne_true, if_neg h, addT_ok (by rw [SZ_val, List.length_singleton]; omega), pure_bind, joinM_ok (by omega), okb,
      addT_ok (by rw [SZ_val, List.length_append, List.length_singleton]; omega), pure_bind, addT_ok (by rw [SZ_val, List.length_append, List.length_append, List.length_singleton, List.length_singleton]; omega)]
    rfl
theorem fact_text_eq {t : Tx} {args : List Tx} (ht : t.length ≤ 12) (ha : ∀ x ∈ args, x.length ≤ 12) (hl : args.length ≤ 100) : m_fact_text (t, args) = .ok (ftext t args) := by
  rw [← fact_text_core ht ha hl]
  unfold m_fact_text
  simp only [pure_bind, tup_b, tx_open, tx_close, tx_comma, bind_assoc]
theorem law_fact_text_eq {t : Tx} {args : List Tx} (ht : t.length ≤ 12) (ha : ∀ x ∈ args, x.length ≤ 12) (hl : args.length ≤ 100) : m__law_fact_text (t, args) = .ok (ftext t args) := by
  rw [← fact_text_core ht ha hl]
  unfold m__law_fact_text
  simp only [pure_bind, tup_b, tx_open, tx_close, tx_comma, bind_assoc]
/-! rows of facts -/
abbrev Fct : Type := Tx × Tup Tx
def fc (f : Tx × List Tx) : Fct := f
/-- facts parted by commas, up to the end -/
def contFs (F : List Fct) (l : List Tx) : Option (List Fct) := match h : pF l with
  | none => none
  | some (f, r) => if r = [] then some (F ++ [fc f]) else if hd r = [44] then contFs (F ++ [fc f]) r.tail else none
termination_by l.length
decreasing_by
  have := pF_len h
  rw [List.length_tail]; omega
def contFact (F : List Fct) (r : List Tx) : Option (List Fct) := if r = [] then some F else if hd r = [44] then contFs F r.tail else none
theorem contFs_eq (F : List Fct) (l : List Tx) : contFs F l = match pF l with
    | none => none
    | some (f, r) => contFact (F ++ [fc f]) r := by
  rw [contFs]
  split
  · rename_i h; rw [h]
  · rename_i f r h; rw [h]; rfl
def rdFs (t : Tx) : Option (List Fct) := match pcs t with
  | none => none
  | some [] => some []
  | some (x :: xs) => contFs [] (x :: xs)
def rdF (t : Tx) : Option Fct := match pcs t with
  | none => none
  | some xs => match pF xs with
    | some (f, []) => some (fc f)
    | _ => none
theorem contFs_app : ∀ (n : Nat) (l : List Tx), l.length ≤ n → ∀ F : List Fct, contFs F l = (contFs [] l).map fun g => F ++ g := by
  intro n
  induction n with
  | zero =>
    intro l hl F
    match l, hl with
    | [], _ => rw [contFs_eq, contFs_eq]; rfl
  | succ n ih =>
    intro l hl F
    rw [contFs_eq, contFs_eq]
    cases e : pF l with
    | none => rfl
    | some s =>
      obtain ⟨f, r⟩ := s
      have hr := pF_len e
      show contFact _ r = (contFact _ r).map _
      unfold contFact
      by_cases h1 : r = []
      · rw [if_pos h1, if_pos h1]; rfl
      · rw [if_neg h1, if_neg h1]
        by_cases h2 : hd r = [44]
        · rw [if_pos h2, if_pos h2, ih r.tail (by rw [List.length_tail]; omega), ih r.tail (by rw [List.length_tail]; omega) ([] ++ [fc f])]
          cases contFs [] r.tail with
          | none => rfl
          | some g => simp
        · rw [if_neg h2, if_neg h2]; rfl
theorem contFs_ne {l : List Tx} {g : List Fct} (h : contFs [] l = some g) : g ≠ [] := by
  rw [contFs_eq] at h
  cases e : pF l with
  | none => rw [e] at h; cases h
  | some s =>
    obtain ⟨f, r⟩ := s
    rw [e] at h
    have h : contFact ([] ++ [fc f]) r = some g := h
    unfold contFact at h
    by_cases h1 : r = []
    · rw [if_pos h1] at h; cases h; exact fun z => by cases z
    · rw [if_neg h1] at h
      by_cases h2 : hd r = [44]
      · rw [if_pos h2, contFs_app _ r.tail (Nat.le_refl _)] at h
        cases e2 : contFs [] r.tail with
        | none => rw [e2] at h; cases h
        | some g2 => rw [e2] at h; cases h; exact fun z => by cases z
      · rw [if_neg h2] at h; cases h
/-- one fact alone, or not -/
theorem rdF_eq (t : Tx) : rdF t = match rdFs t with
    | some [f] => some f
    | _ => none := by
  unfold rdF rdFs
  cases e : pcs t with
  | none => rfl
  | some xs =>
    match xs with
    | [] => rfl
    | x :: xs =>
      show (match pF (x :: xs) with
        | some (f, []) => some (fc f)
        | _ => none) = match contFs [] (x :: xs) with
        | some [f] => some f
        | _ => none
      rw [contFs_eq]
      cases e2 : pF (x :: xs) with
      | none => rfl
      | some s =>
        obtain ⟨f, r⟩ := s
        match r with
        | [] => rfl
        | y :: r =>
          show none = match contFact ([] ++ [fc f]) (y :: r) with
            | some [f] => some f
            | _ => none
          unfold contFact
          rw [if_neg (fun z => by cases z)]
          by_cases h2 : hd (y :: r) = [44]
          · rw [if_pos h2, contFs_app _ (y :: r).tail (Nat.le_refl _)]
            cases e3 : contFs [] (y :: r).tail with
            | none => rfl
            | some g =>
              have := contFs_ne e3
              match g, this with
              | a :: g, _ => rfl
          · rw [if_neg h2]
theorem pA1_suffix : ∀ (n : Nat) (l : List Tx), l.length ≤ n → ∀ (acc : List Tx) {a r : List Tx}, pA1 acc l = some (a, r) → r = l.drop (l.length - r.length) := by
  intro n
  induction n with
  | zero =>
    intro l hl acc a r h
    match l, hl with
    | [], _ => simp [pA1] at h
  | succ n ih =>
    intro l hl acc a r h
    match l with
    | [] => simp [pA1] at h
    | [x] => simp [pA1] at h
    | x :: y :: t =>
      unfold pA1 at h
      by_cases h1 : isNm x = true
      · rw [if_pos h1] at h
        by_cases h2 : y = [41]
        · rw [if_pos h2] at h; cases h
          rw [List.length_cons, List.length_cons, show r.length + 1 + 1 - r.length = 2 by omega]; rfl
        · rw [if_neg h2] at h
          by_cases h3 : y = [44]
          · rw [if_pos h3] at h
            have e := ih t (by rw [List.length_cons, List.length_cons] at hl; omega) _ h
            have hl := pA1_len _ t (Nat.le_refl _) _ h
            rw [List.length_cons, List.length_cons, show t.length + 1 + 1 - r.length = (t.length - r.length) + 2 by omega]
            exact e
          · rw [if_neg h3] at h; cases h
      · rw [if_neg h1] at h; cases h
theorem pA_suffix {l a r : List Tx} (h : pA l = some (a, r)) : r = l.drop (l.length - r.length) := by
  unfold pA at h
  by_cases h1 : hd l = [41]
  · rw [if_pos h1] at h; cases h
    match l, h1 with
    | [], h1 => cases h1
    | _ :: t, _ => rw [List.tail_cons, List.length_cons, show t.length + 1 - t.length = 1 by omega]; rfl
  · rw [if_neg h1] at h
    exact pA1_suffix _ l (Nat.le_refl _) [] h
theorem pF_suffix0 {l : List Tx} {f : Tx × List Tx} {r : List Tx} (h : pF l = some (f, r)) : r = l.drop (l.length - r.length) := by
  have hl := pF_len h
  unfold pF at h
  by_cases h1 : isKd (hd l) = true
  · rw [if_pos h1] at h
    match l, h1 with
    | [], h1 => exact absurd h1 (by decide)
    | x :: t, _ =>
      by_cases h2 : hd (x :: t).tail = [40]
      · rw [if_pos h2] at h
        match t, h2 with
        | [], h2 => cases h2
        | y :: t', _ =>
          cases e : pA (x :: y :: t').tail.tail with
          | none => rw [e] at h; cases h
          | some s =>
            rw [e] at h
            obtain ⟨a, r'⟩ := s
            cases h
            have g := pA_suffix e
            have gl : r'.length < _ := pA_len e
            rw [List.tail_cons, List.tail_cons] at g gl
            show r' = (x :: y :: t').drop _
            rw [List.length_cons, List.length_cons, show t'.length + 1 + 1 - (a, r').2.length = (t'.length - r'.length) + 2 by show t'.length + 1 + 1 - r'.length = _; omega]
            exact g
      · rw [if_neg h2] at h; cases h
        rw [List.tail_cons, List.length_cons, show t.length + 1 - t.length = 1 by omega]; rfl
  · rw [if_neg h1] at h; cases h
theorem pF_suffix {xs : List Tx} {i : Nat} {f : Tx × List Tx} {r : List Tx} (h : pF (xs.drop i) = some (f, r)) : r = xs.drop (xs.length - r.length) := by
  have e := pF_suffix0 h
  have hl := pF_len h
  rw [List.length_drop] at e hl
  rw [List.drop_drop] at e
  rw [show xs.length - r.length = i + (xs.length - i - r.length) by omega]
  exact e
/-- take_facts -/
theorem facts_loop {xs : List Tx} (hx : tks xs) {mr : Int × List Fct → M (List Fct × Int)} {g : Int × List Fct → M (Tl (Int × List Fct) (List Fct × Int))}
    (hg : ∀ (i : Nat) (acc : List Fct), i ≤ xs.length → acc.length < SZ → g ((i : Int), acc) = match pF (xs.drop i) with
      | none => raise "NoLine"
      | some (f, rest) => if hd rest = [44] then .ok (.ct (((xs.length - rest.length + 1 : Nat) : Int), acc ++ [fc f])) else .ok (.rt (acc ++ [fc f], ((xs.length - rest.length : Nat) : Int)))) :
    ∀ (fuel i : Nat) (acc : List Fct), acc.length + xs.length < SZ + i → xs.length < fuel + i → i ≤ xs.length →
    ((whT (fun _ => (pure true : M Bool)) g fuel ((i : Int), acc) >>= thenT mr id) >>= fun a => if (!decide (a.2 = (xs.length : Int))) = true then raise "NoLine" else pure a.1) = match contFs acc (xs.drop i) with
      | some fs => .ok fs
      | none => raise "NoLine" := by
  intro fuel
  induction fuel with
  | zero => intro i acc h1 h2 h3; omega
  | succ fuel ih =>
    intro i acc h1 h2 h3
    unfold whT
    rw [pure_bind, if_pos rfl, hg i acc h3 (by omega), contFs_eq]
    cases e : pF (xs.drop i) with
    | none => rfl
    | some s =>
      obtain ⟨f, r⟩ := s
      have hr := pF_len e
      rw [List.length_drop] at hr
      show _ = match contFact (acc ++ [fc f]) r with
        | some fs => Except.ok fs
        | none => raise "NoLine"
      unfold contFact
      by_cases c1 : hd r = [44]
      · have rn : r ≠ [] := fun z => by rw [z] at c1; cases c1
        have rl : 0 < r.length := List.length_pos_iff.mpr rn
        have e3 : r.tail = xs.drop (xs.length - r.length + 1) := by
          have suf : r = xs.drop (xs.length - r.length) := pF_suffix e
          rw [← tail_drop', ← suf]
        simp only [c1, if_true, rn, if_false]
        rw [e3]
        exact ih _ _ (by rw [List.length_append, List.length_singleton]; omega) (by omega) (by omega)
      · simp only [c1, if_false]
        by_cases rn : r = []
        · subst rn
          simp only [if_true]
          show (if (!decide (((xs.length - 0 : Nat) : Int) = (xs.length : Int))) = true then raise "NoLine" else pure (acc ++ [fc f])) = _
          rw [Nat.sub_zero, decide_eq_true rfl]
          rfl
        · have rl : 0 < r.length := List.length_pos_iff.mpr rn
          simp only [rn, if_false]
          show (if (!decide (((xs.length - r.length : Nat) : Int) = (xs.length : Int))) = true then raise "NoLine" else pure (acc ++ [fc f])) = _
          rw [decide_eq_false (by omega)]
          rfl
/-! texts: lines, one sign put for another, blanks left out -/
def lin (c : Nat) : Tx → List Tx
  | [] => [[]]
  | a :: r => if a = c then [] :: lin c r else match lin c r with
    | h :: t => (a :: h) :: t
    | [] => [[a]]
theorem lin_cons (c a : Nat) (r : Tx) : lin c (a :: r) = if a = c then [] :: lin c r else match lin c r with
    | h :: t => (a :: h) :: t
    | [] => [[a]] := rfl
theorem lin_free {c : Nat} : ∀ {x : Tx}, c ∉ x → lin c x = [x]
  | [], _ => rfl
  | a :: r, h => by
    have h1 : a ≠ c := fun z => h (by rw [z]; exact List.mem_cons_self ..)
    rw [lin_cons, if_neg h1, lin_free fun z => h (List.mem_cons_of_mem _ z)]
theorem lin_app {c : Nat} : ∀ {x : Tx} (r : Tx), c ∉ x → lin c (x ++ c :: r) = x :: lin c r
  | [], r, _ => by
    show lin c (c :: r) = _
    rw [lin_cons, if_pos rfl]
  | a :: x, r, h => by
    have h1 : a ≠ c := fun z => h (by rw [z]; exact List.mem_cons_self ..)
    show lin c (a :: (x ++ c :: r)) = _
    rw [lin_cons, if_neg h1, lin_app r fun z => h (List.mem_cons_of_mem _ z)]
theorem lin_join {c : Nat} : ∀ {xs : List Tx}, xs ≠ [] → (∀ x ∈ xs, c ∉ x) → lin c (joinL [c] xs) = xs
  | [], h, _ => absurd rfl h
  | [x], _, h => lin_free (h x (List.mem_cons_self ..))
  | x :: y :: r, _, h => by
    show lin c (x ++ ([c] ++ joinL [c] (y :: r))) = _
    rw [List.singleton_append, lin_app _ (h x (List.mem_cons_self ..)), lin_join (fun z => by cases z) fun z hz => h z (List.mem_cons_of_mem _ hz)]
theorem lin_ne (c : Nat) : ∀ x : Tx, lin c x ≠ []
  | [] => fun z => by cases z
  | a :: r => by
    rw [lin_cons]
    by_cases h : a = c
    · rw [if_pos h]; exact fun z => by cases z
    · rw [if_neg h]; cases lin c r <;> exact fun z => by cases z
theorem join_lin (c : Nat) : ∀ x : Tx, joinL [c] (lin c x) = x
  | [] => rfl
  | a :: r => by
    have ih := join_lin c r
    have ne := lin_ne c r
    rw [lin_cons]
    by_cases h : a = c
    · rw [if_pos h]
      cases e : lin c r with
      | nil => exact absurd e ne
      | cons p q =>
        rw [e] at ih
        show [] ++ ([c] ++ joinL [c] (p :: q)) = _
        rw [ih, h]; rfl
    · rw [if_neg h]
      cases e : lin c r with
      | nil => exact absurd e ne
      | cons p q =>
        rw [e] at ih
        cases q with
        | nil => show a :: p = _; rw [← ih]; rfl
        | cons p2 q =>
          show a :: p ++ ([c] ++ joinL [c] (p2 :: q)) = _
          rw [← ih]; rfl
theorem lin_mem {c : Nat} {x : Tx} {p : Tx} (h : p ∈ lin c x) : c ∉ p ∧ ∀ a ∈ p, a ∈ x := by
  induction x generalizing p with
  | nil =>
    have : p = [] := by simpa [lin] using h
    subst this
    exact ⟨fun z => (by cases z), fun _ z => (by cases z)⟩
  | cons a r ih =>
    rw [lin_cons] at h
    by_cases h1 : a = c
    · rw [if_pos h1] at h
      rcases List.mem_cons.mp h with h | h
      · subst h; exact ⟨fun z => (by cases z), fun _ z => (by cases z)⟩
      · exact ⟨(ih h).1, fun b hb => List.mem_cons_of_mem _ ((ih h).2 b hb)⟩
    · rw [if_neg h1] at h
      cases e : lin c r with
      | nil => exact absurd e (lin_ne c r)
      | cons p2 q =>
        rw [e] at h ih
        rcases List.mem_cons.mp h with h | h
        · subst h
          have := ih (List.mem_cons_self ..)
          refine ⟨fun z => ?_, fun b hb => ?_⟩
          · rcases List.mem_cons.mp z with z | z
            · exact h1 z.symm
            · exact this.1 z
          · rcases List.mem_cons.mp hb with z | z
            · rw [z]; exact List.mem_cons_self ..
            · exact List.mem_cons_of_mem _ (this.2 b z)
        · have := ih (List.mem_cons_of_mem _ h)
          exact ⟨this.1, fun b hb => List.mem_cons_of_mem _ (this.2 b hb)⟩
theorem split_ne (x : Str) (c : Nat) : Txt.split x ⟨#[c]⟩ ≠ [] := by
  unfold Txt.split
  split
  · exact fun z => by cases z
  · split
    · exact fun z => by cases z
    · rw [StrLaws.partsBetween_eq]
      obtain ⟨p, r, e⟩ := StrLaws.partsFrom_ne x (⟨#[c]⟩ : Str).length 0 (Builtin.Str.occurrences x ⟨#[c]⟩ 0 x.length (x.length + 1))
      rw [e]
      exact fun z => by cases z
theorem S_one (c : Nat) : (G.S [c] : Str) = ⟨#[c]⟩ := rfl
theorem sjoin_S (s : Tx) (xs : List Str) : (Str.join (G.S s) xs).cps.toList = joinL s (xs.map fun z => z.cps.toList) := by
  have e := join_S s (xs.map fun z => z.cps.toList)
  have e2 : (xs.map fun z => (z.cps.toList : Tx)).map G.S = xs := by
    rw [List.map_map]
    exact List.map_id' xs
  rw [e2] at e
  have e3 : Txt.join (G.S s) xs = Str.join (G.S s) xs := StrLaws.glued_eq_join _ _
  rw [← e3, e]
  rfl
theorem split_lin (x : Tx) (c : Nat) : ((Txt.split (G.S x) (G.S [c])).map fun z => (z.cps.toList : Tx)) = lin c x := by
  rw [S_one]
  have e1 := StrLaws.join_split (G.S x) ⟨#[c]⟩
  have e2 := congrArg (fun z : Str => z.cps.toList) e1
  have e3 : joinL [c] ((Txt.split (G.S x) ⟨#[c]⟩).map fun z => z.cps.toList) = x := by rw [← sjoin_S]; exact e2
  have e4 := lin_join (c := c) (xs := (Txt.split (G.S x) ⟨#[c]⟩).map fun z => z.cps.toList) (fun z => split_ne _ _ (List.map_eq_nil_iff.mp z)) fun y hy => by
    obtain ⟨z, hz, rfl⟩ := List.mem_map.mp hy
    exact StrLaws.split_free _ _ z hz
  rw [e3] at e4
  exact e4.symm
theorem splitT_ok {x : Tx} {c : Nat} (h : x.length + 2 ≤ SZ) : splitT x [c] = .ok (lin c x) := by
  unfold splitT
  rw [chk_b ⟨fun z => (by cases z), h⟩, split_lin]
  rfl
theorem replT_one {x z : Tx} {c : Nat} (h : x.length + (x.length + 1) * z.length ≤ 16777216) : replT x [c] z = .ok (joinL z (lin c x)) := by
  unfold replT
  rw [chk_b h, S_one, StrLaws.replace_one, sjoin_S, ← S_one, split_lin]
  rfl
def bare (x : Tx) : Tx := x.dropWhile fun c => decide (c = 32)
theorem drop_tw (p : Nat → Bool) : ∀ x : Tx, x.drop (x.takeWhile p).length = x.dropWhile p
  | [] => rfl
  | a :: r => by
    rw [List.takeWhile_cons, List.dropWhile_cons]
    cases h : p a with
    | true => rw [if_pos rfl, if_pos rfl, List.length_cons, List.drop_succ_cons]; exact drop_tw p r
    | false => rfl
theorem lstripT_ok {x : Tx} (hz : x.length ≤ SZ) : lstripT x [32] = .ok (bare x) := by
  unfold lstripT
  rw [chk_b hz]
  refine congrArg Except.ok ?_
  have eg : ((G.S [32]).cps.contains : Nat → Bool) = fun c => decide (c = 32) := funext fun c => by
    show (#[32] : Array Nat).contains c = _
    simp
  unfold Txt.lstripChars
  rw [PySem.W.stripBy_eq, eg]
  show ((G.S x).cps.extract (x.takeWhile fun c => decide (c = 32)).length (G.S x).length).toList = _
  rw [Array.toList_extract, S_length]
  show List.extract x _ _ = _
  rw [List.extract_eq_drop_take, List.take_of_length_le (by rw [List.length_drop]; omega)]
  exact drop_tw _ x
theorem starts_one (x : Tx) (c : Nat) : Txt.startswith (G.S x) (G.S [c]) = match x with
    | [] => false
    | a :: _ => decide (a = c) := by
  unfold Txt.startswith Builtin.Str.subAt
  match x with
  | [] => rfl
  | a :: r =>
    rw [S_length, S_length]
    show (decide (0 + 1 ≤ (a :: r).length) && ((G.S (a :: r)).cps.extract 0 (0 + 1) == #[c])) = decide (a = c)
    rw [decide_eq_true (by rw [List.length_cons]; omega), Bool.true_and]
    have : ((G.S (a :: r)).cps.extract 0 (0 + 1)) = #[a] := by
      apply Array.toList_inj.mp
      rw [Array.toList_extract]
      rfl
    rw [this]
    by_cases h : a = c
    · subst h; simp
    · rw [decide_eq_false h]
      refine beq_eq_false_iff_ne.mpr fun z => h ?_
      simpa using z
def isOut (x : Tx) : Bool := match bare x with
  | [] => true
  | a :: _ => decide (a = 35)
theorem left_out_eq {x : Tx} (hz : x.length ≤ SZ) : m_left_out x = .ok (isOut x) := by
  unfold m_left_out isOut
  simp only [pure_bind, show tx " " = [32] from rfl, show tx "" = [] from rfl, show tx "#" = [35] from rfl, lstripT_ok hz, okb, starts_one]
  cases bare x with
  | nil => rfl
  | cons a r => rfl
/-! tokens with blanks between, names side by side too -/
def okw : Bool → List (Tx × Tx) → Prop
  | _, [] => True
  | b, (s, t) :: r => sp s ∧ ((nmT t ∧ (b = false ∨ s ≠ []) ∧ okw true r) ∨ (mkT t ∧ okw false r))
theorem run_sp2 {s : Tx} (hs : sp s) (f : List Tx) (n : Tx) : ∃ f' n', prun f n s = some (f', n') ∧ flush f' n' = flush f n ∧ (n = [] ∨ s ≠ [] → n' = []) := by
  cases s with
  | nil => exact ⟨f, n, rfl, rfl, fun h => h.elim (fun z => z) fun z => absurd rfl z⟩
  | cons c s =>
    have hc := hs c (List.mem_cons_self ..)
    subst hc
    obtain ⟨f', n', e, e2, e3⟩ := run_sp (fun c h => hs c (List.mem_cons_of_mem _ h) : sp s) (flush f n) []
    refine ⟨f', n', ?_, ?_, fun _ => e3 rfl⟩
    · unfold prun stp
      rw [sp_notSign, sp_notMark]
      exact e
    · rw [e2]; rfl
theorem run_okw : ∀ (ps : List (Tx × Tx)) (b : Bool) (f : List Tx) (n : Tx), okw b ps → (n ≠ [] → b = true) → ∃ f' n', prun f n (weave ps) = some (f', n') ∧ flush f' n' = flush f n ++ ps.map (·.2)
  | [], b, f, n, _, _ => ⟨f, n, rfl, by simp⟩
  | (s, t) :: r, b, f, n, ⟨hs, ha⟩, hn => by
    obtain ⟨f1, n1, e1, e2, e3⟩ := run_sp2 hs f n
    unfold weave
    rw [run_app, e1, Option.bind_some, run_app]
    rcases ha with ⟨ht, hb, hr⟩ | ⟨⟨c, rfl, hc, hc2⟩, hr⟩
    · have n0 : n1 = [] := by
        refine e3 (hb.elim (fun z => .inl ?_) .inr)
        exact Classical.byContradiction fun q => by rw [z] at hn; exact Bool.false_ne_true (hn q)
      subst n0
      rw [run_nm ht.2, Option.bind_some]
      obtain ⟨f', n', g1, g2⟩ := run_okw r true f1 ([] ++ t) hr (fun _ => rfl)
      refine ⟨f', n', g1, ?_⟩
      rw [g2, List.nil_append]
      unfold flush
      rw [if_neg ht.1]
      have : f1 = flush f n := by rw [← e2]; rfl
      rw [this, List.append_assoc]
      rfl
    · have : prun f1 n1 [c] = some (flush f1 n1 ++ [[c]], []) := by
        unfold prun stp
        rw [hc2, hc]
        rfl
      rw [this, Option.bind_some]
      obtain ⟨f', n', g1, g2⟩ := run_okw r false (flush f1 n1 ++ [[c]]) [] hr (fun z => absurd rfl z)
      refine ⟨f', n', g1, ?_⟩
      rw [g2, flush_nil, e2, List.append_assoc]
      rfl
theorem pcs_okw {ps : List (Tx × Tx)} {s : Tx} (hs : okw false ps) (hs2 : sp s) : pcs (weave ps ++ s) = some (ps.map (·.2)) := by
  obtain ⟨f, n, e1, e2⟩ := run_okw ps false [] [] hs (fun z => absurd rfl z)
  obtain ⟨f', n', e3, e4, _⟩ := run_sp hs2 f n
  unfold pcs
  rw [run_app, e1, Option.bind_some, e3, Option.map_some, e4, e2]
  rfl
/-- what is not left out -/
theorem okw_notOut {ps : List (Tx × Tx)} {s : Tx} {b : Bool} (hs : okw b ps) (h0 : ps ≠ []) : isOut (weave ps ++ s) = false := by
  have bare_sp : ∀ (s x : Tx), sp s → bare (s ++ x) = bare x := by
    intro s
    induction s with
    | nil => intro x _; rfl
    | cons c s ih =>
      intro x h
      have hc := h c (List.mem_cons_self ..)
      subst hc
      exact ih x fun d hd => h d (List.mem_cons_of_mem _ hd)
  have one : ∀ (c : Nat) (x : Tx), (isSign c = true ∨ isMark c = true) → isOut (c :: x) = false ∧ bare (c :: x) = c :: x := by
    intro c x h
    have h1 : c ≠ 32 := fun z => by subst z; rw [sp_notSign, sp_notMark] at h; exact h.elim Bool.false_ne_true Bool.false_ne_true
    have h2 : c ≠ 35 := fun z => by
      subst z
      have : isSign 35 = false ∧ isMark 35 = false := by decide +kernel
      rw [this.1, this.2] at h; exact h.elim Bool.false_ne_true Bool.false_ne_true
    have e : bare (c :: x) = c :: x := by unfold bare; rw [List.dropWhile_cons, decide_eq_false h1]; rfl
    refine ⟨?_, e⟩
    unfold isOut
    rw [e]
    exact decide_eq_false h2
  match ps, hs, h0 with
  | (s1, t) :: r, ⟨h1, h2⟩, _ =>
    have e : weave ((s1, t) :: r) ++ s = s1 ++ (t ++ (weave r ++ s)) := by
      show s1 ++ (t ++ weave r) ++ s = _
      rw [List.append_assoc, List.append_assoc]
    have key : isOut (weave ((s1, t) :: r) ++ s) = isOut (t ++ (weave r ++ s)) := by
      rw [e]
      unfold isOut
      rw [bare_sp _ _ h1]
    rw [key]
    rcases h2 with ⟨ht, _, _⟩ | ⟨⟨c, rfl, hc, _⟩, _⟩
    · match t, ht with
      | [], ht => exact absurd rfl ht.1
      | c :: t, ht => exact (one c _ (.inl (ht.2 c (List.mem_cons_self ..)))).1
    · exact (one c _ (.inr hc)).1
/-! a kind's line -/
abbrev K3 : Type := T3 Tx Int Bool
def sizesT : List Tx := (["0", "1", "2", "3", "4"] : List String).map tx
def lastW : Tx := tx "lasting"
def passW : Tx := tx "passing"
def ruleW : Tx := tx "rule"
def figI (x : Tx) : Int := ((x.headD 0 : Nat) : Int) - 48
def pKd : List Tx → Option K3
  | [w, nm, f] => if isKd nm = true ∧ f ∈ sizesT then some ⟨nm, figI f, decide (w = lastW)⟩ else none
  | _ => none
theorem intT_fig : ∀ f ∈ sizesT, intT f = .ok (figI f) := by
  have h : ∀ f ∈ sizesT, (PySem.intText? (G.S f)) = some (figI f) ∧ f.length ≤ 640 := by decide +kernel
  intro f hf
  obtain ⟨h1, h2⟩ := h f hf
  unfold intT
  rw [chk_b h2, h1]
  rfl
theorem read_kind_eq {xs : List Tx} (h : tks xs) : m_read_kind xs = match pKd xs with
    | some k => .ok k
    | none => raise "NoLine" := by
  unfold m_read_kind
  simp only [pure_bind]
  match xs, h with
  | [], _ => rfl
  | [_], _ => rfl
  | [_, _], _ => rfl
  | w :: nm :: f :: g :: r, _ =>
    have : ¬ (((w :: nm :: f :: g :: r).length : Int) = 3) := by simp only [List.length_cons]; omega
    rw [decide_eq_false this]
    rfl
  | [w, nm, f], h =>
    have a0 : atL [w, nm, f] 0 = .ok w := rfl
    have a1 : atL [w, nm, f] 1 = .ok nm := rfl
    have a2 : atL [w, nm, f] 2 = .ok f := rfl
    have l3 : decide ((([w, nm, f] : List Tx).length : Int) = 3) = true := rfl
    have nz : nm.length ≤ SZ := h.2 nm (by simp)
    rw [l3, a0, a1, a2]
    simp only [Bool.not_true, Bool.false_eq_true, if_false, okb, is_kind_eq nz, tup_b]
    have hp : pKd [w, nm, f] = if isKd nm = true ∧ f ∈ sizesT then some ⟨nm, figI f, decide (w = lastW)⟩ else none := rfl
    rw [hp]
    by_cases hk : isKd nm = true
    · by_cases hf : f ∈ sizesT
      · have hf' : decide (f ∈ (show List Tx from (["0", "1", "2", "3", "4"] : List String).map tx)) = true := decide_eq_true hf
        rw [if_pos ⟨hk, hf⟩, hk]
        simp only [Bool.not_true, Bool.false_eq_true, if_false, hf', intT_fig f hf, okb, pure_bind]
        rfl
      · have hf' : decide (f ∈ (show List Tx from (["0", "1", "2", "3", "4"] : List String).map tx)) = false := decide_eq_false hf
        rw [if_neg (fun z => hf z.2), hk]
        simp only [Bool.not_true, Bool.false_eq_true, if_false, hf', Bool.not_false, if_true, pure_bind]
    · have hk' : isKd nm = false := by simpa using hk
      rw [if_neg (fun z => hk z.1), hk']
      simp only [Bool.not_false, if_true, pure_bind]
/-! lines of a book -/
abbrev Prt : Type := List (Tx × Tup Tx) ⊕ (List C_Look ⊕ List (Tx × Tx))
abbrev Row : Type := Tx × Dic Prt
abbrev LineV : Type := K3 ⊕ Row
def lineR : LineV → Tx × LineV
  | .inl k => (tx "kind", .inl k)
  | .inr r => (tx "rule", .inr r)
/-- what a line tells -/
def Ln (x : Tx) : Option LineV → Prop
  | none => isOut x = true
  | some v => isOut x = false ∧ m_read_line x = .ok (lineR v)
theorem ln_kind {x w nm f : Tx} (hz : x.length < SZ) (ho : isOut x = false) (hp : pcs x = some [w, nm, f]) (hw : w = passW ∨ w = lastW) (hk : isKd nm = true) (hf : f ∈ sizesT) : Ln x (some (.inl ⟨nm, figI f, decide (w = lastW)⟩)) := by
  refine ⟨ho, ?_⟩
  unfold m_read_line
  have tk : tks [w, nm, f] := by
    have kl := isNm_len (isKd_nm hk)
    have wl : w.length ≤ 7 := by rcases hw with rfl | rfl <;> decide
    have fl : f.length ≤ 1 := by
      have : ∀ f ∈ sizesT, f.length ≤ 1 := by decide
      exact this f hf
    refine ⟨by rw [SZ_val]; show 3 < 16777216; omega, fun x hx => ?_⟩
    rw [SZ_val]
    rcases List.mem_cons.mp hx with rfl | hx
    · omega
    · rcases List.mem_cons.mp hx with rfl | hx
      · omega
      · rw [List.mem_singleton.mp hx]; omega
  have pk : pKd [w, nm, f] = some ⟨nm, figI f, decide (w = lastW)⟩ := by show (if _ then _ else _) = _; rw [if_pos ⟨hk, hf⟩]
  have a0 : atL [w, nm, f] 0 = .ok w := rfl
  simp only [pure_bind, pieces_eq hz, hp, okb, a0, read_kind_eq tk, pk]
  have c : (if decide (w = tx "passing") = true then (pure true : M Bool) else pure (decide (w = tx "lasting"))) = pure true := by
    rcases hw with rfl | rfl
    · rfl
    · rfl
  rw [c, pure_bind, if_pos rfl]
  rfl
theorem keep_kind {x : Tx} {ks : List K3} {rs : List Row} {k : K3} (h : m_read_line x = .ok (lineR (.inl k))) (hl : ks.length < SZ) (hn : k.a ∉ ks.map (·.a)) : m_keep_line ks rs x = .ok (ks ++ [k], rs) := by
  unfold m_keep_line
  simp only [pure_bind, h, okb, lineR]
  rw [decide_true, if_pos rfl]
  have e : lc (fun e : K3 => (pure e.a : M Tx)) ks = .ok (ks.map (·.a)) := lc_map (by omega) fun _ _ => rfl
  rw [show (getL (Sum.inl k : LineV) : M K3) = .ok k from rfl]
  simp only [okb, pure_bind, e]
  rw [decide_eq_false hn, if_neg Bool.false_ne_true, chk_b hl]
  rfl
theorem keep_rule {x : Tx} {ks : List K3} {rs : List Row} {r : Row} (h : m_read_line x = .ok (lineR (.inr r))) (hl : rs.length < SZ) (hn : r.1 ∉ rs.map (·.1)) : m_keep_line ks rs x = .ok (ks, rs ++ [r]) := by
  unfold m_keep_line
  simp only [pure_bind, h, okb, lineR]
  rw [show decide (tx "rule" = tx "kind") = false from by decide, if_neg Bool.false_ne_true]
  have e : lc (fun e : Row => (pure e.1 : M Tx)) rs = .ok (rs.map (·.1)) := lc_map (by omega) fun _ _ => rfl
  rw [show (getR (Sum.inr r : LineV) : M Row) = .ok r from rfl]
  simp only [okb, pure_bind, e]
  rw [decide_eq_false hn, if_neg Bool.false_ne_true, chk_b hl]
  rfl
def toK : Option LineV → Option K3
  | some (.inl k) => some k
  | _ => none
def toR : Option LineV → Option Row
  | some (.inr r) => some r
  | _ => none
theorem read_lines {g : List K3 × List Row → Tx → M (List K3 × List Row)} (hg : ∀ s x, x.length ≤ SZ → g s x = if isOut x = true then .ok s else m_keep_line s.1 s.2 x) : ∀ (ls : List Tx) (os : List (Option LineV)) (ks : List K3) (rs : List Row),
    Paired Ln ls os → (∀ x ∈ ls, x.length ≤ SZ) → ks.length + ls.length < SZ → rs.length + ls.length < SZ → ((ks ++ os.filterMap toK).map (·.a)).Nodup → ((rs ++ os.filterMap toR).map (·.1)).Nodup →
    forP g (ks, rs) ls = .ok (ks ++ os.filterMap toK, rs ++ os.filterMap toR)
  | _, _, ks, rs, .nil, _, _, _, _, _ => by
    show Except.ok (ks, rs) = _
    simp
  | x :: ls, o :: os, ks, rs, .cons h t, hz, h1, h2, n1, n2 => by
    rw [List.length_cons] at h1 h2
    have hz' : ∀ y ∈ ls, y.length ≤ SZ := fun y hy => hz y (List.mem_cons_of_mem _ hy)
    show (g (ks, rs) x >>= fun s => forP g s ls) = _
    rw [hg _ _ (hz x (List.mem_cons_self ..))]
    match o, h with
    | none, h =>
      rw [if_pos (show isOut x = true from h), okb]
      exact read_lines hg ls os ks rs t hz' (by omega) (by omega) n1 n2
    | some (.inl k), h =>
      have e1 : (some (Sum.inl k) :: os : List (Option LineV)).filterMap toK = k :: os.filterMap toK := rfl
      have e2 : (some (Sum.inl k) :: os : List (Option LineV)).filterMap toR = os.filterMap toR := rfl
      rw [e1] at n1 ⊢
      rw [e2] at n2 ⊢
      rw [if_neg (by rw [h.1]; exact Bool.false_ne_true)]
      have nd : k.a ∉ ks.map (·.a) := fun z => by
        rw [List.map_append, List.map_cons] at n1
        exact (List.nodup_append.mp n1).2.2 _ z _ (List.mem_cons_self ..) rfl
      have a1 : ks ++ k :: os.filterMap toK = (ks ++ [k]) ++ os.filterMap toK := by rw [List.append_assoc]; rfl
      rw [keep_kind h.2 (by omega) nd, okb, a1]
      rw [a1] at n1
      exact read_lines hg ls os (ks ++ [k]) rs t hz' (by rw [List.length_append, List.length_singleton]; omega) (by omega) n1 n2
    | some (.inr r), h =>
      have e1 : (some (Sum.inr r) :: os : List (Option LineV)).filterMap toK = os.filterMap toK := rfl
      have e2 : (some (Sum.inr r) :: os : List (Option LineV)).filterMap toR = r :: os.filterMap toR := rfl
      rw [e1] at n1 ⊢
      rw [e2] at n2 ⊢
      rw [if_neg (by rw [h.1]; exact Bool.false_ne_true)]
      have nd : r.1 ∉ rs.map (·.1) := fun z => by
        rw [List.map_append, List.map_cons] at n2
        exact (List.nodup_append.mp n2).2.2 _ z _ (List.mem_cons_self ..) rfl
      have a1 : rs ++ r :: os.filterMap toR = (rs ++ [r]) ++ os.filterMap toR := by rw [List.append_assoc]; rfl
      rw [keep_rule h.2 (by omega) nd, okb, a1]
      rw [a1] at n2
      exact read_lines hg ls os ks (rs ++ [r]) t hz' (by omega) (by rw [List.length_append, List.length_singleton]; omega) n1 n2
theorem joinL_len1 (c : Nat) : ∀ {xs : List Tx}, ∀ x ∈ xs, x.length ≤ (joinL [c] xs).length
  | [y], x, h => by rw [List.mem_singleton.mp h]; exact Nat.le_refl _
  | y :: z :: r, x, h => by
    show x.length ≤ (y ++ ([c] ++ joinL [c] (z :: r))).length
    rw [List.length_append, List.length_append]
    rcases List.mem_cons.mp h with h | h
    · rw [h]; omega
    · have := joinL_len1 c (xs := z :: r) x h
      omega
theorem joinL_cnt (c : Nat) : ∀ {xs : List Tx}, xs.length ≤ (joinL [c] xs).length + 1
  | [] => Nat.zero_le _
  | [y] => Nat.succ_le_succ (Nat.zero_le _)
  | y :: z :: r => by
    have := joinL_cnt c (xs := z :: r)
    show (y :: z :: r).length ≤ (y ++ ([c] ++ joinL [c] (z :: r))).length + 1
    rw [List.length_append, List.length_append, List.length_cons (a := y)]
    show _ ≤ y.length + (1 + _) + 1
    omega
theorem read_book_eq {ls : List Tx} {os : List (Option LineV)} (hne : ls ≠ []) (hf : ∀ x ∈ ls, 10 ∉ x) (hz : (joinL [10] ls).length + 2 < SZ) (hp : Paired Ln ls os) (n1 : ((os.filterMap toK).map (·.a)).Nodup) (n2 : ((os.filterMap toR).map (·.1)).Nodup) :
    m_read_book (joinL [10] ls) = m_made_book (os.filterMap toK) (os.filterMap toR) := by
  unfold m_read_book
  simp only [pure_bind, show tx "\n" = [10] from rfl, splitT_ok (show (joinL [10] ls).length + 2 ≤ SZ by omega), okb, lin_join hne hf]
  have hx : ∀ x ∈ ls, x.length ≤ SZ := fun x h => by have := joinL_len1 10 x h; omega
  have hc := joinL_cnt 10 (xs := ls)
  rw [read_lines (fun s x hz => ?_) ls os [] [] hp hx (by rw [List.length_nil]; omega) (by rw [List.length_nil]; omega) n1 n2]
  · rfl
  · simp only [left_out_eq hz, okb]
    cases isOut x with
    | true => rfl
    | false =>
      simp only [Bool.not_false, if_true, Bool.false_eq_true, if_false]
      cases m_keep_line s.1 s.2 x <;> rfl
/-! names, unlike ones -/
theorem mapE_rel {α β : Type} {f : α → M β} {R : α → β → Prop} : ∀ {xs : List α}, (∀ x ∈ xs, Okp (f x) (R x)) → Okp (mapE f xs) fun ys => Paired R xs ys
  | [], _ => ⟨[], rfl, .nil⟩
  | x :: xs, h => by
    obtain ⟨y, e, q⟩ := h x (List.mem_cons_self ..)
    obtain ⟨ys, e2, q2⟩ := mapE_rel (xs := xs) fun z hz => h z (List.mem_cons_of_mem _ hz)
    exact ⟨y :: ys, by unfold mapE; rw [e, e2]; rfl, .cons q q2⟩
theorem lc_rel {α β : Type} {f : α → M β} {R : α → β → Prop} {xs : List α} (hl : xs.length ≤ SZ) (h : ∀ x ∈ xs, Okp (f x) (R x)) : Okp (lc f xs) fun ys => Paired R xs ys := by
  obtain ⟨ys, e, q⟩ := mapE_rel h
  exact ⟨ys, by unfold lc; rw [chk_b hl, e]; rfl, q⟩
theorem prd_r {α β : Type} {R : α → β → Prop} : ∀ {xs : List α} {ys : List β}, Paired R xs ys → ∀ y ∈ ys, ∃ x ∈ xs, R x y
  | _, _, .nil, y, h => by cases h
  | x :: xs, y :: ys, .cons r t, z, h => by
    rcases List.mem_cons.mp h with h | h
    · exact ⟨x, List.mem_cons_self .., h ▸ r⟩
    · obtain ⟨a, ha, hr⟩ := prd_r t z h
      exact ⟨a, List.mem_cons_of_mem _ ha, hr⟩
theorem prd_nd {α β : Type} {R : α → β → Prop} : ∀ {xs : List α} {ys : List β}, Paired R xs ys → xs.Nodup → (∀ a ∈ xs, ∀ b ∈ xs, ∀ y, R a y → R b y → a = b) → ys.Nodup
  | _, _, .nil, _, _ => List.nodup_nil
  | x :: xs, y :: ys, .cons r t, nd, h => by
    obtain ⟨n1, n2⟩ := List.nodup_cons.mp nd
    refine List.nodup_cons.mpr ⟨fun z => ?_, prd_nd t n2 fun a ha b hb => h a (List.mem_cons_of_mem _ ha) b (List.mem_cons_of_mem _ hb)⟩
    obtain ⟨a, ha, hr⟩ := prd_r t y z
    exact n1 (h x (List.mem_cons_self ..) a (List.mem_cons_of_mem _ ha) y r hr ▸ ha)
theorem rangeL_nd (lo : Int) (n : Nat) : (rangeL lo n).Nodup := by
  unfold rangeL
  refine List.Pairwise.map _ (fun a b h => ?_) (List.nodup_range (n := n))
  intro z
  exact h (by omega)
theorem sIx_le {n d : Nat} {v : Int} (hv : 0 ≤ v) : HT.sIx n d (some v) = min v.toNat n := by
  show (if v < 0 then _ else _) = _
  rw [if_neg (by omega)]
theorem cut_pre_len {α : Type} (t : List α) {v : Int} (hv : 0 ≤ v) : (cut t none (some v)).length = min v.toNat t.length := by
  unfold cut
  rw [List.length_take, List.length_drop, sIx_le hv]
  show min (_ - 0) (_ - 0) = _
  omega
theorem alnum_nd : alnum.Nodup := by decide +kernel
theorem emod_inj {s e e' L : Int} (h0 : 0 ≤ e) (h1 : e < L) (h2 : 0 ≤ e') (h3 : e' < L) (h : (s + e) % L = (s + e') % L) : e = e' := by
  have h4 : ((s + e) - (s + e')) % L = 0 := Int.emod_eq_emod_iff_emod_sub_eq_zero.mp h
  have h5 : (s + e) - (s + e') = e - e' := by omega
  rw [h5] at h4
  rcases Int.lt_or_le e e' with z | z
  · have : (e' - e) % L = 0 := by
      have := Int.dvd_of_emod_eq_zero h4
      have h6 : L ∣ e' - e := by
        have := Int.dvd_neg.mpr this
        rwa [Int.neg_sub] at this
      exact Int.emod_eq_zero_of_dvd h6
    rw [Int.emod_eq_of_lt (by omega) (by omega)] at this
    omega
  · rw [Int.emod_eq_of_lt (by omega) (by omega)] at h4
    omega
theorem lin1_len : ∀ {ys : List Tx}, (∀ y ∈ ys, y.length = 1) → (joinL [] ys).length = ys.length
  | [], _ => rfl
  | [y], h => h y (List.mem_cons_self ..)
  | y :: z :: r, h => by
    have ih := lin1_len (ys := z :: r) fun q hq => h q (List.mem_cons_of_mem _ hq)
    show (y ++ ([] ++ joinL [] (z :: r))).length = _
    rw [List.nil_append, List.length_append, ih, h y (List.mem_cons_self ..), List.length_cons (a := y)]
    omega
theorem names_nd (x n : Int) (f : Tx) (h0 : 0 ≤ n) (h1 : n ≤ 12) (hn : n ≤ f.length) (hf : 0 < f.length) (hf2 : f.length ≤ 1000) (hfn : f.Nodup) : Okp (m__law_names x n f) fun xs => xs.length = n.toNat ∧ (∀ y ∈ xs, Nm f y) ∧ xs.Nodup := by
  have hfz : f.length ≤ SZ := by rw [SZ_val]; omega
  have first : ∀ i : Int, 0 ≤ i → i < f.length → Okp (atT f i) fun y => ∃ c, y = [c] ∧ c ∈ f ∧ f[i.toNat]? = some c := fun i i0 i1 => by
    obtain ⟨c, e, e2⟩ := atT_ok (x := f) (i := i) i0 i1 hfz
    exact ⟨[c], e, c, rfl, List.mem_of_getElem? e2, e2⟩
  unfold m__law_names
  rw [show tx "abcdefghijklmnopqrstuvwxyz0123456789ABCDEFGHIJKLMNOPQRSTUVWXYZ" = alnum from rfl]
  simp only [pure_bind]
  refine Okp.bind (mix_ok x 0 (by decide) (by decide)) fun a ha => ?_
  simp only [divI_ok (show (0 : Int) < 5 by decide) (show (5 : Int) < 1073741824 by decide), divI_ok (show (0 : Int) < 3 by decide) (show (3 : Int) < 1073741824 by decide), divI_ok (show (0 : Int) < 33 by decide) (show (33 : Int) < 1073741824 by decide), divI_ok (show (0 : Int) < 7 by decide) (show (7 : Int) < 1073741824 by decide),
    lenT_ok hfz, pure_bind, modI_ok (show (0 : Int) < (f.length : Int) by omega), modI_ok (show (0 : Int) < 3 by decide), modI_ok (show (0 : Int) < 12 by decide), modI_ok (show (0 : Int) < 11 by decide), modI_ok (show (0 : Int) < 62 by decide), range1_ok (show -(2 ^ 62) ≤ (11 : Int) by decide) (show (11 : Int) < 2 ^ 62 by decide), okb, range1_ok (show -(2 ^ 62) ≤ n by omega) (show n < 2 ^ 62 by omega)]
  have s0 : 0 ≤ a / 5 % (f.length : Int) := Int.emod_nonneg _ (by omega)
  have s1 : a / 5 % (f.length : Int) < f.length := Int.emod_lt_of_pos _ (by omega)
  refine Okp.bind (P := fun t : Tx => t.length = 11 ∧ ∀ c ∈ t, isSign c = true) ?_ fun t ⟨t1, t2⟩ => ?_
  · refine Okp.bind (lc_ok (Q := fun y : Tx => ∃ c, y = [c] ∧ isSign c = true) (by rw [rangeL_len, SZ_val]; decide) fun e he => ?_) fun ys ⟨hl, hy⟩ => ?_
    · have hb := mem_rangeL he
      rw [divI_ok (show (0 : Int) < e + 1 by omega) (show e + 1 < 1073741824 by omega), pure_bind, mulI_l (show (-(2 ^ 64) : Int) < e by omega) (show e < 2 ^ 64 by omega), pure_bind]
      exact at_alnum (by omega) (by omega)
    · rw [rangeL_len] at hl
      have l1 : ∀ y ∈ ys, y.length = 1 := fun y h => by obtain ⟨c, rfl, _⟩ := hy y h; rfl
      have e0 : (tx "").length = 0 := by decide +kernel
      have s2 := sum_le (k := 1) (xs := ys) fun y h => Nat.le_of_eq (l1 y h)
      have hl' : ys.length = 11 := hl
      refine ⟨_, joinM_ok (by rw [e0]; omega), by rw [show tx "" = [] from rfl, lin1_len l1]; exact hl', fun c hc => ?_⟩
      rcases joinL_mem _ _ hc with h | ⟨y, h1, h2⟩
      · exact absurd h (by rw [show tx "" = [] from rfl]; exact List.not_mem_nil)
      · obtain ⟨d, rfl, hd⟩ := hy y h1
        rw [List.mem_singleton.mp h2]; exact hd
  have tz : t.length ≤ SZ := by rw [SZ_val]; omega
  have mk : ∀ (hi : Option Int) (j : Int), 0 ≤ j → j < f.length → Okp (atT f j >>= fun x => cutT t none hi >>= fun y => addT x y) (fun y => Nm f y ∧ y.length = 1 + (cut t none hi).length ∧ ∃ c r, y = c :: r ∧ f[j.toNat]? = some c) := fun hi j j0 j1 => by
    refine Okp.bind (first j j0 j1) fun y ⟨c, e, hc, hj⟩ => ?_
    subst e
    have hl := cut_len t none hi
    rw [cutT_ok tz, okb, addT_ok (by show 1 + _ ≤ SZ; rw [SZ_val]; omega)]
    exact ⟨_, rfl, ⟨c, cut t none hi, rfl, hc, by omega, fun d hd => t2 d (cut_mem hd)⟩, by rw [List.length_append]; rfl, c, _, rfl, hj⟩
  by_cases h3 : a % 3 = 0
  · simp only [h3, decide_true, if_true]
    refine Okp.imp (lc_rel (R := fun e y => Nm f y ∧ y.length = 1 + (cut t none (some e)).length) (by rw [rangeL_len, SZ_val]; omega) fun e he => ?_) fun ys p => ⟨?_, fun y hy => ?_, ?_⟩
    · exact Okp.imp (mk _ _ s0 s1) fun y h => ⟨h.1, h.2.1⟩
    · rw [← Paired.length p, rangeL_len]
    · obtain ⟨_, _, h, _⟩ := prd_r p y hy
      exact h
    · refine prd_nd p (rangeL_nd _ _) fun e he e' he' y h h' => ?_
      have b1 := mem_rangeL he
      have b2 := mem_rangeL he'
      have l1 := h.2.symm.trans h'.2
      rw [cut_pre_len t b1.1, cut_pre_len t b2.1] at l1
      omega
  simp only [h3, decide_false, Bool.false_eq_true, if_false]
  by_cases h4 : a % 3 = 1
  · simp only [h4, decide_true, if_true]
    refine Okp.imp (lc_rel (R := fun e y => Nm f y ∧ ∃ c r, y = c :: r ∧ f[((a / 5 % (f.length : Int) + e) % (f.length : Int)).toNat]? = some c) (by rw [rangeL_len, SZ_val]; omega) fun e he => ?_) fun ys p => ⟨?_, fun y hy => ?_, ?_⟩
    · exact Okp.imp (mk _ _ (Int.emod_nonneg _ (by omega)) (Int.emod_lt_of_pos _ (by omega))) fun y h => ⟨h.1, h.2.2⟩
    · rw [← Paired.length p, rangeL_len]
    · obtain ⟨_, _, h, _⟩ := prd_r p y hy
      exact h
    · refine prd_nd p (rangeL_nd _ _) fun e he e' he' y ⟨_, c, r, hy, hc⟩ ⟨_, c', r', hy', hc'⟩ => ?_
      have b1 := mem_rangeL he
      have b2 := mem_rangeL he'
      rw [hy] at hy'
      cases hy'
      have p1 := Int.emod_nonneg (a / 5 % (f.length : Int) + e) (show (f.length : Int) ≠ 0 by omega)
      have p2 := Int.emod_lt_of_pos (a / 5 % (f.length : Int) + e) (show 0 < (f.length : Int) by omega)
      have p3 := Int.emod_nonneg (a / 5 % (f.length : Int) + e') (show (f.length : Int) ≠ 0 by omega)
      have q := (List.getElem?_inj (i := ((a / 5 % (f.length : Int) + e) % (f.length : Int)).toNat) (by omega) hfn).mp (hc.trans hc'.symm)
      exact emod_inj (s := a / 5 % (f.length : Int)) (L := (f.length : Int)) b1.1 (by omega) b2.1 (by omega) (by omega)
  simp only [h4, decide_false, Bool.false_eq_true, if_false, modI_ok (show (0 : Int) < a / 3 % 11 + 1 by omega), pure_bind]
  refine Okp.bind (lc_rel (R := fun e y => ∃ c, y = [c] ∧ isSign c = true ∧ alnum[((a / 7 + e) % 62).toNat]? = some c) (by rw [rangeL_len, SZ_val]; omega) fun e he => ?_) fun ys p => ?_
  · obtain ⟨c, e1, e2⟩ := atT_ok (x := alnum) (i := (a / 7 + e) % 62) (by omega) (by rw [alnum_len]; omega) (by rw [alnum_len, SZ_val]; omega)
    exact ⟨[c], e1, c, rfl, sign_of_alnum (List.mem_of_getElem? e2), e2⟩
  have yl : ys.length = n.toNat := by rw [← Paired.length p, rangeL_len]
  have ynd : ys.Nodup := by
    refine prd_nd p (rangeL_nd _ _) fun e he e' he' y ⟨c, hy, _, hc⟩ ⟨c', hy', _, hc'⟩ => ?_
    have b1 := mem_rangeL he
    have b2 := mem_rangeL he'
    rw [hy] at hy'
    cases hy'
    have q := (List.getElem?_inj (i := ((a / 7 + e) % 62).toNat) (by rw [alnum_len]; omega) alnum_nd).mp (hc.trans hc'.symm)
    omega
  have g0 : 0 ≤ a / 33 % (a / 3 % 11 + 1) := Int.emod_nonneg _ (by omega)
  have g1 : a / 33 % (a / 3 % 11 + 1) < a / 3 % 11 + 1 := Int.emod_lt_of_pos _ (by omega)
  have hpl : (cut t none (some (a / 33 % (a / 3 % 11 + 1)))).length = (a / 33 % (a / 3 % 11 + 1)).toNat := by rw [cut_pre_len t g0]; omega
  refine Okp.imp (lc_rel (R := fun e y => Nm f y ∧ ∃ d, e = [d] ∧ y[1 + (a / 33 % (a / 3 % 11 + 1)).toNat]? = some d) (by rw [SZ_val]; omega) fun e he => ?_) fun zs q => ⟨?_, fun y hy => ?_, ?_⟩
  · obtain ⟨_, _, d, rfl, hd, _⟩ := prd_r p e he
    simp only [bind_assoc]
    refine Okp.bind (first _ s0 s1) fun y ⟨c, e, hc, _⟩ => ?_
    subst e
    have two : (cut t none (some (a / 33 % (a / 3 % 11 + 1)))).length + (cut t (some (a / 33 % (a / 3 % 11 + 1))) (some (a / 3 % 11))).length ≤ 10 := by
      rw [hpl]
      unfold cut
      rw [List.length_take, List.length_drop, sIx_le (by omega), sIx_le g0]
      omega
    rw [cutT_ok tz, okb, addT_ok (by show 1 + _ ≤ SZ; rw [SZ_val]; omega), pure_bind, addT_ok (by simp only [List.length_append, List.length_cons, List.length_nil]; rw [SZ_val]; omega), pure_bind, cutT_ok tz, okb, addT_ok (by simp only [List.length_append, List.length_cons, List.length_nil]; rw [SZ_val]; omega)]
    refine ⟨_, rfl, ⟨c, cut t none (some (a / 33 % (a / 3 % 11 + 1))) ++ [d] ++ cut t (some (a / 33 % (a / 3 % 11 + 1))) (some (a / 3 % 11)), by simp, hc, ?_, fun u hu => ?_⟩, d, rfl, ?_⟩
    · simp only [List.length_append, List.length_cons, List.length_nil]; omega
    · simp only [List.mem_append, List.mem_singleton] at hu
      rcases hu with (h | h) | h
      · exact t2 u (cut_mem h)
      · rw [h]; exact hd
      · exact t2 u (cut_mem h)
    · have el : ([c] ++ cut t none (some (a / 33 % (a / 3 % 11 + 1)))).length = 1 + (a / 33 % (a / 3 % 11 + 1)).toNat := by rw [List.length_append, hpl]; rfl
      rw [List.append_assoc, List.getElem?_append_right (by rw [el]; exact Nat.le_refl _), el, Nat.sub_self]
      rfl
  · rw [← Paired.length q, yl]
  · obtain ⟨_, _, h, _⟩ := prd_r q y hy
    exact h
  · exact prd_nd q ynd fun e he e' he' y ⟨_, d, h1, h2⟩ ⟨_, d', h1', h2'⟩ => by
      rw [h2] at h2'
      cases h2'
      rw [h1, h1']
theorem forP_ind {S α : Type} {f : S → α → M S} (I : Nat → S → Prop) : ∀ (xs : List α) (k : Nat) (s : S), (∀ (j : Nat) (s : S) (x : α), x ∈ xs → j < k + xs.length → I j s → Okp (f s x) (I (j + 1))) → I k s → Okp (forP f s xs) (I (k + xs.length))
  | [], k, s, _, h => ⟨s, rfl, h⟩
  | x :: xs, k, s, hf, h => by
    refine Okp.bind (hf k s x (List.mem_cons_self ..) (by rw [List.length_cons]; omega) h) fun s' h' => ?_
    have := forP_ind I xs (k + 1) s' (fun j s y hy hj => hf j s y (List.mem_cons_of_mem _ hy) (by rw [List.length_cons]; omega)) h'
    rw [show k + 1 + xs.length = k + (x :: xs).length by rw [List.length_cons]; omega] at this
    exact this
theorem small_nd : small.Nodup := by decide +kernel
theorem spaces_sp {hi : Option Int} : sp (cut (tx "   ") none hi) := fun c hc => by
  have := cut_mem hc
  revert this
  rw [show tx "   " = [32, 32, 32] from rfl]
  simp
theorem spaces_len {hi : Option Int} : (cut (tx "   ") none hi).length ≤ 3 := cut_len _ _ _
theorem blank_len : (tx "   ").length ≤ SZ := by rw [SZ_val, show (tx "   ").length = 3 from rfl]; omega
theorem spaces_ne {v : Int} (h : 1 ≤ v) : cut (tx "   ") none (some v) ≠ [] := fun z => by
  have := cut_pre_len (tx "   ") (v := v) (by omega)
  rw [z, show (tx "   ").length = 3 from rfl] at this
  have : 0 = min v.toNat 3 := this
  omega
theorem bare_sp : ∀ {s : Tx} (x : Tx), sp s → bare (s ++ x) = bare x
  | [], x, _ => rfl
  | c :: s, x, h => by
    have hc := h c (List.mem_cons_self ..)
    subst hc
    exact bare_sp (s := s) x fun d hd => h d (List.mem_cons_of_mem _ hd)
theorem isOut_hash {s r : Tx} (h : sp s) : isOut (s ++ 35 :: r) = true := by
  unfold isOut
  rw [bare_sp _ h]
  rfl
theorem isOut_blank {s : Tx} (h : sp s) : isOut s = true := by
  have := bare_sp [] h
  rw [List.append_nil] at this
  unfold isOut
  rw [this]
  rfl
theorem sp_no {s : Tx} (h : sp s) : 10 ∉ s := fun z => absurd (h 10 z) (by decide)
theorem nm_no {t : Tx} (h : nmT t) : 10 ∉ t := fun z => by
  have := h.2 10 z
  rw [show isSign 10 = false by decide +kernel] at this
  cases this
theorem okw_no : ∀ {ps : List (Tx × Tx)} {b : Bool}, okw b ps → 10 ∉ weave ps
  | [], _, _ => fun z => by cases z
  | (s, t) :: r, b, ⟨hs, ht⟩ => fun z => by
    rcases List.mem_append.mp z with z | z
    · exact sp_no hs z
    · rcases ht with ⟨h1, _, h2⟩ | ⟨⟨c, rfl, h1, _⟩, h2⟩
      · rcases List.mem_append.mp z with z | z
        · exact nm_no h1 z
        · exact okw_no h2 z
      · rcases List.mem_append.mp z with z | z
        · have z := List.mem_singleton.mp z
          subst z
          rw [show isMark 10 = false by decide +kernel] at h1
          cases h1
        · exact okw_no h2 z
/-! kinds as text -/
def GK (k : K3) : Prop := isKd k.a = true ∧ 0 ≤ k.b ∧ k.b < 5
def figt (i : Int) : Tx := [48 + i.toNat]
def wordK (c : Bool) : Tx := if c = true then lastW else passW
def kline (k : K3) : Tx := wordK k.c ++ [32] ++ k.a ++ [32] ++ figt k.b
theorem five {P : Int → Prop} (h : P 0 ∧ P 1 ∧ P 2 ∧ P 3 ∧ P 4) (i : Int) (h0 : 0 ≤ i) (h1 : i < 5) : P i := by
  have : i = 0 ∨ i = 1 ∨ i = 2 ∨ i = 3 ∨ i = 4 := by omega
  rcases this with rfl | rfl | rfl | rfl | rfl
  · exact h.1
  · exact h.2.1
  · exact h.2.2.1
  · exact h.2.2.2.1
  · exact h.2.2.2.2
theorem strI_fig (i : Int) (h0 : 0 ≤ i) (h1 : i < 5) : strI i = .ok (figt i) := by
  have key : ∀ i : Int, tx (toString i) = figt i → i.natAbs.log2 < 1920 → strI i = .ok (figt i) := fun i e l => by
    unfold strI
    rw [chk_b l, e]
    rfl
  refine five (P := fun i => strI i = .ok (figt i)) ⟨?_, ?_, ?_, ?_, ?_⟩ i h0 h1 <;> exact key _ (by decide +kernel) (by decide +kernel)
theorem figI_t (i : Int) (h0 : 0 ≤ i) (h1 : i < 5) : figI (figt i) = i ∧ figt i ∈ sizesT ∧ nmT (figt i) := by
  have key : ∀ i : Int, isNm (figt i) = true → figI (figt i) = i ∧ figt i ∈ sizesT → figI (figt i) = i ∧ figt i ∈ sizesT ∧ nmT (figt i) := fun i h h2 => ⟨h2.1, h2.2, nmT_of h⟩
  refine five (P := fun i => figI (figt i) = i ∧ figt i ∈ sizesT ∧ nmT (figt i)) ⟨?_, ?_, ?_, ?_, ?_⟩ i h0 h1 <;> exact key _ (by decide +kernel) (by decide +kernel)
theorem wordK_ok (c : Bool) : nmT (wordK c) ∧ (wordK c = passW ∨ wordK c = lastW) ∧ decide (wordK c = lastW) = c ∧ (wordK c).length = 7 := by
  have n1 : isNm passW = true := by decide +kernel
  have n2 : isNm lastW = true := by decide +kernel
  cases c with
  | true => exact ⟨nmT_of n2, .inr rfl, by decide +kernel, by decide +kernel⟩
  | false => exact ⟨nmT_of n1, .inl rfl, by decide +kernel, by decide +kernel⟩
/-- a kind's line with blanks -/
theorem ln_k3 {k : K3} (h : GK k) {s1 s2 s3 s4 : Tx} (h1 : sp s1) (h2 : sp s2) (h3 : sp s3) (h4 : sp s4) (n2 : s2 ≠ []) (n3 : s3 ≠ []) (l : s1.length + s2.length + s3.length + s4.length ≤ 100) :
    Ln (s1 ++ wordK k.c ++ s2 ++ k.a ++ s3 ++ figt k.b ++ s4) (some (.inl k)) ∧ 10 ∉ s1 ++ wordK k.c ++ s2 ++ k.a ++ s3 ++ figt k.b ++ s4 ∧ (s1 ++ wordK k.c ++ s2 ++ k.a ++ s3 ++ figt k.b ++ s4).length ≤ 200 := by
  obtain ⟨w1, w2, w3, w4⟩ := wordK_ok k.c
  obtain ⟨f1, f2, f3⟩ := figI_t k.b h.2.1 h.2.2
  have kn := nmT_of (isKd_nm h.1)
  have kl := isNm_len (isKd_nm h.1)
  have e : s1 ++ wordK k.c ++ s2 ++ k.a ++ s3 ++ figt k.b ++ s4 = weave [(s1, wordK k.c), (s2, k.a), (s3, figt k.b)] ++ s4 := by
    unfold weave weave weave weave
    simp only [List.append_assoc, List.append_nil]
  have ok : okw false [(s1, wordK k.c), (s2, k.a), (s3, figt k.b)] := ⟨h1, .inl ⟨w1, .inl rfl, h2, .inl ⟨kn, .inr n2, h3, .inl ⟨f3, .inr n3, trivial⟩⟩⟩⟩
  have ln : (s1 ++ wordK k.c ++ s2 ++ k.a ++ s3 ++ figt k.b ++ s4).length ≤ 200 := by
    simp only [List.length_append, w4]
    have : (figt k.b).length = 1 := rfl
    omega
  refine ⟨?_, ?_, ln⟩
  · have := ln_kind (x := s1 ++ wordK k.c ++ s2 ++ k.a ++ s3 ++ figt k.b ++ s4) (w := wordK k.c) (nm := k.a) (f := figt k.b) (by rw [SZ_val]; omega) (by rw [e]; exact okw_notOut ok (fun z => by cases z)) (by rw [e, pcs_okw ok h4]; rfl) w2 h.1 f2
    rw [f1, w3] at this
    exact this
  · rw [e]
    intro z
    rcases List.mem_append.mp z with z | z
    · exact okw_no ok z
    · exact sp_no h4 z
theorem kline_len {k : K3} (h : GK k) : (kline k).length ≤ 30 := by
  obtain ⟨_, _, _, w4⟩ := wordK_ok k.c
  have kl := isNm_len (isKd_nm h.1)
  unfold kline figt
  simp only [List.length_append, w4, List.length_singleton]
  omega
theorem kinds_text {g : List Tx → K3 → M (List Tx)} (hg : ∀ s k, GK k → s.length < SZ → g s k = .ok (s ++ [kline k])) : ∀ (ks : List K3) (s : List Tx), (∀ k ∈ ks, GK k) → s.length + ks.length < SZ → forP g s ks = .ok (s ++ ks.map kline)
  | [], s, _, _ => by show Except.ok s = _; rw [List.map_nil, List.append_nil]
  | k :: ks, s, h, hl => by
    rw [List.length_cons] at hl
    show (g s k >>= fun s => forP g s ks) = _
    rw [hg s k (h k (List.mem_cons_self ..)) (by omega), okb, kinds_text hg ks _ (fun q hq => h q (List.mem_cons_of_mem _ hq)) (by rw [List.length_append, List.length_singleton]; omega), List.append_assoc]
    rfl
theorem klines_sum {ks : List K3} (h : ∀ k ∈ ks, GK k) (hl : ks.length ≤ 100) : ((ks.map kline).map (·.length)).sum + (ks.map kline).length * ([10] : Tx).length ≤ 16777216 := by
  have := sum_le (k := 30) (xs := ks.map kline) fun x hx => by
    obtain ⟨k, hk, rfl⟩ := List.mem_map.mp hx
    exact kline_len (h k hk)
  rw [List.length_map] at this ⊢
  rw [List.length_singleton]
  omega
theorem ad500 {a b : Tx} (ha : a.length ≤ 500) (hb : b.length ≤ 500) : addT a b = .ok (a ++ b) := addT_ok (by rw [SZ_val]; omega)
theorem kadd {k : K3} (h : GK k) {w : Tx} (hw : w = wordK k.c ++ [32]) : (addT w k.a >>= fun x => addT x [32] >>= fun y => strI k.b >>= fun z => addT y z) = .ok (kline k) := by
  obtain ⟨_, _, _, w4⟩ := wordK_ok k.c
  have kl := isNm_len (isKd_nm h.1)
  subst hw
  rw [ad500 (by rw [List.length_append, w4]; decide) (by omega), okb, ad500 (by simp only [List.length_append, w4, List.length_singleton]; omega) (by decide), okb, strI_fig _ h.2.1 h.2.2, okb, ad500 (by simp only [List.length_append, w4, List.length_singleton]; omega) (by show 1 ≤ 500; decide)]
  rfl
theorem forT_all {α R : Type} {f : Unit → α → M (Tl Unit R)} : ∀ {xs : List α}, (∀ x ∈ xs, f () x = .ok (.ct ())) → forT f () xs = .ok (.inl ())
  | [], _ => rfl
  | x :: xs, h => by
    unfold forT
    rw [h x (List.mem_cons_self ..)]
    exact forT_all fun z hz => h z (List.mem_cons_of_mem _ hz)
/-! parts of a rule, parsed -/
def suf {α : Type} (p : List Tx → Option (α × List Tx)) : Prop := ∀ l a r, p l = some (a, r) → r.length < l.length ∧ r = l.drop (l.length - r.length)
def sepP {α : Type} (p : List Tx → Option (α × List Tx)) : Nat → List Tx → Option (List α × List Tx)
  | 0, _ => none
  | n + 1, l => match p l with
    | none => none
    | some (a, r) => if hd r = [44] then (sepP p n r.tail).map fun s => (a :: s.1, s.2) else some ([a], r)
theorem sepP_succ {α : Type} (p : List Tx → Option (α × List Tx)) (n : Nat) (l : List Tx) : sepP p (n + 1) l = match p l with
    | none => none
    | some (a, r) => if hd r = [44] then (sepP p n r.tail).map fun s => (a :: s.1, s.2) else some ([a], r) := rfl
theorem sepP_fuel {α : Type} {p : List Tx → Option (α × List Tx)} (hp : suf p) : ∀ (n m : Nat) (l : List Tx), l.length < n → l.length < m → sepP p n l = sepP p m l
  | 0, _, l, h, _ => absurd h (Nat.not_lt_zero _)
  | _ + 1, 0, l, _, h => absurd h (Nat.not_lt_zero _)
  | n + 1, m + 1, l, h1, h2 => by
    rw [sepP_succ, sepP_succ]
    cases e : p l with
    | none => rfl
    | some s =>
      obtain ⟨a, r⟩ := s
      have := (hp l a r e).1
      by_cases c : hd r = [44]
      · simp only [c, if_true]
        have hl : r.tail.length < l.length := by rw [List.length_tail]; omega
        rw [sepP_fuel hp n m r.tail (by omega) (by omega)]
      · simp only [c, if_false]
theorem sepP_suf {α : Type} {p : List Tx → Option (α × List Tx)} (hp : suf p) : ∀ (n : Nat), suf (sepP p n)
  | 0 => fun l a r h => by cases h
  | n + 1 => fun l as r' h => by
    rw [sepP_succ] at h
    cases e : p l with
    | none => rw [e] at h; cases h
    | some s =>
      obtain ⟨a, r⟩ := s
      rw [e] at h
      obtain ⟨h1, h2⟩ := hp l a r e
      by_cases c : hd r = [44]
      · simp only [c, if_true] at h
        cases e2 : sepP p n r.tail with
        | none => rw [e2] at h; cases h
        | some s2 =>
          rw [e2] at h
          cases h
          obtain ⟨b, q⟩ := s2
          obtain ⟨h3, h4⟩ := sepP_suf hp n r.tail b q e2
          have rn : 0 < r.length := by
            cases r with
            | nil => cases c
            | cons _ _ => exact Nat.succ_pos _
          rw [List.length_tail] at h3
          refine ⟨by show q.length < _; omega, ?_⟩
          show q = _
          have h5 : r.tail = l.drop (l.length - r.length + 1) := by rw [← tail_drop', ← h2]
          rw [h4, h5, List.drop_drop, List.length_drop, List.length_drop]
          refine congrArg (fun k => l.drop k) ?_
          omega
      · simp only [c, if_false] at h
        cases h
        exact ⟨h1, h2⟩
theorem suf_at {α : Type} {p : List Tx → Option (α × List Tx)} (hp : suf p) {xs : List Tx} {i : Nat} {a : α} {r : List Tx} (h : p (xs.drop i) = some (a, r)) : r = xs.drop (xs.length - r.length) ∧ r.length < (xs.drop i).length := by
  obtain ⟨h1, h2⟩ := hp _ _ _ h
  refine ⟨?_, h1⟩
  have h3 := h2
  rw [List.drop_drop, List.length_drop] at h3
  rw [List.length_drop] at h1
  have e : i + (xs.length - i - r.length) = xs.length - r.length := by omega
  rw [e] at h3
  exact h3
/-- the loop of a part: items, parted by commas -/
theorem sep_loop {α : Type} {p : List Tx → Option (α × List Tx)} (hp : suf p) {xs : List Tx} {mr : Int × List α → M (List α × Int)} {g : Int × List α → M (Tl (Int × List α) (List α × Int))}
    (hg : ∀ (i : Nat) (acc : List α), i ≤ xs.length → acc.length < SZ → g ((i : Int), acc) = match p (xs.drop i) with
      | none => raise "NoLine"
      | some (f, rest) => if hd rest = [44] then .ok (.ct (((xs.length - rest.length + 1 : Nat) : Int), acc ++ [f])) else .ok (.rt (acc ++ [f], ((xs.length - rest.length : Nat) : Int)))) :
    ∀ (fuel i : Nat) (acc : List α), acc.length + xs.length < SZ + i → xs.length < fuel + i → i ≤ xs.length →
    (whT (fun _ => (pure true : M Bool)) g fuel ((i : Int), acc) >>= thenT mr id) = match sepP p ((xs.drop i).length + 1) (xs.drop i) with
      | some (fs, rest) => .ok (acc ++ fs, ((xs.length - rest.length : Nat) : Int))
      | none => raise "NoLine" := by
  intro fuel
  induction fuel with
  | zero => intro i acc h1 h2 h3; omega
  | succ fuel ih =>
    intro i acc h1 h2 h3
    unfold whT
    rw [pure_bind, if_pos rfl, hg i acc h3 (by omega), sepP_succ]
    cases e : p (xs.drop i) with
    | none => rfl
    | some s =>
      obtain ⟨f, r⟩ := s
      obtain ⟨e3, hr⟩ := suf_at hp e
      have hr' := hr
      rw [List.length_drop] at hr'
      by_cases c1 : hd r = [44]
      · have rn : r ≠ [] := fun z => by rw [z] at c1; cases c1
        have rl : 0 < r.length := List.length_pos_iff.mpr rn
        have e4 : r.tail = xs.drop (xs.length - r.length + 1) := by rw [← tail_drop', ← e3]
        simp only [c1, if_true]
        have := ih (xs.length - r.length + 1) (acc ++ [f]) (by rw [List.length_append, List.length_singleton]; omega) (by omega) (by omega)
        refine Eq.trans this ?_
        rw [← e4, sepP_fuel hp (xs.drop i).length (r.tail.length + 1) r.tail (by rw [List.length_tail]; omega) (by omega)]
        cases sepP p (r.tail.length + 1) r.tail with
        | none => rfl
        | some s2 =>
          show Except.ok (acc ++ [f] ++ s2.1, _) = Except.ok (acc ++ f :: s2.1, _)
          rw [List.append_assoc]
          rfl
      · simp only [c1, if_false]
        rfl
theorem suf_pF : suf (α := Fct) pF := fun l a r h => by
  have h1 := pF_len h
  refine ⟨h1, ?_⟩
  exact pF_suffix0 h
def sameW : Tx := tx "same"
def unlikeW : Tx := tx "unlike"
def pLook (l : List Tx) : Option (C_Look × List Tx) := if isNm (hd l) = true ∧ isNm (hd (l.drop 2)) = true then
    (if hd (l.drop 1) = sameW then some (⟨1, (hd l, hd (l.drop 2), ())⟩, l.drop 3) else if hd (l.drop 1) = unlikeW then some (⟨2, (hd l, hd (l.drop 2), ())⟩, l.drop 3) else none) else none
def pPair (l : List Tx) : Option ((Tx × Tx) × List Tx) := if isNm (hd l) = true ∧ hd (l.drop 1) = [61] ∧ isNm (hd (l.drop 2)) = true then some ((hd l, hd (l.drop 2)), l.drop 3) else none
theorem isNm_three {l : List Tx} (h : isNm (hd (l.drop 2)) = true) : 3 ≤ l.length := by
  rcases Nat.lt_or_ge l.length 3 with z | z
  · rw [List.drop_eq_nil_of_le (by omega)] at h
    exact absurd h (by decide)
  · exact z
theorem drop3 {l : List Tx} (h : 3 ≤ l.length) : (l.drop 3).length < l.length ∧ l.drop 3 = l.drop (l.length - (l.drop 3).length) := by
  rw [List.length_drop]
  refine ⟨by omega, ?_⟩
  rw [show l.length - (l.length - 3) = 3 by omega]
theorem suf_pLook : suf pLook := fun l a r h => by
  unfold pLook at h
  by_cases c : isNm (hd l) = true ∧ isNm (hd (l.drop 2)) = true
  · rw [if_pos c] at h
    have := drop3 (isNm_three c.2)
    by_cases c2 : hd (l.drop 1) = sameW
    · rw [if_pos c2] at h; cases h; exact this
    · rw [if_neg c2] at h
      by_cases c3 : hd (l.drop 1) = unlikeW
      · rw [if_pos c3] at h; cases h; exact this
      · rw [if_neg c3] at h; cases h
  · rw [if_neg c] at h; cases h
theorem suf_pPair : suf pPair := fun l a r h => by
  unfold pPair at h
  by_cases c : isNm (hd l) = true ∧ hd (l.drop 1) = [61] ∧ isNm (hd (l.drop 2)) = true
  · rw [if_pos c] at h; cases h; exact drop3 (isNm_three c.2.2)
  · rw [if_neg c] at h; cases h
theorem nat_add_int (i k : Nat) : ((i : Int) + (k : Int)) = ((i + k : Nat) : Int) := by omega
theorem take_facts_eq {xs : List Tx} (hx : tks xs) {i : Nat} (hi : i ≤ xs.length) : m_take_facts xs (i : Int) = match sepP (α := Fct) pF ((xs.drop i).length + 1) (xs.drop i) with
    | some (fs, rest) => .ok (fs, ((xs.length - rest.length : Nat) : Int))
    | none => raise "NoLine" := by
  unfold m_take_facts
  simp only [pure_bind]
  rw [sep_loop suf_pF (fun j acc hj ha => ?_) FUEL i [] (by have := hx.1; simp; omega) (by have := hx.1; rw [SZ_val] at this; show _ < 1000000000000 + i; omega) hi]
  · cases sepP (α := Fct) pF ((xs.drop i).length + 1) (xs.drop i) <;> rfl
  · simp only [take_fact_eq hx hj]
    cases e : pF (xs.drop j) with
    | none => rfl
    | some s =>
      obtain ⟨f, r⟩ := s
      obtain ⟨e3, _⟩ := suf_at suf_pF e
      simp only [okb, pure_bind]
      rw [chk_b ha, pure_bind]
      simp only [piece_eq, okb]
      rw [← e3]
      by_cases c : hd r = [44]
      · simp only [tx_comma, c, decide_true, Bool.not_true, Bool.false_eq_true, if_false, if_true]
        rfl
      · simp only [tx_comma, c, decide_false, Bool.not_false, if_true, if_false]
        rfl
theorem rest_idx {xs : List Tx} {j : Nat} (h : 3 ≤ (xs.drop j).length) : xs.length - ((xs.drop j).drop 3).length = j + 3 := by
  rw [List.length_drop] at h
  rw [List.length_drop, List.length_drop]; omega
theorem hd_dd {xs : List Tx} {j k : Nat} : hd ((xs.drop j).drop k) = hd (xs.drop (j + k)) := by rw [List.drop_drop]
theorem take_looks_eq {xs : List Tx} (hx : tks xs) {i : Nat} (hi : i ≤ xs.length) : m_take_looks xs (i : Int) = match sepP pLook ((xs.drop i).length + 1) (xs.drop i) with
    | some (fs, rest) => .ok (fs, ((xs.length - rest.length : Nat) : Int))
    | none => raise "NoLine" := by
  unfold m_take_looks
  simp only [pure_bind]
  rw [sep_loop suf_pLook (fun j acc hj ha => ?_) FUEL i [] (by have := hx.1; simp; omega) (by have := hx.1; rw [SZ_val] at this; show _ < 1000000000000 + i; omega) hi]
  · cases sepP pLook ((xs.drop i).length + 1) (xs.drop i) <;> rfl
  · have e1 : ((j : Int) + 1) = ((j + 1 : Nat) : Int) := by omega
    have e2 : ((j : Int) + 2) = ((j + 2 : Nat) : Int) := by omega
    have e3 : ((j : Int) + 3) = ((j + 3 : Nat) : Int) := by omega
    have init : ∀ a b : Tx, m_Look___init__ a b = .ok (a, b, ()) := fun _ _ => rfl
    simp only [e1, e2, e3, piece_eq, okb, is_name_eq (hd_len hx _), init, pure_bind]
    unfold pLook
    rw [hd_dd, hd_dd]
    by_cases n1 : isNm (hd (xs.drop j)) = true
    · by_cases n2 : isNm (hd (xs.drop (j + 2))) = true
      · have l3 : 3 ≤ (xs.drop j).length := isNm_three (by rw [hd_dd]; exact n2)
        have ri := rest_idx l3
        have rest : ∀ k : C_Look, ((chk (acc.length < SZ) >>= fun _ => pure k) >>= fun a => pure (acc ++ [a]) >>= fun s27 => if (!decide (hd (xs.drop (j + 3)) = tx ",")) = true then (pure (.rt (s27, ((j + 3 : Nat) : Int))) : M (Tl (Int × List C_Look) (List C_Look × Int))) else pure (.ct (((j + 3 : Nat) : Int) + 1, s27))) =
            if hd ((xs.drop j).drop 3) = [44] then .ok (.ct (((xs.length - ((xs.drop j).drop 3).length + 1 : Nat) : Int), acc ++ [k])) else .ok (.rt (acc ++ [k], ((xs.length - ((xs.drop j).drop 3).length : Nat) : Int))) := fun k => by
          rw [chk_b ha, pure_bind, pure_bind, hd_dd, ri, tx_comma]
          by_cases c : hd (xs.drop (j + 3)) = [44]
          · rw [if_pos c, decide_eq_true c, if_neg (by decide)]; rfl
          · rw [if_neg c, decide_eq_false c, if_pos (show (!false) = true from rfl)]; rfl
        simp only [n1, n2, Bool.not_true, Bool.false_eq_true, if_false, and_self, if_true]
        by_cases c1 : hd (xs.drop (j + 1)) = sameW
        · have c1' : hd (xs.drop (j + 1)) = tx "same" := c1
          rw [if_pos c1]
          simp only [c1', decide_true, if_true, bind_assoc, pure_bind]
          have := rest ⟨1, (hd (xs.drop j), hd (xs.drop (j + 2)), ())⟩
          simp only [bind_assoc, pure_bind] at this
          exact this
        · have c1' : ¬ hd (xs.drop (j + 1)) = tx "same" := c1
          rw [if_neg c1]
          by_cases c2 : hd (xs.drop (j + 1)) = unlikeW
          · have c2' : hd (xs.drop (j + 1)) = tx "unlike" := c2
            have ne : decide (tx "unlike" = tx "same") = false := by decide
            rw [if_pos c2]
            simp only [c2', ne, decide_true, Bool.false_eq_true, if_false, if_true, bind_assoc, pure_bind]
            have := rest ⟨2, (hd (xs.drop j), hd (xs.drop (j + 2)), ())⟩
            simp only [bind_assoc, pure_bind] at this
            exact this
          · have c2' : ¬ hd (xs.drop (j + 1)) = tx "unlike" := c2
            rw [if_neg c2]
            simp only [c1', c2', decide_false, Bool.false_eq_true, if_false]
            rfl
      · have n2' : isNm (hd (xs.drop (j + 2))) = false := by simpa using n2
        simp only [n1, n2', Bool.not_true, Bool.not_false, Bool.false_eq_true, and_false, if_false, if_true, pure_bind]
    · have n1' : isNm (hd (xs.drop j)) = false := by simpa using n1
      simp only [n1', Bool.not_false, if_true, pure_bind, Bool.false_eq_true, false_and, if_false]
theorem take_pairs_eq {xs : List Tx} (hx : tks xs) {i : Nat} (hi : i ≤ xs.length) : m_take_pairs xs (i : Int) = match sepP pPair ((xs.drop i).length + 1) (xs.drop i) with
    | some (fs, rest) => .ok (fs, ((xs.length - rest.length : Nat) : Int))
    | none => raise "NoLine" := by
  unfold m_take_pairs
  simp only [pure_bind]
  rw [sep_loop suf_pPair (fun j acc hj ha => ?_) FUEL i [] (by have := hx.1; simp; omega) (by have := hx.1; rw [SZ_val] at this; show _ < 1000000000000 + i; omega) hi]
  · cases sepP pPair ((xs.drop i).length + 1) (xs.drop i) <;> rfl
  · have e1 : ((j : Int) + 1) = ((j + 1 : Nat) : Int) := by omega
    have e2 : ((j : Int) + 2) = ((j + 2 : Nat) : Int) := by omega
    have e3 : ((j : Int) + 3) = ((j + 3 : Nat) : Int) := by omega
    have e4 : tx "=" = [61] := rfl
    simp only [e1, e2, e3, e4, piece_eq, okb, is_name_eq (hd_len hx _), pure_bind]
    unfold pPair
    rw [hd_dd, hd_dd]
    by_cases n1 : isNm (hd (xs.drop j)) = true
    · by_cases n2 : hd (xs.drop (j + 1)) = [61]
      · by_cases n3 : isNm (hd (xs.drop (j + 2))) = true
        · have l3 : 3 ≤ (xs.drop j).length := isNm_three (by rw [hd_dd]; exact n3)
          have ri := rest_idx l3
          simp only [n1, n2, n3, decide_true, Bool.not_true, Bool.false_eq_true, if_false, and_self, if_true]
          rw [chk_b ha, pure_bind, hd_dd, ri, tx_comma]
          by_cases c : hd (xs.drop (j + 3)) = [44]
          · rw [if_pos c, decide_eq_true c, if_neg (by decide)]; rfl
          · rw [if_neg c, decide_eq_false c, if_neg Bool.false_ne_true, pure_bind, if_pos (show (!false) = true from rfl)]; rfl
        · have n3' : isNm (hd (xs.drop (j + 2))) = false := by simpa using n3
          simp only [n1, n2, n3', decide_true, Bool.not_true, Bool.not_false, Bool.false_eq_true, and_false, if_false, if_true, pure_bind]
      · simp only [n1, n2, decide_false, Bool.not_true, Bool.not_false, Bool.false_eq_true, and_false, false_and, if_false, if_true, pure_bind]
    · have n1' : isNm (hd (xs.drop j)) = false := by simpa using n1
      simp only [n1', Bool.not_false, if_true, pure_bind, Bool.false_eq_true, false_and, if_false]
def lookW : Tx := tx "look"
def tellW : Tx := tx "tell"
def pPart (w : Tx) (l : List Tx) : Option (Prt × List Tx) :=
  if w = lookW then (sepP pLook (l.length + 1) l).map fun s => (.inr (.inl s.1), s.2)
  else if w = tellW then (sepP pPair (l.length + 1) l).map fun s => (.inr (.inr s.1), s.2)
  else (sepP (α := Fct) pF (l.length + 1) l).map fun s => (.inl s.1, s.2)
theorem suf_map {α β : Type} {p : List Tx → Option (α × List Tx)} {f : α → β} (hp : suf p) : suf fun l => (p l).map fun s => (f s.1, s.2) := fun l a r h => by
  have h : (p l).map (fun s => (f s.1, s.2)) = some (a, r) := h
  cases e : p l with
  | none => rw [e] at h; cases h
  | some s =>
    rw [e] at h
    cases h
    exact hp l s.1 s.2 e
theorem suf_pPart (w : Tx) : suf (pPart w) := fun l a r h => by
  unfold pPart at h
  by_cases c1 : w = lookW
  · rw [if_pos c1] at h
    exact suf_map (f := fun x => (.inr (.inl x) : Prt)) (sepP_suf suf_pLook _) l a r h
  · rw [if_neg c1] at h
    by_cases c2 : w = tellW
    · rw [if_pos c2] at h
      exact suf_map (f := fun x => (.inr (.inr x) : Prt)) (sepP_suf suf_pPair _) l a r h
    · rw [if_neg c2] at h
      exact suf_map (f := fun x => (.inl x : Prt)) (sepP_suf suf_pF _) l a r h
theorem take_part_eq {w : Tx} {xs : List Tx} (hx : tks xs) {i : Nat} (hi : i ≤ xs.length) : m_take_part w xs (i : Int) = match pPart w (xs.drop i) with
    | some (p, rest) => .ok (p, ((xs.length - rest.length : Nat) : Int))
    | none => raise "NoLine" := by
  unfold m_take_part pPart
  simp only [pure_bind]
  by_cases c1 : w = lookW
  · have c1' : w = tx "look" := c1
    rw [if_pos c1, decide_eq_true c1', if_pos rfl, take_looks_eq hx hi]
    cases sepP pLook ((xs.drop i).length + 1) (xs.drop i) <;> rfl
  · have c1' : ¬ w = tx "look" := c1
    rw [if_neg c1, decide_eq_false c1', if_neg Bool.false_ne_true]
    by_cases c2 : w = tellW
    · have c2' : w = tx "tell" := c2
      rw [if_pos c2, decide_eq_true c2', if_pos rfl, take_pairs_eq hx hi]
      cases sepP pPair ((xs.drop i).length + 1) (xs.drop i) <;> rfl
    · have c2' : ¬ w = tx "tell" := c2
      rw [if_neg c2, decide_eq_false c2', if_neg Bool.false_ne_true, take_facts_eq hx hi]
      cases sepP (α := Fct) pF ((xs.drop i).length + 1) (xs.drop i) <;> rfl
/-! a rule's line -/
def partsT : List Tx := (["take", "keep", "look", "put", "tell"] : List String).map tx
def pParts : Nat → Nat → List Tx → List (Tx × Prt) → Option (List (Tx × Prt))
  | 0, _, _, _ => none
  | n + 1, first, l, d => if hd l ∈ partsT.drop first then
      match pPart (hd l) l.tail with
      | none => none
      | some (p, r) => if r = [] then some (dputM d (hd l) p) else if hd r = [59] then pParts n ((idx1 partsT (hd l)).getD 0 + 1) r.tail (dputM d (hd l) p) else none
    else none
theorem pParts_succ (n first : Nat) (l : List Tx) (d : List (Tx × Prt)) : pParts (n + 1) first l d = if hd l ∈ partsT.drop first then
      match pPart (hd l) l.tail with
      | none => none
      | some (p, r) => if r = [] then some (dputM d (hd l) p) else if hd r = [59] then pParts n ((idx1 partsT (hd l)).getD 0 + 1) r.tail (dputM d (hd l) p) else none
    else none := rfl
def takeW : Tx := tx "take"
def keepW : Tx := tx "keep"
def pRule (xs : List Tx) : Option Row := if isKd (hd (xs.drop 1)) = true ∧ hd (xs.drop 2) = [58] then
    match pParts (xs.length + 1) 0 (xs.drop 3) [] with
    | none => none
    | some d => if (dgetM d takeW).isSome = true ∨ (dgetM d keepW).isSome = true then some (hd (xs.drop 1), d) else none
  else none
theorem idx1_mem : ∀ {ys : List Tx} {z : Tx}, z ∈ ys → ∃ j, idx1 ys z = some j ∧ j < ys.length
  | y :: r, z, h => by
    by_cases e : y = z
    · exact ⟨0, by unfold idx1; rw [if_pos e], by rw [List.length_cons]; omega⟩
    · rcases List.mem_cons.mp h with h | h
      · exact absurd h.symm e
      · obtain ⟨j, h1, h2⟩ := idx1_mem h
        exact ⟨j + 1, by unfold idx1; rw [if_neg e, h1]; rfl, by rw [List.length_cons]; omega⟩
theorem cut_from {α : Type} (xs : List α) (n : Nat) (h : n ≤ xs.length) : cut xs (some (n : Int)) none = xs.drop n := by
  unfold cut
  rw [sIx_le (by omega)]
  show (xs.drop (min (Int.toNat (n : Int)) xs.length)).take (xs.length - min (Int.toNat (n : Int)) xs.length) = _
  rw [Int.toNat_natCast, Nat.min_eq_left h, List.take_of_length_le (by rw [List.length_drop]; omega)]
theorem parts_loop {xs : List Tx} (hx : tks xs) {g : Dic Prt × Int × Int → M (Tl (Dic Prt × Int × Int) No)}
    (hg : ∀ (i first : Nat) (d : List (Tx × Prt)), i ≤ xs.length → first ≤ 5 → d.length < SZ → g (d, (first : Int), (i : Int)) = if hd (xs.drop i) ∈ partsT.drop first then
      (match pPart (hd (xs.drop i)) (xs.drop (i + 1)) with
      | none => raise "NoLine"
      | some (p, r) => if r = [] then .ok (.bk (dputM d (hd (xs.drop i)) p, (((idx1 partsT (hd (xs.drop i))).getD 0 + 1 : Nat) : Int), ((xs.length - r.length : Nat) : Int))) else
          if hd r = [59] then .ok (.ct (dputM d (hd (xs.drop i)) p, (((idx1 partsT (hd (xs.drop i))).getD 0 + 1 : Nat) : Int), ((xs.length - r.length + 1 : Nat) : Int))) else raise "NoLine") else raise "NoLine") :
    ∀ (fuel n i first : Nat) (d : List (Tx × Prt)), d.length + xs.length < SZ + i → xs.length < fuel + i → xs.length < n + i → i ≤ xs.length → first ≤ 5 →
    match pParts n first (xs.drop i) d with
      | some d' => ∃ a b, whB (fun _ => (pure true : M Bool)) g fuel (d, (first : Int), (i : Int)) = .ok (d', a, b)
      | none => whB (fun _ => (pure true : M Bool)) g fuel (d, (first : Int), (i : Int)) = raise "NoLine" := by
  intro fuel
  induction fuel with
  | zero => intro n i first d h1 h2 h3 h4; omega
  | succ fuel ih =>
    intro n i first d h1 h2 h3 h4 h5
    match n, h3 with
    | 0, h3 => omega
    | n + 1, h3 =>
      rw [pParts_succ, tail_drop']
      unfold whB
      rw [pure_bind, if_pos rfl, hg i first d h4 h5 (by omega)]
      by_cases c : hd (xs.drop i) ∈ partsT.drop first
      · rw [if_pos c]
        simp only [c, if_true]
        cases e : pPart (hd (xs.drop i)) (xs.drop (i + 1)) with
        | none => rfl
        | some s =>
          obtain ⟨p, r⟩ := s
          obtain ⟨e3, hr⟩ := suf_at (suf_pPart _) e
          rw [List.length_drop] at hr
          by_cases rn : r = []
          · simp only [rn, if_true]
            exact ⟨_, _, rfl⟩
          · have rl : 0 < r.length := List.length_pos_iff.mpr rn
            simp only [rn, if_false]
            by_cases c2 : hd r = [59]
            · have e4 : r.tail = xs.drop (xs.length - r.length + 1) := by rw [← tail_drop', ← e3]
              simp only [c2, if_true]
              rw [e4]
              have dl : (dputM d (hd (xs.drop i)) p).length ≤ d.length + 1 := by
                unfold dputM
                split
                · rw [List.length_map]; omega
                · rw [List.length_append, List.length_singleton]; exact Nat.le_refl _
              obtain ⟨j, j1, j2⟩ := idx1_mem (List.mem_of_mem_drop c)
              exact ih n (xs.length - r.length + 1) _ _ (by omega) (by omega) (by omega) (by omega) (by rw [j1]; show j + 1 ≤ 5; have : j < 5 := j2; omega)
            · simp only [c2, if_false]
              rfl
      · rw [if_neg c]
        simp only [c, if_false]
        rfl
theorem parts_run {β : Type} {xs : List Tx} (hx : tks xs) (l3 : 3 ≤ xs.length) {g : Dic Prt × Int × Int → M (Tl (Dic Prt × Int × Int) No)} {k : Dic Prt × Int × Int → M β} {kd : Dic Prt → M β}
    (hg : ∀ (i first : Nat) (d : List (Tx × Prt)), i ≤ xs.length → first ≤ 5 → d.length < SZ → g (d, (first : Int), (i : Int)) = if hd (xs.drop i) ∈ partsT.drop first then
      (match pPart (hd (xs.drop i)) (xs.drop (i + 1)) with
      | none => raise "NoLine"
      | some (p, r) => if r = [] then .ok (.bk (dputM d (hd (xs.drop i)) p, (((idx1 partsT (hd (xs.drop i))).getD 0 + 1 : Nat) : Int), ((xs.length - r.length : Nat) : Int))) else
          if hd r = [59] then .ok (.ct (dputM d (hd (xs.drop i)) p, (((idx1 partsT (hd (xs.drop i))).getD 0 + 1 : Nat) : Int), ((xs.length - r.length + 1 : Nat) : Int))) else raise "NoLine") else raise "NoLine")
    (hk : ∀ d a b, k (d, a, b) = kd d) : (whB (fun _ => (pure true : M Bool)) g FUEL (([] : List (Tx × Prt)), (0 : Int), (3 : Int)) >>= k) = match pParts (xs.length + 1) 0 (xs.drop 3) [] with
      | some d => kd d
      | none => raise "NoLine" := by
  have main := parts_loop hx hg FUEL (xs.length + 1) 3 0 [] (by have := hx.1; simp; omega) (by have := hx.1; rw [SZ_val] at this; show _ < 1000000000000 + 3; omega) (by omega) l3 (by omega)
  cases e : pParts (xs.length + 1) 0 (xs.drop 3) [] with
  | none =>
    rw [e] at main
    have main : whB (fun _ => (pure true : M Bool)) g FUEL (([] : List (Tx × Prt)), (0 : Int), (3 : Int)) = raise "NoLine" := main
    rw [main]
    rfl
  | some d =>
    rw [e] at main
    obtain ⟨a, b, main⟩ := main
    have main : whB (fun _ => (pure true : M Bool)) g FUEL (([] : List (Tx × Prt)), (0 : Int), (3 : Int)) = .ok (d, a, b) := main
    rw [main]
    exact hk d a b
theorem read_rule_eq {xs : List Tx} (hx : tks xs) : m_read_rule xs = match pRule xs with
    | some r => .ok r
    | none => raise "NoLine" := by
  unfold m_read_rule pRule
  have e58 : tx ":" = [58] := rfl
  have p1 : m_piece_at xs 1 = .ok (hd (xs.drop 1)) := piece_eq (i := 1)
  have p2 : m_piece_at xs 2 = .ok (hd (xs.drop 2)) := piece_eq (i := 2)
  simp only [pure_bind, p1, p2, okb, is_kind_eq (hd_len hx 1), e58]
  by_cases k1 : isKd (hd (xs.drop 1)) = true
  · by_cases k2 : hd (xs.drop 2) = [58]
    · have l3 : 3 ≤ xs.length := by
        rcases Nat.lt_or_ge xs.length 3 with z | z
        · rw [List.drop_eq_nil_of_le (by omega)] at k2; cases k2
        · exact z
      have a1 : atL xs 1 = .ok (hd (xs.drop 1)) := by
        unfold atL atI
        rw [ixN_nat (by decide) (by omega)]
        show ofO xs[1]? = _
        rw [List.getElem?_eq_getElem (by omega), List.drop_eq_getElem_cons (by omega : 1 < xs.length)]
        rfl
      simp only [k1, k2, decide_true, Bool.not_true, Bool.false_eq_true, if_false, and_self, if_true, pure_bind]
      refine (parts_run (kd := fun d => if (dgetM d takeW).isSome = true ∨ (dgetM d keepW).isSome = true then (.ok (hd (xs.drop 1), d) : M Row) else raise "NoLine") hx l3 (fun i first d h1 h2 h3 => ?_) (fun d a b => ?_)).trans ?_
      · have cf : (cut (α := Tx) ((["take", "keep", "look", "put", "tell"] : List String).map tx) (some (first : Int)) none) = partsT.drop first := cut_from partsT first h2
        have e1 : ((i : Int) + 1) = ((i + 1 : Nat) : Int) := by omega
        simp only [piece_eq, okb, tup_b, cf, e1]
        by_cases c : hd (xs.drop i) ∈ partsT.drop first
        · obtain ⟨j, j1, j2⟩ := idx1_mem (List.mem_of_mem_drop c)
          have j1' : idx1 ((["take", "keep", "look", "put", "tell"] : List String).map tx) (hd (xs.drop i)) = some j := j1
          have il : i + 1 ≤ xs.length := by
            rcases Nat.lt_or_ge i xs.length with z | z
            · exact z
            · rw [List.drop_eq_nil_of_le z] at c
              have : (hd []) ∉ partsT := by decide
              exact absurd (List.mem_of_mem_drop c) this
          rw [if_pos c, decide_eq_true c, take_part_eq hx il, j1, j1']
          cases e : pPart (hd (xs.drop i)) (xs.drop (i + 1)) with
          | none => rfl
          | some s =>
            obtain ⟨p, r⟩ := s
            obtain ⟨e3, hr⟩ := suf_at (suf_pPart _) e
            rw [List.length_drop] at hr
            simp only [okb, Bool.not_true, Bool.false_eq_true, if_false, show ∀ n : Nat, (ofO (some n) : M Nat) = .ok n from fun _ => rfl, pure_bind]
            rw [chk_b h3, pure_bind]
            by_cases rn : r = []
            · subst rn
              rw [if_pos rfl, decide_eq_true (by show ((xs.length - 0 : Nat) : Int) = _; rw [Nat.sub_zero]), if_pos rfl]
              rfl
            · have rl : 0 < r.length := List.length_pos_iff.mpr rn
              have a2 : atL xs ((xs.length - r.length : Nat) : Int) = .ok (hd r) := by
                unfold atL atI
                rw [ixN_nat (by omega) (by omega), Int.toNat_natCast]
                show ofO xs[xs.length - r.length]? = _
                rw [List.getElem?_eq_getElem (by omega)]
                have : hd r = hd (xs.drop (xs.length - r.length)) := by rw [← e3]
                rw [this, List.drop_eq_getElem_cons (by omega : xs.length - r.length < xs.length)]
                rfl
              rw [if_neg rn, decide_eq_false (by omega), if_neg Bool.false_ne_true, a2, okb, show tx ";" = [59] from rfl]
              by_cases c2 : hd r = [59]
              · rw [if_pos c2, decide_eq_true c2]; rfl
              · rw [if_neg c2, decide_eq_false c2]; rfl
        · rw [if_neg c, decide_eq_false c]
          rfl
      · simp only [a1, okb]
        show _ = if (dgetM d (tx "take")).isSome = true ∨ (dgetM d (tx "keep")).isSome = true then _ else _
        cases (dgetM d (tx "take")).isSome with
        | true => simp only [Bool.not_true, Bool.false_eq_true, if_false, true_or, if_true, pure_bind]; rfl
        | false =>
          cases (dgetM d (tx "keep")).isSome with
          | true => simp only [Bool.not_false, Bool.not_true, Bool.false_eq_true, if_false, or_true, if_true, pure_bind]; rfl
          | false => simp only [Bool.not_false, Bool.false_eq_true, or_self, if_false, if_true, pure_bind]
      · cases pParts (xs.length + 1) 0 (xs.drop 3) [] with
        | none => rfl
        | some d =>
          by_cases c : (dgetM d takeW).isSome = true ∨ (dgetM d keepW).isSome = true
          · simp only [c, if_true]
          · simp only [c, if_false]
    · simp only [k1, k2, decide_false, Bool.not_true, Bool.not_false, Bool.false_eq_true, and_false, if_false, if_true, pure_bind]
  · have k1' : isKd (hd (xs.drop 1)) = false := by simpa using k1
    simp only [k1', Bool.not_false, if_true, pure_bind, Bool.false_eq_true, false_and, if_false]
theorem read_line_eq {x : Tx} (hz : x.length < SZ) {ts : List Tx} (hp : pcs x = some ts) (hn : ts ≠ []) (ht : tks ts) : m_read_line x = if hd ts = passW ∨ hd ts = lastW then (match pKd ts with
      | some k => .ok (lineR (.inl k))
      | none => raise "NoLine") else if hd ts = ruleW then (match pRule ts with
      | some r => .ok (lineR (.inr r))
      | none => raise "NoLine") else raise "NoLine" := by
  unfold m_read_line
  have a0 : atL ts 0 = .ok (hd ts) := by
    cases ts with
    | nil => exact absurd rfl hn
    | cons a r =>
      unfold atL atI
      rw [ixN_nat (by decide) (by rw [List.length_cons]; omega)]
      rfl
  simp only [pure_bind, pieces_eq hz, hp, okb, a0]
  have c : (if decide (hd ts = tx "passing") = true then (pure true : M Bool) else pure (decide (hd ts = tx "lasting"))) = pure (decide (hd ts = passW ∨ hd ts = lastW)) := by
    by_cases h1 : hd ts = passW
    · rw [decide_eq_true (show hd ts = tx "passing" from h1), if_pos rfl, decide_eq_true (.inl h1)]
    · rw [decide_eq_false (show ¬ hd ts = tx "passing" from h1), if_neg Bool.false_ne_true]
      by_cases h2 : hd ts = lastW
      · rw [decide_eq_true (show hd ts = tx "lasting" from h2), decide_eq_true (.inr h2)]
      · rw [decide_eq_false (show ¬ hd ts = tx "lasting" from h2), decide_eq_false (fun z => z.elim h1 h2)]
  rw [c, pure_bind]
  by_cases h1 : hd ts = passW ∨ hd ts = lastW
  · rw [decide_eq_true h1, if_pos rfl, if_pos h1, read_kind_eq ht]
    cases pKd ts <;> rfl
  · rw [decide_eq_false h1, if_neg Bool.false_ne_true, if_neg h1]
    by_cases h2 : hd ts = ruleW
    · rw [decide_eq_true (show hd ts = tx "rule" from h2), if_pos rfl, if_pos h2, read_rule_eq ht]
      cases pRule ts <;> rfl
    · rw [decide_eq_false (show ¬ hd ts = tx "rule" from h2), if_neg Bool.false_ne_true, if_neg h2]
theorem ln_rule {x : Tx} {ts : List Tx} {r : Row} (hz : x.length < SZ) (ho : isOut x = false) (hp : pcs x = some ts) (ht : tks ts) (hw : hd ts = ruleW) (hr : pRule ts = some r) : Ln x (some (.inr r)) := by
  refine ⟨ho, ?_⟩
  have hn : ts ≠ [] := fun z => by rw [z] at hw; exact absurd hw (by decide)
  have h1 : ¬ (hd ts = passW ∨ hd ts = lastW) := by rw [hw]; decide
  rw [read_line_eq hz hp hn ht, if_neg h1, if_pos hw, hr]
/-! items parted by a mark -/
def sepT (m : Nat) : List (List Tx) → List Tx
  | [] => []
  | [a] => a
  | a :: b :: r => a ++ [m] :: sepT m (b :: r)
theorem sepP_toks {α : Type} {p : List Tx → Option (α × List Tx)} {tk : α → List Tx} {k : List Tx} (k1 : hd k ≠ [40]) (k2 : hd k ≠ [44]) : ∀ {as : List α} {n : Nat}, (∀ a ∈ as, ∀ k, hd k ≠ [40] → p (tk a ++ k) = some (a, k)) → as ≠ [] → as.length ≤ n → sepP p n (sepT 44 (as.map tk) ++ k) = some (as, k)
  | [], _, _, h, _ => absurd rfl h
  | [a], 0, _, _, hn => absurd hn (by simp)
  | [a], n + 1, h, _, _ => by
    show sepP p (n + 1) (tk a ++ k) = _
    rw [sepP_succ, h a (List.mem_cons_self ..) k k1]
    simp only [k2, if_false]
  | a :: b :: r, 0, _, _, hn => absurd hn (by simp)
  | a :: b :: r, n + 1, h, _, hn => by
    show sepP p (n + 1) ((tk a ++ [44] :: sepT 44 ((b :: r).map tk)) ++ k) = _
    rw [List.append_assoc, List.cons_append, sepP_succ, h a (List.mem_cons_self ..) ([44] :: (sepT 44 ((b :: r).map tk) ++ k)) (show ([44] : Tx) ≠ [40] by decide)]
    have hc : hd ([44] :: (sepT 44 ((b :: r).map tk) ++ k)) = [44] := rfl
    simp only [hc, if_true]
    rw [List.tail_cons, sepP_toks k1 k2 (fun q hq => h q (List.mem_cons_of_mem _ hq)) (fun z => by cases z) (by rw [List.length_cons] at hn; omega)]
    rfl
/-- the tokens of items -/
def tF (f : Fct) : List Tx := toks f.1 f.2 false
def lookWd (k : C_Look) : Tx := if k.c = 1 then sameW else unlikeW
def tL (k : C_Look) : List Tx := [k.f.1, lookWd k, k.f.2.1]
def tP (p : Tx × Tx) : List Tx := [p.1, [61], p.2]
def GF (f : Fct) : Prop := isKd f.1 = true ∧ (∀ a ∈ (show List Tx from f.2), isNm a = true) ∧ List.length (α := Tx) f.2 ≤ 8
def GL (k : C_Look) : Prop := (k.c = 1 ∨ k.c = 2) ∧ isNm k.f.1 = true ∧ isNm k.f.2.1 = true
def GP (p : Tx × Tx) : Prop := isNm p.1 = true ∧ isNm p.2 = true
theorem pF_item {f : Fct} (h : GF f) {k : List Tx} (hk : hd k ≠ [40]) : pF (tF f ++ k) = some (f, k) := by
  have := pF_toks (br := false) hk h.1 h.2.1
  exact this
theorem ins_eta (k : C_Look) (c : Nat) (h : k.c = c) : (⟨c, (k.f.1, k.f.2.1, ())⟩ : C_Look) = k := by
  obtain ⟨kc, f1, f2, u⟩ := k
  cases h
  rfl
theorem pLook_item {l : C_Look} (h : GL l) {k : List Tx} : pLook (tL l ++ k) = some (l, k) := by
  obtain ⟨h1, h2, h3⟩ := h
  show (if isNm l.f.1 = true ∧ isNm l.f.2.1 = true then (if lookWd l = sameW then some ((⟨1, (l.f.1, l.f.2.1, ())⟩ : C_Look), k) else if lookWd l = unlikeW then some ((⟨2, (l.f.1, l.f.2.1, ())⟩ : C_Look), k) else none) else none) = _
  rw [if_pos ⟨h2, h3⟩]
  rcases h1 with c | c
  · have e : lookWd l = sameW := by unfold lookWd; rw [if_pos c]
    rw [if_pos e, ins_eta l 1 c]
  · have e : lookWd l = unlikeW := by unfold lookWd; rw [if_neg (by rw [c]; decide)]
    rw [if_neg (by rw [e]; decide), if_pos e, ins_eta l 2 c]
theorem pPair_item {l : Tx × Tx} (h : GP l) {k : List Tx} : pPair (tP l ++ k) = some (l, k) := by
  show (if isNm l.1 = true ∧ ([61] : Tx) = [61] ∧ isNm l.2 = true then some ((l.1, l.2), k) else none) = _
  rw [if_pos ⟨h.1, rfl, h.2⟩]
/-- a part's tokens behind its word, well made -/
def tPrt : Prt → List Tx
  | .inl fs => sepT 44 (fs.map tF)
  | .inr (.inl ls) => sepT 44 (ls.map tL)
  | .inr (.inr ps) => sepT 44 (ps.map tP)
def GPrt (w : Tx) : Prt → Prop
  | .inl fs => w ≠ lookW ∧ w ≠ tellW ∧ fs ≠ [] ∧ ∀ f ∈ fs, GF f
  | .inr (.inl ls) => w = lookW ∧ ls ≠ [] ∧ ∀ l ∈ ls, GL l
  | .inr (.inr ps) => w = tellW ∧ ps ≠ [] ∧ ∀ p ∈ ps, GP p
theorem sepT_len (m : Nat) {α : Type} {tk : α → List Tx} (h : ∀ a, 1 ≤ (tk a).length) : ∀ as : List α, as.length ≤ (sepT m (as.map tk)).length
  | [] => Nat.zero_le _
  | [a] => h a
  | a :: b :: r => by
    have := sepT_len m h (b :: r)
    show (a :: b :: r).length ≤ (tk a ++ [m] :: sepT m ((b :: r).map tk)).length
    rw [List.length_append]
    have := h a
    simp only [List.length_cons] at *
    omega
theorem tF_len (f : Fct) : 1 ≤ (tF f).length := by
  unfold tF toks
  split
  · exact Nat.le_refl _
  · rw [List.length_cons]; omega
theorem pPart_toks {w : Tx} {p : Prt} {k : List Tx} (h : GPrt w p) (k1 : hd k ≠ [40]) (k2 : hd k ≠ [44]) : pPart w (tPrt p ++ k) = some (p, k) := by
  unfold pPart
  match p, h with
  | .inl fs, ⟨h1, h2, h3, h4⟩ =>
    rw [if_neg h1, if_neg h2]
    have := sepP_toks (p := pF) (α := Fct) (tk := tF) (n := ((tPrt (.inl fs) ++ k).length + 1)) k1 k2 (as := fs) (fun a ha k hk => pF_item (h4 a ha) hk) h3 (by
      have := sepT_len 44 tF_len fs
      show fs.length ≤ (sepT 44 (fs.map tF) ++ k).length + 1
      rw [List.length_append]; omega)
    show (sepP (α := Fct) pF ((tPrt (.inl fs) ++ k).length + 1) (sepT 44 (fs.map tF) ++ k)).map _ = _
    rw [this]
    rfl
  | .inr (.inl ls), ⟨h1, h3, h4⟩ =>
    rw [if_pos h1]
    have := sepP_toks (p := pLook) (tk := tL) (n := ((tPrt (.inr (.inl ls)) ++ k).length + 1)) k1 k2 (as := ls) (fun a ha k hk => pLook_item (h4 a ha)) h3 (by
      have := sepT_len 44 (tk := tL) (fun _ => by show 1 ≤ 3; decide) ls
      show ls.length ≤ (sepT 44 (ls.map tL) ++ k).length + 1
      rw [List.length_append]; omega)
    show (sepP pLook ((tPrt (.inr (.inl ls)) ++ k).length + 1) (sepT 44 (ls.map tL) ++ k)).map _ = _
    rw [this]
    rfl
  | .inr (.inr ps), ⟨h1, h3, h4⟩ =>
    rw [if_neg (by rw [h1]; decide), if_pos h1]
    have := sepP_toks (p := pPair) (tk := tP) (n := ((tPrt (.inr (.inr ps)) ++ k).length + 1)) k1 k2 (as := ps) (fun a ha k hk => pPair_item (h4 a ha)) h3 (by
      have := sepT_len 44 (tk := tP) (fun _ => by show 1 ≤ 3; decide) ps
      show ps.length ≤ (sepT 44 (ps.map tP) ++ k).length + 1
      rw [List.length_append]; omega)
    show (sepP pPair ((tPrt (.inr (.inr ps)) ++ k).length + 1) (sepT 44 (ps.map tP) ++ k)).map _ = _
    rw [this]
    rfl
/-- parts in their order -/
def Inc : Nat → List (Tx × Prt) → Prop
  | _, [] => True
  | n, q :: r => ∃ j, idx1 partsT q.1 = some j ∧ n ≤ j ∧ GPrt q.1 q.2 ∧ Inc (j + 1) r
def tPart (q : Tx × Prt) : List Tx := q.1 :: tPrt q.2
theorem idx1_get : ∀ {ys : List Tx} {z : Tx} {j : Nat}, idx1 ys z = some j → ys[j]? = some z
  | y :: r, z, j, h => by
    unfold idx1 at h
    by_cases e : y = z
    · rw [if_pos e] at h; cases h; rw [e]; rfl
    · rw [if_neg e] at h
      cases q : idx1 r z with
      | none => rw [q] at h; cases h
      | some i =>
        rw [q] at h
        cases h
        exact idx1_get (ys := r) q
theorem dget_none {α : Type} : ∀ {d : List (Tx × α)} {k : Tx}, (∀ q ∈ d, q.1 ≠ k) → dgetM d k = none
  | [], _, _ => rfl
  | q :: r, k, h => by
    unfold dgetM
    rw [if_neg (h q (List.mem_cons_self ..)), dget_none fun z hz => h z (List.mem_cons_of_mem _ hz)]
theorem pParts_toks : ∀ (ps : List (Tx × Prt)) (n first : Nat) (d : List (Tx × Prt)), ps ≠ [] → ps.length ≤ n → Inc first ps → (∀ q ∈ d, ∃ j, idx1 partsT q.1 = some j ∧ j < first) → pParts n first (sepT 59 (ps.map tPart)) d = some (d ++ ps)
  | [], _, _, _, h, _, _, _ => absurd rfl h
  | q :: r, 0, _, _, _, h, _, _ => absurd h (by simp)
  | q :: r, n + 1, first, d, _, hn, ⟨j, h1, h2, h3, h4⟩, hd0 => by
    have mem : q.1 ∈ partsT.drop first := by
      have e := idx1_get h1
      have : (partsT.drop first)[j - first]? = some q.1 := by rw [List.getElem?_drop, show first + (j - first) = j by omega]; exact e
      exact List.mem_of_getElem? this
    have fresh : dputM d q.1 q.2 = d ++ [q] := by
      unfold dputM
      rw [dget_none fun z hz e => ?_]
      · rfl
      · obtain ⟨i, e1, e2⟩ := hd0 z hz
        rw [e, h1] at e1
        cases e1
        omega
    match r, hn, h4 with
    | [], hn, h4 =>
      show pParts (n + 1) first (q.1 :: tPrt q.2) d = _
      rw [pParts_succ]
      have e0 : hd (q.1 :: tPrt q.2) = q.1 := rfl
      have := pPart_toks (k := []) h3 (by decide) (by decide)
      rw [List.append_nil] at this
      simp only [e0, mem, if_true, List.tail_cons, this, fresh]
    | q2 :: r, hn, h4 =>
      show pParts (n + 1) first ((q.1 :: tPrt q.2) ++ [59] :: sepT 59 ((q2 :: r).map tPart)) d = _
      rw [pParts_succ]
      have e0 : hd ((q.1 :: tPrt q.2) ++ [59] :: sepT 59 ((q2 :: r).map tPart)) = q.1 := rfl
      have e1 : ((q.1 :: tPrt q.2) ++ [59] :: sepT 59 ((q2 :: r).map tPart)).tail = tPrt q.2 ++ [59] :: sepT 59 ((q2 :: r).map tPart) := rfl
      have := pPart_toks (k := [59] :: sepT 59 ((q2 :: r).map tPart)) h3 (show ([59] : Tx) ≠ [40] by decide) (show ([59] : Tx) ≠ [44] by decide)
      have e2 : hd ([59] :: sepT 59 ((q2 :: r).map tPart)) = [59] := rfl
      have e3 : ¬ ([59] :: sepT 59 ((q2 :: r).map tPart)) = [] := fun z => by cases z
      simp only [e0, mem, if_true, e1, this, fresh, e2, e3, if_false, List.tail_cons, h1]
      show pParts n (j + 1) _ _ = _
      rw [pParts_toks (q2 :: r) n (j + 1) (d ++ [q]) (fun z => by cases z) (by rw [List.length_cons] at hn; omega) h4 (fun z hz => ?_), List.append_assoc]
      · rfl
      · rcases List.mem_append.mp hz with hz | hz
        · obtain ⟨i, e1, e2⟩ := hd0 z hz
          exact ⟨i, e1, by omega⟩
        · rw [List.mem_singleton.mp hz]
          exact ⟨j, h1, by omega⟩
def tRule (t : Tx) (ps : List (Tx × Prt)) : List Tx := ruleW :: t :: [58] :: sepT 59 (ps.map tPart)
theorem sepT_len' {ps : List (Tx × Prt)} : ps.length ≤ (sepT 59 (ps.map tPart)).length := sepT_len 59 (fun q => by show 1 ≤ (tPrt q.2).length + 1; omega) ps
theorem pRule_toks {t : Tx} {ps : List (Tx × Prt)} (ht : isKd t = true) (hi : Inc 0 ps) (hh : (dgetM ps takeW).isSome = true ∨ (dgetM ps keepW).isSome = true) : pRule (tRule t ps) = some (t, ps) := by
  have hn : ps ≠ [] := fun z => by
    subst z
    exact hh.elim (fun q => by cases q) (fun q => by cases q)
  unfold pRule
  have e1 : hd ((tRule t ps).drop 1) = t := rfl
  have e2 : hd ((tRule t ps).drop 2) = [58] := rfl
  have e3 : (tRule t ps).drop 3 = sepT 59 (ps.map tPart) := rfl
  rw [e1, e2, e3, if_pos ⟨ht, rfl⟩, pParts_toks ps ((tRule t ps).length + 1) 0 [] hn (by
    have := sepT_len' (ps := ps)
    show ps.length ≤ (sepT 59 (ps.map tPart)).length + 3 + 1
    omega) hi (fun q hq => by cases hq), List.nil_append]
  simp only [hh, if_true]
  rfl
/-! a rule as text -/
structure RV where
  taken : List Fct
  kept : List Fct
  looks : List C_Look
  given : List Fct
  told : List (Tx × Tx)
def putW : Tx := tx "put"
def optP {α : Type} (w : Tx) (inj : List α → Prt) : List α → List (Tx × Prt)
  | [] => []
  | a :: r => [(w, inj (a :: r))]
def partsOf (r : RV) : List (Tx × Prt) := optP takeW .inl r.taken ++ (optP keepW .inl r.kept ++ (optP lookW (fun l => .inr (.inl l)) r.looks ++ (optP putW .inl r.given ++ optP tellW (fun l => .inr (.inr l)) r.told)))
structure GR (r : RV) : Prop where
  taken : ∀ f ∈ r.taken, GF f
  kept : ∀ f ∈ r.kept, GF f
  looks : ∀ l ∈ r.looks, GL l
  given : ∀ f ∈ r.given, GF f
  told : ∀ p ∈ r.told, GP p
  heads : r.taken ≠ [] ∨ r.kept ≠ []
  sizes : r.taken.length ≤ 10 ∧ r.kept.length ≤ 10 ∧ r.looks.length ≤ 10 ∧ r.given.length ≤ 10 ∧ r.told.length ≤ 10
theorem inc_opt {α : Type} {w : Tx} {inj : List α → Prt} {l : List α} {n j : Nat} {ps : List (Tx × Prt)} (hj : idx1 partsT w = some j) (hn : n ≤ j) (hg : l ≠ [] → GPrt w (inj l)) (hp : ∀ m, m ≤ j + 1 → Inc m ps) : Inc n (optP w inj l ++ ps) := by
  cases l with
  | nil => exact hp n (by omega)
  | cons a r => exact ⟨j, hj, hn, hg (fun z => by cases z), hp (j + 1) (Nat.le_refl _)⟩
theorem inc_opt1 {α : Type} {w : Tx} {inj : List α → Prt} {l : List α} {n j : Nat} (hj : idx1 partsT w = some j) (hn : n ≤ j) (hg : l ≠ [] → GPrt w (inj l)) : Inc n (optP w inj l) := by
  have := inc_opt (ps := []) hj hn hg (fun _ _ => trivial)
  rw [List.append_nil] at this
  exact this
theorem inc_parts {r : RV} (h : GR r) : Inc 0 (partsOf r) := by
  refine inc_opt (j := 0) rfl (Nat.le_refl _) (fun z => ⟨by decide, by decide, z, h.taken⟩) fun m hm => ?_
  refine inc_opt (j := 1) rfl (by omega) (fun z => ⟨by decide, by decide, z, h.kept⟩) fun m hm => ?_
  refine inc_opt (j := 2) rfl (by omega) (fun z => ⟨rfl, z, h.looks⟩) fun m hm => ?_
  refine inc_opt (j := 3) rfl (by omega) (fun z => ⟨by decide, by decide, z, h.given⟩) fun m hm => ?_
  exact inc_opt1 (j := 4) rfl (by omega) (fun z => ⟨rfl, z, h.told⟩)
theorem dget_cons {α : Type} (q : Tx × α) (r : List (Tx × α)) (k : Tx) : dgetM (q :: r) k = if q.1 = k then some q.2 else dgetM r k := rfl
theorem dget_app {α : Type} : ∀ (a b : List (Tx × α)) (k : Tx), dgetM (a ++ b) k = (dgetM a k).or (dgetM b k)
  | [], b, k => by show dgetM b k = (none : Option α).or _; rfl
  | q :: r, b, k => by
    show dgetM (q :: (r ++ b)) k = (dgetM (q :: r) k).or _
    rw [dget_cons, dget_cons]
    by_cases h : q.1 = k
    · rw [if_pos h, if_pos h]; rfl
    · rw [if_neg h, if_neg h, dget_app r b k]
theorem dget_opt {α : Type} {w k : Tx} {inj : List α → Prt} {l : List α} (h : w ≠ k) : dgetM (optP w inj l) k = none := by
  cases l with
  | nil => rfl
  | cons a r => exact dget_none fun q hq => by rw [List.mem_singleton.mp hq]; exact h
theorem dget_opt_s {α : Type} {w : Tx} {inj : List α → Prt} {l : List α} : dgetM (optP w inj l) w = if l.isEmpty = true then none else some (inj l) := by
  cases l with
  | nil => rfl
  | cons a r =>
    show dgetM [(w, inj (a :: r))] w = _
    unfold dgetM
    rw [if_pos rfl]
    rfl
theorem or_n {α : Type} (o : Option α) : o.or none = o := by cases o <;> rfl
theorem get_take (r : RV) : dgetM (partsOf r) takeW = if r.taken.isEmpty = true then none else some (.inl r.taken) := by
  unfold partsOf
  rw [dget_app, dget_app, dget_app, dget_app, dget_opt_s, dget_opt (by decide), dget_opt (by decide), dget_opt (by decide), dget_opt (by decide)]
  exact or_n _
theorem get_keep (r : RV) : dgetM (partsOf r) keepW = if r.kept.isEmpty = true then none else some (.inl r.kept) := by
  unfold partsOf
  rw [dget_app, dget_app, dget_app, dget_app, dget_opt (w := takeW) (by decide), dget_opt_s, dget_opt (by decide), dget_opt (by decide), dget_opt (by decide)]
  exact or_n _
theorem get_look (r : RV) : dgetM (partsOf r) lookW = if r.looks.isEmpty = true then none else some (.inr (.inl r.looks)) := by
  unfold partsOf
  rw [dget_app, dget_app, dget_app, dget_app, dget_opt (w := takeW) (by decide), dget_opt (w := keepW) (by decide), dget_opt_s, dget_opt (by decide), dget_opt (by decide)]
  exact or_n _
theorem get_put (r : RV) : dgetM (partsOf r) putW = if r.given.isEmpty = true then none else some (.inl r.given) := by
  unfold partsOf
  rw [dget_app, dget_app, dget_app, dget_app, dget_opt (w := takeW) (by decide), dget_opt (w := keepW) (by decide), dget_opt (w := lookW) (by decide), dget_opt_s, dget_opt (by decide)]
  exact or_n _
theorem get_tell (r : RV) : dgetM (partsOf r) tellW = if r.told.isEmpty = true then none else some (.inr (.inr r.told)) := by
  unfold partsOf
  rw [dget_app, dget_app, dget_app, dget_app, dget_opt (w := takeW) (by decide), dget_opt (w := keepW) (by decide), dget_opt (w := lookW) (by decide), dget_opt (w := putW) (by decide), dget_opt_s]
  rfl
theorem rule_parsed {t : Tx} {r : RV} (ht : isKd t = true) (h : GR r) : pRule (tRule t (partsOf r)) = some (t, partsOf r) := by
  refine pRule_toks ht (inc_parts h) ?_
  rcases h.heads with z | z
  · left; rw [get_take]; cases e : r.taken with
    | nil => exact absurd e z
    | cons a b => rfl
  · right; rw [get_keep]; cases e : r.kept with
    | nil => exact absurd e z
    | cons a b => rfl
/-! .. with its blanks -/
abbrev Wv : Type := List (Tx × Tx)
def OKP (ps : Wv) : Prop := ∀ b k, (∀ b, okw b k) → okw b (ps ++ k)
def sepW (m : Nat) : List Wv → Wv
  | [] => []
  | [a] => a
  | a :: b :: r => a ++ ([], [m]) :: sepW m (b :: r)
theorem sp_nil : sp [] := fun c h => by cases h
theorem sp_one : sp [32] := fun c h => List.mem_singleton.mp h
theorem okp_sep {m : Nat} (hm : mkT [m]) : ∀ {as : List Wv}, (∀ a ∈ as, OKP a) → OKP (sepW m as)
  | [], _ => fun b k h => h b
  | [a], h => h a (List.mem_cons_self ..)
  | a :: b :: r, h => fun c k hk => by
    show okw c ((a ++ ([], [m]) :: sepW m (b :: r)) ++ k)
    rw [List.append_assoc]
    refine h a (List.mem_cons_self ..) c _ fun c => ⟨sp_nil, .inr ⟨hm, ?_⟩⟩
    exact okp_sep hm (fun q hq => h q (List.mem_cons_of_mem _ hq)) false k hk
def e0 (t : Tx) : Tx × Tx := ([], t)
theorem okw_commas {k : Wv} (hk : ∀ b, okw b k) : ∀ (r : List Tx) (a : Tx), nmT a → (∀ x ∈ r, nmT x) → okw false ((commas (a :: r) ++ [[41]]).map e0 ++ k)
  | [], a, ha, _ => ⟨sp_nil, .inl ⟨ha, .inl rfl, sp_nil, .inr ⟨mk_close, hk false⟩⟩⟩
  | b :: r, a, ha, hr => ⟨sp_nil, .inl ⟨ha, .inl rfl, sp_nil, .inr ⟨mk_comma, okw_commas hk r b (hr b (List.mem_cons_self ..)) fun x hx => hr x (List.mem_cons_of_mem _ hx)⟩⟩⟩
def wF (f : Fct) : Wv := ([32], f.1) :: (tF f).tail.map e0
theorem tF_cons (f : Fct) : tF f = f.1 :: (tF f).tail := by
  unfold tF toks
  split <;> rfl
theorem okp_F {f : Fct} (h : GF f) : OKP (wF f) := fun b k hk => by
  refine ⟨sp_one, .inl ⟨nmT_of (isKd_nm h.1), .inr (fun z => by cases z), ?_⟩⟩
  show okw true ((tF f).tail.map e0 ++ k)
  unfold tF toks
  by_cases c : (show List Tx from f.2) = [] ∧ false = false
  · rw [if_pos c]; exact hk true
  · rw [if_neg c]
    refine ⟨sp_nil, .inr ⟨mk_open, ?_⟩⟩
    match e : (show List Tx from f.2) with
    | [] => exact absurd ⟨e, rfl⟩ c
    | a :: r =>
      have ha : ∀ x ∈ a :: r, nmT x := fun x hx => nmT_of (h.2.1 x (by show x ∈ (show List Tx from f.2); rw [e]; exact hx))
      have := okw_commas hk r a (ha a (List.mem_cons_self ..)) fun x hx => ha x (List.mem_cons_of_mem _ hx)
      have e' : f.2 = a :: r := e
      rw [e']
      exact this
def wL (l : C_Look) : Wv := [([32], l.f.1), ([32], lookWd l), ([32], l.f.2.1)]
def wP (p : Tx × Tx) : Wv := [([32], p.1), ([32], [61]), ([32], p.2)]
theorem nm_same : nmT sameW := nmT_of (by decide +kernel)
theorem nm_unlike : nmT unlikeW := nmT_of (by decide +kernel)
theorem lookWd_nm (l : C_Look) : nmT (lookWd l) := by
  unfold lookWd
  split
  · exact nm_same
  · exact nm_unlike
theorem okp_L {l : C_Look} (h : GL l) : OKP (wL l) := fun b k hk =>
  ⟨sp_one, .inl ⟨nmT_of h.2.1, .inr (fun z => by cases z), sp_one, .inl ⟨lookWd_nm l, .inr (fun z => by cases z), sp_one, .inl ⟨nmT_of h.2.2, .inr (fun z => by cases z), hk true⟩⟩⟩⟩
theorem mk_eq : mkT [61] := ⟨61, rfl, by decide +kernel, by decide +kernel⟩
theorem mk_semi : mkT [59] := ⟨59, rfl, by decide +kernel, by decide +kernel⟩
theorem mk_colon : mkT [58] := ⟨58, rfl, by decide +kernel, by decide +kernel⟩
theorem okp_P {l : Tx × Tx} (h : GP l) : OKP (wP l) := fun b k hk =>
  ⟨sp_one, .inl ⟨nmT_of h.1, .inr (fun z => by cases z), sp_one, .inr ⟨mk_eq, sp_one, .inl ⟨nmT_of h.2, .inr (fun z => by cases z), hk true⟩⟩⟩⟩
def wPrt : Prt → Wv
  | .inl fs => sepW 44 (fs.map wF)
  | .inr (.inl ls) => sepW 44 (ls.map wL)
  | .inr (.inr ps) => sepW 44 (ps.map wP)
theorem okp_map {α : Type} {w : α → Wv} {as : List α} (h : ∀ a ∈ as, OKP (w a)) : ∀ x ∈ as.map w, OKP x := fun x hx => by
  obtain ⟨a, ha, rfl⟩ := List.mem_map.mp hx
  exact h a ha
theorem okp_Prt {w : Tx} {p : Prt} (h : GPrt w p) : OKP (wPrt p) := by
  match p, h with
  | .inl fs, ⟨_, _, _, h⟩ => exact okp_sep mk_comma (okp_map fun a ha => okp_F (h a ha))
  | .inr (.inl ls), ⟨_, _, h⟩ => exact okp_sep mk_comma (okp_map fun a ha => okp_L (h a ha))
  | .inr (.inr ps), ⟨_, _, h⟩ => exact okp_sep mk_comma (okp_map fun a ha => okp_P (h a ha))
def wPart (q : Tx × Prt) : Wv := ([32], q.1) :: wPrt q.2
theorem partsT_nm : ∀ w ∈ partsT, isNm w = true := by decide +kernel
theorem okp_Part {q : Tx × Prt} (hq : q.1 ∈ partsT) (h : GPrt q.1 q.2) : OKP (wPart q) := fun b k hk =>
  ⟨sp_one, .inl ⟨nmT_of (partsT_nm _ hq), .inr (fun z => by cases z), okp_Prt h true k hk⟩⟩
def wRule (t : Tx) (ps : List (Tx × Prt)) : Wv := ([], ruleW) :: ([32], t) :: ([], [58]) :: sepW 59 (ps.map wPart)
theorem inc_mem : ∀ {ps : List (Tx × Prt)} {n : Nat}, Inc n ps → ∀ q ∈ ps, q.1 ∈ partsT ∧ GPrt q.1 q.2
  | [], _, _, q, h => by cases h
  | p :: r, n, ⟨j, h1, _, h3, h4⟩, q, h => by
    rcases List.mem_cons.mp h with rfl | h
    · exact ⟨List.mem_of_getElem? (idx1_get h1), h3⟩
    · exact inc_mem h4 q h
theorem okw_rule {t : Tx} {ps : List (Tx × Prt)} (ht : isKd t = true) (hi : Inc 0 ps) : okw false (wRule t ps) := by
  refine ⟨sp_nil, .inl ⟨nmT_of (by decide +kernel), .inl rfl, sp_one, .inl ⟨nmT_of (isKd_nm ht), .inr (fun z => by cases z), sp_nil, .inr ⟨mk_colon, ?_⟩⟩⟩⟩
  have := okp_sep mk_semi (as := ps.map wPart) (okp_map fun q hq => okp_Part (inc_mem hi q hq).1 (inc_mem hi q hq).2) false [] (fun _ => trivial)
  rw [List.append_nil] at this
  exact this
theorem sepW_snd (m : Nat) {α : Type} {w : α → Wv} {tk : α → List Tx} (h : ∀ a, (w a).map (·.2) = tk a) : ∀ as : List α, (sepW m (as.map w)).map (·.2) = sepT m (as.map tk)
  | [] => rfl
  | [a] => h a
  | a :: b :: r => by
    have := sepW_snd m h (b :: r)
    show (w a ++ ([], [m]) :: sepW m ((b :: r).map w)).map (·.2) = tk a ++ [m] :: sepT m ((b :: r).map tk)
    rw [List.map_append, h a, List.map_cons, this]
theorem wF_snd (f : Fct) : (wF f).map (·.2) = tF f := by
  unfold wF
  rw [List.map_cons, List.map_map]
  have : (tF f).tail.map ((fun x : Tx × Tx => x.2) ∘ e0) = (tF f).tail := List.map_id' _
  rw [this, ← tF_cons]
theorem wPrt_snd : ∀ p : Prt, (wPrt p).map (·.2) = tPrt p
  | .inl fs => sepW_snd 44 wF_snd fs
  | .inr (.inl ls) => sepW_snd 44 (tk := tL) (fun _ => rfl) ls
  | .inr (.inr ps) => sepW_snd 44 (tk := tP) (fun _ => rfl) ps
theorem wRule_snd (t : Tx) (ps : List (Tx × Prt)) : (wRule t ps).map (·.2) = tRule t ps := by
  show ruleW :: t :: [58] :: (sepW 59 (ps.map wPart)).map (·.2) = _
  rw [sepW_snd 59 (tk := tPart) (fun q => by show q.1 :: (wPrt q.2).map (·.2) = _; rw [wPrt_snd]; rfl)]
  rfl
/-! .. and as one text -/
def xF (f : Fct) : Tx := ftext f.1 f.2
def xL (l : C_Look) : Tx := l.f.1 ++ ([32] ++ (lookWd l ++ ([32] ++ l.f.2.1)))
def xP (p : Tx × Tx) : Tx := p.1 ++ ([32, 61, 32] ++ p.2)
def xPrt : Prt → Tx
  | .inl fs => joinL [44, 32] (fs.map xF)
  | .inr (.inl ls) => joinL [44, 32] (ls.map xL)
  | .inr (.inr ps) => joinL [44, 32] (ps.map xP)
def xPart (q : Tx × Prt) : Tx := q.1 ++ ([32] ++ xPrt q.2)
def xRule (t : Tx) (ps : List (Tx × Prt)) : Tx := ruleW ++ ([32] ++ (t ++ ([58, 32] ++ joinL [59, 32] (ps.map xPart))))
theorem weave_sep (m : Nat) {α : Type} {w : α → Wv} {x : α → Tx} (h : ∀ a, weave (w a) = 32 :: x a) : ∀ as : List α, as ≠ [] → weave (sepW m (as.map w)) = 32 :: joinL [m, 32] (as.map x)
  | [], h => absurd rfl h
  | [a], _ => h a
  | a :: b :: r, _ => by
    have := weave_sep m h (b :: r) (fun z => by cases z)
    show weave (w a ++ ([], [m]) :: sepW m ((b :: r).map w)) = 32 :: (x a ++ ([m, 32] ++ joinL [m, 32] ((b :: r).map x)))
    rw [weave_app, h a]
    show (32 :: x a) ++ ([] ++ ([m] ++ weave (sepW m ((b :: r).map w)))) = _
    rw [this]
    rfl
theorem weave_e0 : ∀ xs : List Tx, weave (xs.map e0) = xs.flatten
  | [] => rfl
  | x :: r => by
    show [] ++ (x ++ weave (r.map e0)) = _
    rw [weave_e0 r]
    rfl
theorem weave_F (f : Fct) : weave (wF f) = 32 :: xF f := by
  show [32] ++ (f.1 ++ weave ((tF f).tail.map e0)) = 32 :: xF f
  have h : xF f = (tF f).flatten := ftext_flat f.1 f.2
  rw [weave_e0, h, tF_cons f]
  rfl
theorem weave_L (l : C_Look) : weave (wL l) = 32 :: xL l := by
  show [32] ++ (l.f.1 ++ ([32] ++ (lookWd l ++ ([32] ++ (l.f.2.1 ++ []))))) = _
  rw [List.append_nil]
  rfl
theorem weave_P (p : Tx × Tx) : weave (wP p) = 32 :: xP p := by
  show [32] ++ (p.1 ++ ([32] ++ ([61] ++ ([32] ++ (p.2 ++ []))))) = _
  rw [List.append_nil]
  rfl
theorem weave_Prt {w : Tx} {p : Prt} (h : GPrt w p) : weave (wPrt p) = 32 :: xPrt p := by
  match p, h with
  | .inl fs, ⟨_, _, h, _⟩ => exact weave_sep 44 weave_F fs h
  | .inr (.inl ls), ⟨_, h, _⟩ => exact weave_sep 44 weave_L ls h
  | .inr (.inr ps), ⟨_, h, _⟩ => exact weave_sep 44 weave_P ps h
theorem weave_sep' (m : Nat) {α : Type} {w : α → Wv} {x : α → Tx} : ∀ as : List α, (∀ a ∈ as, weave (w a) = 32 :: x a) → as ≠ [] → weave (sepW m (as.map w)) = 32 :: joinL [m, 32] (as.map x)
  | [], _, h => absurd rfl h
  | [a], h, _ => h a (List.mem_cons_self ..)
  | a :: b :: r, h, _ => by
    have := weave_sep' m (b :: r) (fun q hq => h q (List.mem_cons_of_mem _ hq)) (fun z => by cases z)
    show weave (w a ++ ([], [m]) :: sepW m ((b :: r).map w)) = 32 :: (x a ++ ([m, 32] ++ joinL [m, 32] ((b :: r).map x)))
    rw [weave_app, h a (List.mem_cons_self ..)]
    show (32 :: x a) ++ ([] ++ ([m] ++ weave (sepW m ((b :: r).map w)))) = _
    rw [this]
    rfl
theorem weave_rule {t : Tx} {ps : List (Tx × Prt)} (hi : Inc 0 ps) (hn : ps ≠ []) : weave (wRule t ps) = xRule t ps := by
  show [] ++ (ruleW ++ ([32] ++ (t ++ ([] ++ ([58] ++ weave (sepW 59 (ps.map wPart))))))) = _
  rw [weave_sep' 59 (x := xPart) ps (fun q hq => ?_) hn]
  · rfl
  · show [32] ++ (q.1 ++ weave (wPrt q.2)) = 32 :: xPart q
    rw [weave_Prt (inc_mem hi q hq).2]
    rfl
theorem parts_ne {r : RV} (h : GR r) : partsOf r ≠ [] := fun z => by
  have h1 := get_take r
  have h2 := get_keep r
  rw [z] at h1 h2
  rcases h.heads with q | q
  · cases e : r.taken with
    | nil => exact q e
    | cons a b => rw [e] at h1; cases h1
  · cases e : r.kept with
    | nil => exact q e
    | cons a b => rw [e] at h2; cases h2
theorem pcs_rule {t : Tx} {r : RV} (ht : isKd t = true) (h : GR r) : pcs (xRule t (partsOf r)) = some (tRule t (partsOf r)) := by
  have := pcs_okw (s := []) (okw_rule ht (inc_parts h)) sp_nil
  rw [List.append_nil, weave_rule (inc_parts h) (parts_ne h), wRule_snd] at this
  exact this
/-! what the pieces' sizes are -/
theorem stp_bd {B : Nat} {f f' : List Tx} {n n' : Tx} {c : Nat} (h : stp f n c = some (f', n')) (h1 : ∀ y ∈ f, y.length ≤ B) (h2 : n.length + 1 ≤ B) : (∀ y ∈ f', y.length ≤ B) ∧ n'.length ≤ n.length + 1 := by
  have fl : ∀ y ∈ flush f n, y.length ≤ B := fun y hy => by
    unfold flush at hy
    by_cases e : n = []
    · rw [if_pos e] at hy; exact h1 y hy
    · rw [if_neg e] at hy
      rcases List.mem_append.mp hy with hy | hy
      · exact h1 y hy
      · rw [List.mem_singleton.mp hy]; omega
  unfold stp at h
  by_cases c1 : isSign c = true
  · rw [if_pos c1] at h; cases h
    exact ⟨h1, by rw [List.length_append, List.length_singleton]; exact Nat.le_refl _⟩
  · rw [if_neg c1] at h
    by_cases c2 : isMark c = true
    · rw [if_pos c2] at h; cases h
      refine ⟨fun y hy => ?_, Nat.zero_le _⟩
      rcases List.mem_append.mp hy with hy | hy
      · exact fl y hy
      · rw [List.mem_singleton.mp hy, List.length_singleton]; omega
    · rw [if_neg c2] at h
      by_cases c3 : c = 32
      · rw [if_pos c3] at h; cases h
        exact ⟨fl, Nat.zero_le _⟩
      · rw [if_neg c3] at h; cases h
theorem prun_bd {B : Nat} : ∀ (r : Tx) {f f' : List Tx} {n n' : Tx}, prun f n r = some (f', n') → (∀ y ∈ f, y.length ≤ B) → n.length + r.length ≤ B → (∀ y ∈ f', y.length ≤ B) ∧ n'.length ≤ B
  | [], f, f', n, n', h, h1, h2 => by cases h; exact ⟨h1, h2⟩
  | c :: r, f, f', n, n', h, h1, h2 => by
    rw [List.length_cons] at h2
    rw [run_cons] at h
    cases e : stp f n c with
    | none => rw [e] at h; cases h
    | some s =>
      rw [e] at h
      obtain ⟨g1, g2⟩ := stp_bd (B := B) (f' := s.1) (n' := s.2) e h1 (by omega)
      exact prun_bd r h g1 (by omega)
theorem prun_len : ∀ (r : Tx) (f : List Tx) (n : Tx) (f' : List Tx) (n' : Tx), prun f n r = some (f', n') → f'.length + n'.length ≤ f.length + n.length + r.length := by
  intro r
  induction r with
  | nil => intro f n f' n' h; cases h; simp
  | cons c r ih =>
    intro f n f' n' h
    rw [run_cons] at h
    cases h2 : stp f n c with
    | none => rw [h2] at h; cases h
    | some s =>
      rw [h2] at h
      have := stp_len (f' := s.1) (n' := s.2) h2
      have := ih _ _ _ _ h
      rw [List.length_cons]; omega
theorem pcs_tks {x : Tx} {ts : List Tx} (h : pcs x = some ts) (hz : x.length < SZ) : tks ts := by
  unfold pcs at h
  cases e : prun [] [] x with
  | none => rw [e] at h; cases h
  | some s =>
    obtain ⟨f, n⟩ := s
    rw [e] at h
    cases h
    obtain ⟨h1, h2⟩ := prun_bd (B := x.length) x e (fun y hy => by cases hy) (by simp)
    have h3 := prun_len x [] [] f n e
    have h4 := flush_len f n
    simp only [List.length_nil, Nat.zero_add] at h3
    refine ⟨by show (flush f n).length < SZ; omega, fun y hy => ?_⟩
    have hy : y ∈ flush f n := hy
    unfold flush at hy
    by_cases c : n = []
    · rw [if_pos c] at hy; have := h1 y hy; omega
    · rw [if_neg c] at hy
      rcases List.mem_append.mp hy with hy | hy
      · have := h1 y hy; omega
      · rw [List.mem_singleton.mp hy]; omega
/-! open names -/
def isOpn (x : Tx) : Bool := isNm x && decide (x.headD 0 ∈ great)
theorem is_open_eq {x : Tx} (hz : x.length ≤ SZ) : m_is_open x = .ok (isOpn x) := by
  unfold m_is_open isOpn
  simp only [pure_bind, is_name_eq hz, okb]
  cases h : isNm x with
  | false => rfl
  | true =>
    match x, h with
    | [], h => exact absurd h (by decide)
    | c :: r, h =>
      obtain ⟨d, e, e2⟩ := atT_ok (x := c :: r) (i := 0) (by decide) (by rw [List.length_cons]; omega) hz
      have : d = c := by simpa using e2.symm
      subst this
      rw [if_pos rfl, e, pure_bind]
      rfl
theorem forP_fold {S α : Type} {g : S → α → M S} {f : S → α → S} (I : Nat → S → Prop) : ∀ (xs : List α) (k : Nat) (s : S), (∀ (j : Nat) (s : S) (x : α), x ∈ xs → j < k + xs.length → I j s → g s x = .ok (f s x) ∧ I (j + 1) (f s x)) → I k s → forP g s xs = .ok (xs.foldl f s) ∧ I (k + xs.length) (xs.foldl f s)
  | [], k, s, _, h => ⟨rfl, h⟩
  | x :: xs, k, s, hf, h => by
    obtain ⟨h1, h2⟩ := hf k s x (List.mem_cons_self ..) (by rw [List.length_cons]; omega) h
    obtain ⟨h3, h4⟩ := forP_fold I xs (k + 1) (f s x) (fun j s y hy hj => hf j s y (List.mem_cons_of_mem _ hy) (by rw [List.length_cons]; omega)) h2
    refine ⟨?_, by rw [show k + (x :: xs).length = k + 1 + xs.length by rw [List.length_cons]; omega]; exact h4⟩
    show (g s x >>= fun s => forP g s xs) = _
    rw [h1, okb, h3]
    rfl
def addN (s : List Tx) (n : Tx) : List Tx := if isOpn n = true ∧ n ∉ s then s ++ [n] else s
def addF (s : List Tx) (f : Fct) : List Tx := List.foldl addN s f.2
def opens (fs : List Fct) : List Tx := fs.foldl addF []
theorem addN_len (s : List Tx) (n : Tx) : (addN s n).length ≤ s.length + 1 := by
  unfold addN
  split
  · rw [List.length_append, List.length_singleton]; exact Nat.le_refl _
  · omega
theorem foldN_len : ∀ (ns s : List Tx), (ns.foldl addN s).length ≤ s.length + ns.length
  | [], s => Nat.le_refl _
  | n :: r, s => by
    have h1 := addN_len s n
    have h2 := foldN_len r (addN s n)
    show (r.foldl addN (addN s n)).length ≤ _
    rw [List.length_cons]; omega
theorem addF_len {s : List Tx} {f : Fct} (h : GF f) : (addF s f).length ≤ s.length + 8 := by
  have h1 := foldN_len (show List Tx from f.2) s
  have h2 := h.2.2
  have : List.length (α := Tx) f.2 = (show List Tx from f.2).length := rfl
  show (List.foldl addN s (show List Tx from f.2)).length ≤ _
  omega
theorem open_names_eq {fs : List Fct} (h : ∀ f ∈ fs, GF f) (hl : fs.length ≤ 1000) : m_open_names fs = .ok (opens fs) := by
  unfold m_open_names
  simp only [pure_bind, bind_pure]
  refine (forP_fold (f := addF) (fun j (s : List Tx) => s.length ≤ 8 * j) fs 0 [] (fun j s f hf hj hI => ⟨?_, ?_⟩) (by simp)).1
  · have gf := h f hf
    refine (forP_fold (f := addN) (fun i (s : List Tx) => s.length ≤ 8 * j + i) (show List Tx from f.2) 0 s (fun i s n hn hi hI => ⟨?_, ?_⟩) hI).1
    · have nz : n.length ≤ SZ := by have := isNm_len (gf.2.1 n hn); rw [SZ_val]; omega
      have b := gf.2.2
      have hs : s.length < SZ := by
        have : List.length (α := Tx) f.2 = (show List Tx from f.2).length := rfl
        rw [SZ_val]; omega
      show ((m_is_open n >>= fun c19 => if c19 = true then (pure (!decide (n ∈ s)) : M Bool) else pure false) >>= _) = _
      rw [is_open_eq nz, okb]
      unfold addN
      cases ho : isOpn n with
      | false => rw [if_neg Bool.false_ne_true, pure_bind, if_neg Bool.false_ne_true, if_neg (fun z => Bool.false_ne_true z.1)]; rfl
      | true =>
        rw [if_pos rfl, pure_bind]
        by_cases hm : n ∈ s
        · rw [decide_eq_true hm, if_neg (show ¬ (!true) = true by decide), if_neg (fun z => z.2 hm)]; rfl
        · rw [decide_eq_false hm, if_pos (show (!false) = true from rfl), if_pos ⟨rfl, hm⟩, chk_b hs]; rfl
    · have := addN_len s n
      omega
  · have := addF_len (s := s) (h f hf)
    omega
theorem dic_b {α β : Type} {x : List (Tx × α)} {f : Dic α → M β} : ((pure x : M (Dic α)) >>= f) = f x := rfl
/-! the rule that is made -/
def ruleF (t : Tx) (r : RV) : F_Rule := (t, r.taken, r.kept, r.looks, r.given, r.told, opens (r.taken ++ r.kept), ())
def ruleC (t : Tx) (r : RV) : C_Rule := ⟨0, ruleF t r⟩
theorem catM_ok {α : Type} {xs ys : List α} (h : xs.length + ys.length ≤ SZ) : catM xs ys = .ok (xs ++ ys) := by unfold catM; rw [chk_b h]; rfl
theorem rule_init {t : Tx} {r : RV} (h : GR r) : m_Rule___init__ t (partsOf r) = .ok (ruleF t r) := by
  unfold m_Rule___init__
  have g1 : dgetM (partsOf r) (tx "take") = _ := get_take r
  have g2 : dgetM (partsOf r) (tx "keep") = _ := get_keep r
  have g3 : dgetM (partsOf r) (tx "look") = _ := get_look r
  have g4 : dgetM (partsOf r) (tx "put") = _ := get_put r
  have g5 : dgetM (partsOf r) (tx "tell") = _ := get_tell r
  obtain ⟨s1, s2, s3, s4, s5⟩ := h.sizes
  have l1 : (lf1 ((if r.taken.isEmpty = true then none else some (Sum.inl r.taken : Prt)).getD (.inl [])) : M (List Fct)) = .ok r.taken := by
    cases r.taken <;> rfl
  have l2 : (lf1 ((if r.kept.isEmpty = true then none else some (Sum.inl r.kept : Prt)).getD (.inl [])) : M (List Fct)) = .ok r.kept := by
    cases r.kept <;> rfl
  have l3 : (lf2 ((if r.looks.isEmpty = true then none else some (Sum.inr (Sum.inl r.looks) : Prt)).getD (.inl [])) : M (List C_Look)) = .ok r.looks := by
    cases r.looks <;> rfl
  have l4 : (lf1 ((if r.given.isEmpty = true then none else some (Sum.inl r.given : Prt)).getD (.inl [])) : M (List Fct)) = .ok r.given := by
    cases r.given <;> rfl
  have l5 : (lf3 ((if r.told.isEmpty = true then none else some (Sum.inr (Sum.inr r.told) : Prt)).getD (.inl [])) : M (List (Tx × Tx))) = .ok r.told := by
    cases r.told <;> rfl
  have on := open_names_eq (fs := r.taken ++ r.kept) (fun f hf => (List.mem_append.mp hf).elim (h.taken f) (h.kept f)) (by rw [List.length_append]; omega)
  simp only [pure_bind, dic_b, g1, g2, g3, g4, g5, l1, l2, l3, l4, l5, okb]
  rw [catM_ok (by rw [SZ_val]; omega), okb, on, okb]
  rfl
/-! its text -/
theorem xF_len {f : Fct} (h : GF f) : (xF f).length ≤ 250 := by
  have a := isNm_len (isKd_nm h.1)
  have e : xF f = (toks f.1 f.2 false).flatten := ftext_flat f.1 f.2
  have b := flatten_len (n := 12) (xs := toks f.1 f.2 false) (toks_mem (P := fun x => x.length ≤ 12) a (by decide) (by decide) (by decide) fun x hx => isNm_len (h.2.1 x hx))
  have c : (toks f.1 f.2 false).length ≤ 2 * List.length (α := Tx) f.2 + 3 := toks_len f.1 f.2 false
  have d := h.2.2
  have g : (toks f.1 f.2 false).length ≤ 19 := by omega
  have := Nat.le_trans b (Nat.mul_le_mul_left 12 g)
  rw [e]
  omega
theorem xL_len {l : C_Look} (h : GL l) : (xL l).length ≤ 250 := by
  have a := isNm_len h.2.1
  have b := isNm_len h.2.2
  have c : (lookWd l).length ≤ 6 := by unfold lookWd; split <;> decide
  unfold xL
  simp only [List.length_append, List.length_singleton]
  omega
theorem xP_len {p : Tx × Tx} (h : GP p) : (xP p).length ≤ 250 := by
  have a := isNm_len h.1
  have b := isNm_len h.2
  unfold xP
  simp only [List.length_append, List.length_cons, List.length_nil]
  omega
theorem joins_len {α : Type} {x : α → Tx} {s : Tx} {as : List α} {B : Nat} (h : ∀ a ∈ as, (x a).length ≤ B) (hs : s.length = 2) : ((as.map x).map (·.length)).sum + (as.map x).length * s.length ≤ as.length * (B + 2) := by
  have := sum_le (k := B) (xs := as.map x) fun y hy => by
    obtain ⟨a, ha, rfl⟩ := List.mem_map.mp hy
    exact h a ha
  rw [List.length_map] at this ⊢
  rw [hs, Nat.mul_add]
  omega
theorem join2_len {α : Type} {x : α → Tx} {s : Tx} {as : List α} {B n : Nat} (h : ∀ a ∈ as, (x a).length ≤ B) (hs : s.length = 2) (hn : as.length ≤ n) : (joinL s (as.map x)).length ≤ n * (B + 2) :=
  Nat.le_trans (joinL_len s _) (Nat.le_trans (joins_len h hs) (Nat.mul_le_mul_right _ hn))
theorem join2_ok {α : Type} {x : α → Tx} {s : Tx} {as : List α} {B n : Nat} (h : ∀ a ∈ as, (x a).length ≤ B) (hs : s.length = 2) (hn : as.length ≤ n) (hb : n * (B + 2) ≤ 16777216) : joinM s (as.map x) = .ok (joinL s (as.map x)) :=
  joinM_ok (Nat.le_trans (joins_len h hs) (Nat.le_trans (Nat.mul_le_mul_right _ hn) hb))
theorem fact_text_F {f : Fct} (h : GF f) : m_fact_text f = .ok (xF f) := by
  have d := h.2.2
  exact fact_text_eq (t := f.1) (args := f.2) (isNm_len (isKd_nm h.1)) (fun x hx => isNm_len (h.2.1 x hx)) (Nat.le_trans d (by decide))
theorem facts_text_eq {fs : List Fct} (h : ∀ f ∈ fs, GF f) (hl : fs.length ≤ 300) : m_facts_text fs = .ok (joinL [44, 32] (fs.map xF)) := by
  unfold m_facts_text
  simp only [pure_bind]
  rw [lc_map (g := xF) (by rw [SZ_val]; omega) fun f hf => fact_text_F (h f hf), okb, show tx ", " = [44, 32] from rfl]
  exact join2_ok (B := 250) (n := 300) (fun f hf => xF_len (h f hf)) rfl hl (by decide)
theorem xPrt_len {w : Tx} {p : Prt} (h : GPrt w p) (hl : (match p with
    | .inl fs => fs.length
    | .inr (.inl ls) => ls.length
    | .inr (.inr ps) => ps.length) ≤ 10) : (xPrt p).length ≤ 2520 := by
  match p, h, hl with
  | .inl fs, ⟨_, _, _, h⟩, hl => exact join2_len (B := 250) (fun f hf => xF_len (h f hf)) rfl hl
  | .inr (.inl ls), ⟨_, _, h⟩, hl => exact join2_len (B := 250) (fun f hf => xL_len (h f hf)) rfl hl
  | .inr (.inr ps), ⟨_, _, h⟩, hl => exact join2_len (B := 250) (fun f hf => xP_len (h f hf)) rfl hl
theorem word_eq {l : C_Look} (h : GL l) : d_Look_word l = .ok (lookWd l) := by
  unfold d_Look_word lookWd
  rcases h.1 with c | c
  · rw [c]; rfl
  · rw [c]; rfl
def optX {α : Type} (w : Tx) (x : List α → Tx) : List α → List Tx
  | [] => []
  | a :: r => [w ++ ([32] ++ x (a :: r))]
theorem opt_step {α : Type} {w : Tx} {x : List α → Tx} {l : List α} {s : List Tx} {m : M Tx} (hm : l ≠ [] → m = .ok (w ++ ([32] ++ x l))) (hs : s.length ≤ 1000) :
    (if decide (0 < (l.length : Int)) = true then ((m >>= fun a => chk (s.length < SZ) >>= fun _ => pure a) >>= fun a => (pure (s ++ [a]) : M (List Tx))) else (pure s : M (List Tx))) = .ok (s ++ optX w x l) := by
  cases l with
  | nil =>
    rw [decide_eq_false (show ¬ (0 : Int) < (([] : List α).length : Int) by simp), if_neg Bool.false_ne_true]
    show Except.ok s = Except.ok (s ++ [])
    rw [List.append_nil]
  | cons a r =>
    rw [decide_eq_true (show (0 : Int) < ((a :: r).length : Int) by rw [List.length_cons]; omega), if_pos rfl, hm (fun z => by cases z), okb, chk_b (by rw [SZ_val]; omega)]
    rfl
theorem optX_len {α : Type} (w : Tx) (x : List α → Tx) (l : List α) : (optX w x l).length ≤ 1 := by cases l <;> simp [optX]
theorem map_opt {α : Type} {w : Tx} {inj : List α → Prt} {l : List α} : (optP w inj l).map xPart = optX w (fun l => xPrt (inj l)) l := by cases l <;> rfl
theorem xparts (r : RV) : (partsOf r).map xPart = optX takeW (fun l => xPrt (.inl l)) r.taken ++ (optX keepW (fun l => xPrt (.inl l)) r.kept ++ (optX lookW (fun l => xPrt (.inr (.inl l))) r.looks ++ (optX putW (fun l => xPrt (.inl l)) r.given ++ optX tellW (fun l => xPrt (.inr (.inr l))) r.told))) := by
  unfold partsOf
  rw [List.map_append, List.map_append, List.map_append, List.map_append, map_opt, map_opt, map_opt, map_opt, map_opt]
theorem optX_bd {α : Type} {w : Tx} {x : List α → Tx} {l : List α} {B : Nat} (h : l ≠ [] → (w ++ ([32] ++ x l)).length ≤ B) : ∀ y ∈ optX w x l, y.length ≤ B := by
  cases l with
  | nil => exact fun y hy => by cases hy
  | cons a r => exact fun y hy => by rw [List.mem_singleton.mp hy]; exact h (fun z => by cases z)
theorem xpart_len {w p : Tx} (hw : w.length ≤ 4) (hp : p.length ≤ 2520) : (w ++ ([32] ++ p)).length ≤ 2530 := by
  rw [List.length_append, List.length_append, List.length_singleton]; omega
theorem xparts_bd {r : RV} (h : GR r) : (∀ y ∈ (partsOf r).map xPart, y.length ≤ 2530) ∧ ((partsOf r).map xPart).length ≤ 5 := by
  obtain ⟨s1, s2, s3, s4, s5⟩ := h.sizes
  rw [xparts]
  refine ⟨fun y hy => ?_, ?_⟩
  · rcases List.mem_append.mp hy with hy | hy
    · exact optX_bd (w := takeW) (x := fun l => xPrt (.inl l)) (l := r.taken) (fun z => xpart_len (by decide) (xPrt_len (w := takeW) (p := .inl r.taken) ⟨by decide, by decide, z, h.taken⟩ s1)) y hy
    rcases List.mem_append.mp hy with hy | hy
    · exact optX_bd (w := keepW) (x := fun l => xPrt (.inl l)) (l := r.kept) (fun z => xpart_len (by decide) (xPrt_len (w := takeW) (p := .inl r.kept) ⟨by decide, by decide, z, h.kept⟩ s2)) y hy
    rcases List.mem_append.mp hy with hy | hy
    · exact optX_bd (w := lookW) (x := fun l => xPrt (.inr (.inl l))) (l := r.looks) (fun z => xpart_len (by decide) (xPrt_len (w := lookW) (p := .inr (.inl r.looks)) ⟨rfl, z, h.looks⟩ s3)) y hy
    rcases List.mem_append.mp hy with hy | hy
    · exact optX_bd (w := putW) (x := fun l => xPrt (.inl l)) (l := r.given) (fun z => xpart_len (by decide) (xPrt_len (w := takeW) (p := .inl r.given) ⟨by decide, by decide, z, h.given⟩ s4)) y hy
    · exact optX_bd (w := tellW) (x := fun l => xPrt (.inr (.inr l))) (l := r.told) (fun z => xpart_len (by decide) (xPrt_len (w := tellW) (p := .inr (.inr r.told)) ⟨rfl, z, h.told⟩ s5)) y hy
  · have a1 := optX_len takeW (fun l => xPrt (.inl l)) r.taken
    have a2 := optX_len keepW (fun l => xPrt (.inl l)) r.kept
    have a3 := optX_len lookW (fun l => xPrt (.inr (.inl l))) r.looks
    have a4 := optX_len putW (fun l => xPrt (.inl l)) r.given
    have a5 := optX_len tellW (fun l => xPrt (.inr (.inr l))) r.told
    simp only [List.length_append]
    omega
theorem xrule_len {t : Tx} {r : RV} (ht : isKd t = true) (h : GR r) : (xRule t (partsOf r)).length ≤ 13000 := by
  obtain ⟨b1, b2⟩ := xparts_bd h
  have a := isNm_len (isKd_nm ht)
  have j := join2_len (x := id) (s := [59, 32]) (as := (partsOf r).map xPart) (B := 2530) (n := 5) b1 rfl b2
  rw [List.map_id] at j
  unfold xRule
  simp only [List.length_append, List.length_cons, List.length_nil]
  have : ruleW.length = 4 := by decide
  omega
theorem addL {a b : Tx} (h : a.length + b.length ≤ 16777216) : addT a b = .ok (a ++ b) := addT_ok (by rw [SZ_val]; exact h)
theorem rule_text_eq {t : Tx} {r : RV} (ht : isKd t = true) (h : GR r) : m_rule_text (ruleC t r) = .ok (xRule t (partsOf r)) := by
  obtain ⟨s1, s2, s3, s4, s5⟩ := h.sizes
  have tl := isNm_len (isKd_nm ht)
  have p1 : ∀ {w : Tx}, w.length ≤ 5 → ∀ {fs : List Fct}, (∀ f ∈ fs, GF f) → fs.length ≤ 10 → (m_facts_text fs >>= fun y => addT w y) = .ok (w ++ xPrt (.inl fs)) := fun {w} hw {fs} hf hl => by
    have b := join2_len (x := xF) (s := [44, 32]) (B := 250) (fun f hq => xF_len (hf f hq)) rfl hl
    rw [facts_text_eq hf (by omega), okb, addL (by omega)]
    rfl
  have wd : ∀ (l : C_Look), GL l → (addT l.f.1 (tx " ") >>= fun x => d_Look_word l >>= fun y => addT x y >>= fun x => addT x (tx " ") >>= fun x => addT x l.f.2.1) = .ok (xL l) := fun l hl => by
    have a := isNm_len hl.2.1
    have b := isNm_len hl.2.2
    have c : (lookWd l).length ≤ 6 := by unfold lookWd; split <;> decide
    rw [show tx " " = [32] from rfl, addL (by rw [List.length_singleton]; omega), okb, word_eq hl, okb, addL (by simp only [List.length_append, List.length_singleton]; omega), okb, addL (by simp only [List.length_append, List.length_singleton]; omega), okb, addL (by simp only [List.length_append, List.length_singleton]; omega)]
    unfold xL
    simp only [List.append_assoc]
  have pr : ∀ p : Tx × Tx, GP p → (addT p.1 (tx " = ") >>= fun x => addT x p.2) = .ok (xP p) := fun p hp => by
    have a := isNm_len hp.1
    have b := isNm_len hp.2
    rw [show tx " = " = [32, 61, 32] from rfl, addL (by simp only [List.length_cons, List.length_nil]; omega), okb, addL (by simp only [List.length_append, List.length_cons, List.length_nil]; omega)]
    unfold xP
    rw [List.append_assoc]
  have e2 : tx ", " = [44, 32] := rfl
  have n1 : (tx "look ").length = 5 := by decide
  have n2 : (tx "tell ").length = 5 := by decide
  have n3 : (tx "rule ").length = 5 := by decide
  have n4 : (tx ": ").length = 2 := by decide
  have e3 : tx "; " = [59, 32] := rfl
  have q3 : (lc (fun l : C_Look => addT l.f.1 (tx " ") >>= fun x => d_Look_word l >>= fun y => addT x y >>= fun x => addT x (tx " ") >>= fun x => addT x l.f.2.1) r.looks >>= fun y => joinM (tx ", ") y >>= fun y => addT (tx "look ") y) = .ok (tx "look " ++ xPrt (.inr (.inl r.looks))) := by
    have b := join2_len (x := xL) (s := [44, 32]) (B := 250) (fun f hq => xL_len (h.looks f hq)) rfl s3
    rw [lc_map (g := xL) (by rw [SZ_val]; omega) fun l hl => wd l (h.looks l hl), okb, e2, join2_ok (x := xL) (B := 250) (n := 10) (fun l hl => xL_len (h.looks l hl)) rfl s3 (by decide), okb, addL (by omega)]
    rfl
  have q5 : (lc (fun p : Tx × Tx => addT p.1 (tx " = ") >>= fun x => addT x p.2) r.told >>= fun y => joinM (tx ", ") y >>= fun y => addT (tx "tell ") y) = .ok (tx "tell " ++ xPrt (.inr (.inr r.told))) := by
    have b := join2_len (x := xP) (s := [44, 32]) (B := 250) (fun f hq => xP_len (h.told f hq)) rfl s5
    rw [lc_map (g := xP) (by rw [SZ_val]; omega) fun l hl => pr l (h.told l hl), okb, e2, join2_ok (x := xP) (B := 250) (n := 10) (fun l hl => xP_len (h.told l hl)) rfl s5 (by decide), okb, addL (by omega)]
    rfl
  have w1 : tx "take " = takeW ++ [32] := by decide
  have w2 : tx "keep " = keepW ++ [32] := by decide
  have w3 : tx "look " = lookW ++ [32] := by decide
  have w4 : tx "put " = putW ++ [32] := by decide
  have w5 : tx "tell " = tellW ++ [32] := by decide
  have asc : ∀ {a : Tx} {c : Tx}, a ++ [32] ++ c = a ++ ([32] ++ c) := fun {a c} => List.append_assoc _ _ _
  have r1 : r.taken ≠ [] → (m_facts_text r.taken >>= fun y => addT (tx "take ") y) = .ok (takeW ++ ([32] ++ xPrt (.inl r.taken))) := fun _ => by rw [p1 (by decide) h.taken s1, w1, asc]
  have r2 : r.kept ≠ [] → (m_facts_text r.kept >>= fun y => addT (tx "keep ") y) = .ok (keepW ++ ([32] ++ xPrt (.inl r.kept))) := fun _ => by rw [p1 (by decide) h.kept s2, w2, asc]
  have r4 : r.given ≠ [] → (m_facts_text r.given >>= fun y => addT (tx "put ") y) = .ok (putW ++ ([32] ++ xPrt (.inl r.given))) := fun _ => by rw [p1 (by decide) h.given s4, w4, asc]
  rw [w3, asc] at q3
  rw [w5, asc] at q5
  have a1 := optX_len takeW (fun l => xPrt (.inl l)) r.taken
  have a2 := optX_len keepW (fun l => xPrt (.inl l)) r.kept
  have a3 := optX_len lookW (fun l => xPrt (.inr (.inl l))) r.looks
  have a4 := optX_len putW (fun l => xPrt (.inl l)) r.given
  obtain ⟨b1, b2⟩ := xparts_bd h
  have jm := join2_ok (x := id) (s := [59, 32]) (as := (partsOf r).map xPart) (B := 2530) (n := 5) b1 rfl b2 (by decide)
  have jl := join2_len (x := id) (s := [59, 32]) (as := (partsOf r).map xPart) (B := 2530) (n := 5) b1 rfl b2
  rw [List.map_id] at jm jl
  have t1 := opt_step (x := fun l => xPrt (.inl l)) (s := []) r1 (by simp)
  have t2 := opt_step (x := fun l => xPrt (.inl l)) (s := [] ++ optX takeW (fun l => xPrt (.inl l)) r.taken) r2 (by simp only [List.length_append, List.length_nil]; omega)
  have t3 := opt_step (x := fun l => xPrt (.inr (.inl l))) (s := [] ++ optX takeW (fun l => xPrt (.inl l)) r.taken ++ optX keepW (fun l => xPrt (.inl l)) r.kept) (fun _ => q3) (by simp only [List.length_append, List.length_nil]; omega)
  have t4 := opt_step (x := fun l => xPrt (.inl l)) (s := [] ++ optX takeW (fun l => xPrt (.inl l)) r.taken ++ optX keepW (fun l => xPrt (.inl l)) r.kept ++ optX lookW (fun l => xPrt (.inr (.inl l))) r.looks) r4 (by simp only [List.length_append, List.length_nil]; omega)
  have t5 := opt_step (x := fun l => xPrt (.inr (.inr l))) (s := [] ++ optX takeW (fun l => xPrt (.inl l)) r.taken ++ optX keepW (fun l => xPrt (.inl l)) r.kept ++ optX lookW (fun l => xPrt (.inr (.inl l))) r.looks ++ optX putW (fun l => xPrt (.inl l)) r.given) (fun _ => q5) (by simp only [List.length_append, List.length_nil]; omega)
  unfold m_rule_text
  simp only [pure_bind, ruleC, ruleF, bind_assoc] at t1 t2 t3 t4 t5 ⊢
  simp only [w3, w5] at t1 t2 t3 t4 t5 ⊢
  rw [t1, okb, t2, okb, t3, okb, t4, okb, t5, okb]
  have fin : [] ++ optX takeW (fun l => xPrt (.inl l)) r.taken ++ optX keepW (fun l => xPrt (.inl l)) r.kept ++ optX lookW (fun l => xPrt (.inr (.inl l))) r.looks ++ optX putW (fun l => xPrt (.inl l)) r.given ++ optX tellW (fun l => xPrt (.inr (.inr l))) r.told = (partsOf r).map xPart := by
    rw [xparts]
    simp only [List.append_assoc, List.nil_append]
  rw [fin, addL (by omega), okb, addL (by rw [List.length_append]; omega), okb, e3, jm, okb, addL (by simp only [List.length_append]; omega)]
  have w6 : tx "rule " = ruleW ++ [32] := by decide
  have w7 : tx ": " = [58, 32] := rfl
  unfold xRule
  rw [w6, w7]
  simp only [List.append_assoc]
/-! a rule judged -/
def kof (ks : List K3) (n : Tx) : Option K3 := ks.find? fun k => decide (k.a = n)
def ffault (ks : List K3) (f : Fct) : Option Str := match kof ks f.1 with
  | none => some "NoKind"
  | some k => if ((List.length (α := Tx) f.2 : Nat) : Int) = k.b then none else some "BadArgs"
def lastsK (ks : List K3) (f : Fct) : Bool := match kof ks f.1 with
  | none => false
  | some k => k.c
def saidOf (r : RV) : List Tx := (r.looks.flatMap fun l => [l.f.1, l.f.2.1]) ++ ((r.given.flatMap fun f => (show List Tx from f.2)) ++ (r.told.flatMap fun p => [p.1, p.2]))
def judge (ks : List K3) (r : RV) : Option Str := match (r.taken ++ r.kept ++ r.given).findSome? (ffault ks) with
  | some c => some c
  | none => if r.taken.any (lastsK ks) = true then some "BadTake" else
    if r.taken.isEmpty = true ∧ (r.given.any fun f => !lastsK ks f) = true then some "BadCall" else
    if ((saidOf r).any fun n => isOpn n && !decide (n ∈ opens (r.taken ++ r.kept))) = true then some "NoName" else none
def orRaise {α : Type} (o : Option Str) (m : M α) : M α := match o with
  | some c => raise c
  | none => m
theorem forP_find {α : Type} {g : Unit → α → M Unit} {p : α → Option Str} : ∀ {xs : List α}, (∀ x ∈ xs, g () x = orRaise (p x) (pure ())) → forP g () xs = orRaise (xs.findSome? p) (pure ())
  | [], _ => rfl
  | x :: xs, h => by
    show (g () x >>= fun s => forP g s xs) = _
    rw [h x (List.mem_cons_self ..), List.findSome?_cons]
    cases e : p x with
    | some c => rfl
    | none => exact forP_find fun z hz => h z (List.mem_cons_of_mem _ hz)
theorem find_any {α : Type} {p : α → Bool} {c : Str} : ∀ xs : List α, (xs.findSome? fun x => if p x = true then some c else none) = if xs.any p = true then some c else none
  | [] => rfl
  | x :: xs => by
    rw [List.findSome?_cons, List.any_cons]
    cases h : p x with
    | true => rfl
    | false =>
      simp only [Bool.false_eq_true, if_false, Bool.false_or]
      exact find_any xs
theorem forP_any {α : Type} {g : Unit → α → M Unit} {p : α → Bool} {c : Str} {xs : List α} (h : ∀ x ∈ xs, g () x = if p x = true then raise c else pure ()) : forP g () xs = orRaise (if xs.any p = true then some c else none) (pure ()) := by
  rw [← find_any]
  refine forP_find fun x hx => ?_
  rw [h x hx]
  cases p x <;> rfl
/-- a dict put together from kinds -/
theorem dget_put {α : Type} (d : List (Tx × α)) (k : Tx) (a : α) (n : Tx) : dgetM (dputM d k a) n = if k = n then some a else dgetM d n := by
  have app : ∀ d : List (Tx × α), dgetM d k = none → dgetM (d ++ [(k, a)]) n = if k = n then some a else dgetM d n := fun d h => by
    rw [dget_app]
    by_cases e : k = n
    · subst e
      rw [h, if_pos rfl]
      show (none : Option α).or (if k = k then some a else _) = _
      rw [if_pos rfl]
      rfl
    · rw [if_neg e]
      show (dgetM d n).or (if k = n then some a else none) = _
      rw [if_neg e]
      exact or_n _
  have mp : ∀ d : List (Tx × α), dgetM (d.map fun q => if q.1 = k then (q.1, a) else q) n = if k = n then (dgetM d n).map (fun _ => a) else dgetM d n := by
    intro d
    induction d with
    | nil => by_cases e : k = n <;> simp [dgetM, e]
    | cons q r ih =>
      rw [List.map_cons, dget_cons, dget_cons, ih]
      by_cases e1 : q.1 = k
      · rw [if_pos e1]
        by_cases e2 : k = n
        · have e3 : q.1 = n := e1.trans e2
          simp only [e2, e3, if_true, Option.map_some]
        · have e3 : ¬ q.1 = n := fun z => e2 (e1.symm.trans z)
          simp only [e2, e3, if_false]
      · rw [if_neg e1]
        by_cases e2 : k = n
        · have e3 : ¬ q.1 = n := fun z => e1 (z.trans e2.symm)
          simp only [e2, e3, if_true, if_false]
        · simp only [e2, if_false]
  unfold dputM
  cases h : dgetM d k with
  | none =>
    rw [if_neg (show ¬ (none : Option α).isSome = true from Bool.false_ne_true)]
    exact app d h
  | some b =>
    rw [if_pos (show (some b).isSome = true from rfl), mp]
    by_cases e : k = n
    · subst e
      rw [if_pos rfl, if_pos rfl, h]
      rfl
    · rw [if_neg e, if_neg e]
def lookupF {α : Type} (v : K3 → α) (ks : List K3) (d : List (Tx × α)) : List (Tx × α) := ks.foldl (fun d k => dputM d k.a (v k)) d
theorem dput_len {α : Type} (d : List (Tx × α)) (k : Tx) (a : α) : (dputM d k a).length ≤ d.length + 1 := by
  unfold dputM
  split
  · rw [List.length_map]; omega
  · rw [List.length_append, List.length_singleton]; exact Nat.le_refl _
theorem lookup_get {α : Type} {v : K3 → α} : ∀ {ks : List K3} {d : List (Tx × α)} {n : Tx}, (ks.map (·.a)).Nodup → dgetM (lookupF v ks d) n = match kof ks n with
    | some k => some (v k)
    | none => dgetM d n
  | [], d, n, _ => rfl
  | k :: r, d, n, nd => by
    obtain ⟨n1, n2⟩ := List.nodup_cons.mp (show (k.a :: r.map (·.a)).Nodup from nd)
    show dgetM (lookupF v r (dputM d k.a (v k))) n = _
    rw [lookup_get n2, dget_put]
    unfold kof
    rw [List.find?_cons]
    by_cases e : k.a = n
    · rw [decide_eq_true e, if_pos e]
      have : kof r n = none := by
        unfold kof
        refine List.find?_eq_none.mpr fun q hq z => n1 ?_
        have z := of_decide_eq_true z
        rw [e, ← z]
        exact List.mem_map_of_mem hq
      have this' : r.find? (fun k => decide (k.a = n)) = none := this
      rw [this']
    · rw [decide_eq_false e, if_neg e]
theorem kinds_dict {α : Type} {v : K3 → α} {g : Dic α → K3 → M (Dic α)} (hg : ∀ (d : Dic α) (k : K3), List.length (α := Tx × α) d < SZ → g d k = .ok (dputM d k.a (v k))) {ks : List K3} (hl : ks.length ≤ 1000) : forP g ([] : List (Tx × α)) ks = .ok (lookupF v ks []) := by
  refine (forP_fold (f := fun (d : Dic α) (k : K3) => (dputM d k.a (v k) : Dic α)) (fun j (d : Dic α) => List.length (α := Tx × α) d ≤ j) ks 0 ([] : List (Tx × α)) (fun j d k _ hj hI => ⟨hg d k (by rw [SZ_val]; omega), ?_⟩) (Nat.le_refl _)).1
  have := dput_len d k.a (v k)
  show List.length (α := Tx × α) (dputM d k.a (v k)) ≤ j + 1
  omega
theorem kind_lasts_eq {ks : List K3} (hl : ks.length ≤ 1000) : m_kind_lasts ks = .ok (lookupF (·.c) ks []) := by
  unfold m_kind_lasts
  simp only [pure_bind, bind_pure]
  refine kinds_dict (fun d k hd => ?_) hl
  show ((chk (List.length (α := Tx × Bool) d < SZ) >>= fun _ => (pure (dputM d k.a k.c) : M (List (Tx × Bool)))) >>= fun a => (pure a : M (Dic Bool))) = _
  rw [chk_b hd]
  rfl
theorem look_at_facts_eq {ks : List K3} {fs : List Fct} (hl : ks.length ≤ 1000) (nd : (ks.map (·.a)).Nodup) : m_look_at_facts ks fs = orRaise (fs.findSome? (ffault ks)) (pure ()) := by
  unfold m_look_at_facts
  simp only [pure_bind, bind_pure]
  refine Eq.trans (congrArg (fun m => m >>= _) (kinds_dict (v := (·.b)) (fun d k hd => ?_) hl)) ?_
  · show ((chk (List.length (α := Tx × Int) d < SZ) >>= fun _ => (pure (dputM d k.a k.b) : M (List (Tx × Int)))) >>= fun a => (pure a : M (Dic Int))) = _
    rw [chk_b hd]
    rfl
  show (forP (fun (_ : Unit) (e17 : Fct) => _) () fs >>= fun _ => (pure () : M Unit)) = _
  refine Eq.trans (congrArg (fun m => m >>= _) (forP_find (p := ffault ks) fun f hf => ?_)) ?_
  · have e2 : dgetM (lookupF (·.b) ks ([] : List (Tx × Int))) f.1 = (kof ks f.1).map (·.b) := by
      rw [lookup_get nd]
      cases kof ks f.1 <;> rfl
    show (if (!(dgetM (lookupF (·.b) ks ([] : List (Tx × Int))) f.1).isSome) = true then _ else _) >>= _ = _
    rw [e2]
    cases e3 : kof ks f.1 with
    | none =>
      have fe : ffault ks f = some ("NoKind" : Str) := by unfold ffault; rw [e3]
      rw [fe]
      rfl
    | some k =>
      have fe : ffault ks f = if ((List.length (α := Tx) f.2 : Nat) : Int) = k.b then none else some ("BadArgs" : Str) := by unfold ffault; rw [e3]
      rw [fe]
      show ((if (!decide (((List.length (α := Tx) f.2 : Nat) : Int) = k.b)) = true then (raise "BadArgs" : M Unit) else pure ()) >>= fun _ => pure ()) = _
      by_cases c : ((List.length (α := Tx) f.2 : Nat) : Int) = k.b
      · rw [if_pos c, decide_eq_true c]
        rfl
      · rw [if_neg c, decide_eq_false c]
        rfl
  · cases fs.findSome? (ffault ks) <;> rfl
theorem known_of {ks : List K3} {fs : List Fct} (h : fs.findSome? (ffault ks) = none) : ∀ f ∈ fs, ∃ k, kof ks f.1 = some k := fun f hf => by
  have := List.findSome?_eq_none_iff.mp h f hf
  unfold ffault at this
  cases e : kof ks f.1 with
  | none => rw [e] at this; cases this
  | some k => exact ⟨k, rfl⟩
theorem lasts_get {ks : List K3} (nd : (ks.map (·.a)).Nodup) {f : Fct} (h : ∃ k, kof ks f.1 = some k) : (ofO (dgetM (lookupF (·.c) ks ([] : List (Tx × Bool))) f.1) : M Bool) = .ok (lastsK ks f) := by
  obtain ⟨k, e⟩ := h
  rw [lookup_get nd]
  unfold lastsK
  rw [e]
  rfl
theorem look_at_taken_eq {ks : List K3} (nd : (ks.map (·.a)).Nodup) {fs : List Fct} (h : ∀ f ∈ fs, ∃ k, kof ks f.1 = some k) : m_look_at_taken (lookupF (·.c) ks ([] : List (Tx × Bool))) fs = orRaise (if fs.any (lastsK ks) = true then some "BadTake" else none) (pure ()) := by
  unfold m_look_at_taken
  simp only [pure_bind, bind_pure]
  refine Eq.trans (congrArg (fun m => m >>= _) (forP_any (p := lastsK ks) (c := "BadTake") fun f hf => ?_)) ?_
  · show ((ofO (dgetM (lookupF (·.c) ks ([] : List (Tx × Bool))) f.1) : M Bool) >>= fun c => if c = true then raise "BadTake" else pure ()) >>= _ = _
    rw [lasts_get nd (h f hf), okb]
    cases lastsK ks f <;> rfl
  · cases fs.any (lastsK ks) <;> rfl

theorem forP_cat {α : Type} {g : List Tx → α → M (List Tx)} {f : α → List Tx} {B : Nat} (hg : ∀ s x, s.length + (f x).length ≤ SZ → g s x = .ok (s ++ f x)) : ∀ {xs : List α} {s : List Tx}, (∀ x ∈ xs, (f x).length ≤ B) → s.length + xs.length * B ≤ SZ → forP g s xs = .ok (s ++ xs.flatMap f)
  | [], s, _, _ => by show Except.ok s = _; rw [List.flatMap_nil, List.append_nil]
  | x :: xs, s, h, hl => by
    have hx := h x (List.mem_cons_self ..)
    rw [List.length_cons, Nat.add_mul] at hl
    show (g s x >>= fun s => forP g s xs) = _
    rw [hg s x (by omega), okb, forP_cat hg (fun y hy => h y (List.mem_cons_of_mem _ hy)) (by rw [List.length_append]; omega), List.append_assoc, List.flatMap_cons]
theorem flatMap_len {α : Type} {f : α → List Tx} {B : Nat} : ∀ {xs : List α}, (∀ x ∈ xs, (f x).length ≤ B) → (xs.flatMap f).length ≤ xs.length * B
  | [], _ => Nat.zero_le _
  | x :: xs, h => by
    have h1 := h x (List.mem_cons_self ..)
    have h2 := flatMap_len (xs := xs) fun y hy => h y (List.mem_cons_of_mem _ hy)
    rw [List.flatMap_cons, List.length_append, List.length_cons, Nat.add_mul]
    omega
theorem any_isEmpty {α : Type} (l : List α) : decide ((l.length : Int) = 0) = l.isEmpty := by
  cases l with
  | nil => rfl
  | cons a r => exact decide_eq_false (by rw [List.length_cons]; omega)
theorem said_nm {r : RV} (h : GR r) : ∀ n ∈ saidOf r, isNm n = true := fun n hn => by
  unfold saidOf at hn
  rcases List.mem_append.mp hn with hn | hn
  · obtain ⟨l, hl, hn⟩ := List.mem_flatMap.mp hn
    rcases List.mem_cons.mp hn with e | hn
    · rw [e]; exact (h.looks l hl).2.1
    · rw [List.mem_singleton.mp hn]; exact (h.looks l hl).2.2
  · rcases List.mem_append.mp hn with hn | hn
    · obtain ⟨f, hf, hn⟩ := List.mem_flatMap.mp hn
      exact (h.given f hf).2.1 n hn
    · obtain ⟨p, hp, hn⟩ := List.mem_flatMap.mp hn
      rcases List.mem_cons.mp hn with e | hn
      · rw [e]; exact (h.told p hp).1
      · rw [List.mem_singleton.mp hn]; exact (h.told p hp).2
theorem look_at_rule_eq {ks : List K3} {t : Tx} {r : RV} (hl : ks.length ≤ 1000) (nd : (ks.map (·.a)).Nodup) (h : GR r) : m_look_at_rule ks (ruleC t r) = orRaise (judge ks r) (pure ()) := by
  obtain ⟨s1, s2, s3, s4, s5⟩ := h.sizes
  unfold m_look_at_rule
  simp only [pure_bind, ruleC, ruleF]
  rw [catM_ok (by rw [SZ_val]; omega), okb, catM_ok (by rw [SZ_val, List.length_append]; omega), okb, look_at_facts_eq hl nd]
  unfold judge
  cases e1 : (r.taken ++ r.kept ++ r.given).findSome? (ffault ks) with
  | some c => rfl
  | none =>
    have kn := known_of e1
    have k1 : ∀ f ∈ r.taken, ∃ k, kof ks f.1 = some k := fun f hf => kn f (List.mem_append.mpr (.inl (List.mem_append.mpr (.inl hf))))
    have k2 : ∀ f ∈ r.given, ∃ k, kof ks f.1 = some k := fun f hf => kn f (List.mem_append.mpr (.inr hf))
    simp only [orRaise, pure_bind, kind_lasts_eq hl]
    show (m_look_at_taken (lookupF (·.c) ks ([] : List (Tx × Bool))) r.taken >>= fun _ => (pure () : M Unit)) >>= _ = _
    rw [look_at_taken_eq nd k1]
    cases e2 : r.taken.any (lastsK ks) with
    | true => rfl
    | false =>
      have cl : d_Rule_calls ⟨0, (t, r.taken, r.kept, r.looks, r.given, r.told, opens (r.taken ++ r.kept), ())⟩ = .ok r.taken.isEmpty := by
        rw [← any_isEmpty]
        rfl
      simp only [orRaise, pure_bind, cl, okb, Bool.false_eq_true, if_false]
      have two : ∀ {β : Type} (k : Unit → M β), ((if r.taken.isEmpty = true then (forP (fun (_ : Unit) (f : Fct) => (((ofO (dgetM (lookupF (·.c) ks ([] : List (Tx × Bool))) f.1) : M Bool) >>= fun c => pure (!c)) >>= fun c => if c = true then (raise "BadCall" : M Unit) else pure ()) >>= fun _ => (pure () : M Unit)) () r.given) >>= fun _ => (pure () : M Unit) else pure ()) >>= k) = orRaise (if r.taken.isEmpty = true ∧ (r.given.any fun f => !lastsK ks f) = true then some "BadCall" else none) (k ()) := by
        intro β k
        cases r.taken.isEmpty with
        | false => rw [if_neg Bool.false_ne_true, if_neg (fun z => Bool.false_ne_true z.1)]; rfl
        | true =>
          rw [if_pos rfl, forP_any (p := fun f => !lastsK ks f) (c := "BadCall") fun f hf => ?_]
          · simp only [true_and]
            cases r.given.any fun f => !lastsK ks f <;> rfl
          · rw [lasts_get nd (k2 f hf), okb, pure_bind]
            cases lastsK ks f <;> rfl
      refine (two _).trans ?_
      by_cases c : r.taken.isEmpty = true ∧ (r.given.any fun f => !lastsK ks f) = true
      · simp only [c, and_self, if_true]
        rfl
      · simp only [c, if_false, bind_pure, orRaise]
        have p1 := forP_cat (g := fun (s38 : List Tx) (e39 : C_Look) => catM s38 [e39.f.1, e39.f.2.1]) (f := fun l : C_Look => [l.f.1, l.f.2.1]) (B := 2) (xs := r.looks) (s := []) (fun s x hs => catM_ok hs) (fun _ _ => Nat.le_refl _) (by rw [SZ_val, List.length_nil]; omega)
        rw [p1, okb, List.nil_append]
        have l1 := flatMap_len (f := fun l : C_Look => [l.f.1, l.f.2.1]) (B := 2) (xs := r.looks) (fun _ _ => Nat.le_refl _)
        have p2 := forP_cat (g := fun (s53 : List Tx) (e54 : Fct) => (pure e54.2 : M (List Tx)) >>= fun y => catM s53 y) (f := fun f : Fct => (show List Tx from f.2)) (B := 8) (xs := r.given) (s := r.looks.flatMap fun l => [l.f.1, l.f.2.1]) (fun s x hs => catM_ok (ys := (show List Tx from x.2)) hs) (fun f hf => (h.given f hf).2.2) (by rw [SZ_val]; omega)
        have l2 := flatMap_len (f := fun f : Fct => (show List Tx from f.2)) (B := 8) (xs := r.given) (fun f hf => (h.given f hf).2.2)
        refine Eq.trans (congrArg (fun m => m >>= _) p2) ?_
        rw [okb]
        have p3 := forP_cat (g := fun (s65 : List Tx) (e66 : Tx × Tx) => catM s65 [e66.1, e66.2]) (f := fun p : Tx × Tx => [p.1, p.2]) (B := 2) (xs := r.told) (s := (r.looks.flatMap fun l => [l.f.1, l.f.2.1]) ++ r.given.flatMap fun f => (show List Tx from f.2)) (fun s x hs => catM_ok hs) (fun _ _ => Nat.le_refl _) (by rw [SZ_val, List.length_append]; omega)
        refine Eq.trans (congrArg (fun m => m >>= _) p3) ?_
        have e3 : (r.looks.flatMap fun l => [l.f.1, l.f.2.1]) ++ (r.given.flatMap fun f => (show List Tx from f.2)) ++ (r.told.flatMap fun p => [p.1, p.2]) = saidOf r := by unfold saidOf; rw [List.append_assoc]
        rw [e3, okb]
        refine Eq.trans (congrArg (fun m => m >>= _) (forP_any (p := fun n => isOpn n && !decide (n ∈ opens (r.taken ++ r.kept))) (c := "NoName") fun n hn => ?_)) ?_
        · have nz : n.length ≤ SZ := by have := isNm_len (said_nm h n hn); rw [SZ_val]; omega
          rw [is_open_eq nz, okb]
          cases isOpn n with
          | false => rfl
          | true =>
            rw [if_pos rfl, pure_bind, Bool.true_and]
            cases decide (n ∈ opens (r.taken ++ r.kept)) <;> rfl
        · cases (saidOf r).any fun n => isOpn n && !decide (n ∈ opens (r.taken ++ r.kept)) <;> rfl
/-! the book that is made, and written -/
abbrev TR : Type := Tx × RV
def rowOf (q : TR) : Row := (q.1, partsOf q.2)
theorem made_book_eq {ks : List K3} {trs : List TR} (hl : ks.length ≤ 1000) (hr : trs.length ≤ 1000) (nd : (ks.map (·.a)).Nodup) (h : ∀ q ∈ trs, GR q.2) :
    m_made_book ks (trs.map rowOf) = orRaise (trs.findSome? fun q => judge ks q.2) (.ok ⟨0, (ks, trs.map fun q => ruleC q.1 q.2, ())⟩) := by
  unfold m_made_book
  simp only [pure_bind]
  have loop : ∀ {g : List C_Rule → Row → M (List C_Rule)} (hg : ∀ (s : List C_Rule) (q : TR), GR q.2 → s.length < SZ → g s (rowOf q) = orRaise (judge ks q.2) (.ok (s ++ [ruleC q.1 q.2]))) (trs : List TR) (s : List C_Rule), (∀ q ∈ trs, GR q.2) → s.length + trs.length < SZ →
      forP g s (trs.map rowOf) = orRaise (trs.findSome? fun q => judge ks q.2) (.ok (s ++ trs.map fun q => ruleC q.1 q.2)) := by
    intro g hg trs
    induction trs with
    | nil => intro s _ _; show Except.ok s = Except.ok (s ++ []); rw [List.append_nil]
    | cons q r ih =>
      intro s hq hs
      rw [List.length_cons] at hs
      show (g s (rowOf q) >>= fun s => forP g s (r.map rowOf)) = _
      rw [hg s q (hq q (List.mem_cons_self ..)) (by omega), List.findSome?_cons]
      cases judge ks q.2 with
      | some c => rfl
      | none =>
        show forP g (s ++ [ruleC q.1 q.2]) (r.map rowOf) = _
        rw [ih _ (fun z hz => hq z (List.mem_cons_of_mem _ hz)) (by rw [List.length_append, List.length_singleton]; omega), List.append_assoc]
        rfl
  rw [loop (fun s q hq hs => ?_) trs [] h (by rw [SZ_val, List.length_nil]; omega)]
  · cases trs.findSome? fun q => judge ks q.2 <;> rfl
  · show (m_Rule___init__ q.1 (partsOf q.2) >>= fun r15 => (pure ⟨0, r15⟩ : M C_Rule)) >>= _ = _
    rw [rule_init hq, okb]
    show (m_look_at_rule ks (ruleC q.1 q.2) >>= fun _ => (pure () : M Unit)) >>= _ = _
    rw [look_at_rule_eq hl nd hq]
    cases judge ks q.2 with
    | some c => rfl
    | none =>
      show (chk (s.length < SZ) >>= fun _ => (pure (ruleC q.1 q.2) : M C_Rule)) >>= _ = _
      rw [chk_b hs]
      rfl
def bookC (ks : List K3) (trs : List TR) : C_Book := ⟨0, (ks, trs.map fun q => ruleC q.1 q.2, ())⟩
def xR (q : TR) : Tx := xRule q.1 (partsOf q.2)
def GTR (q : TR) : Prop := isKd q.1 = true ∧ GR q.2
theorem rules_text {g : List Tx → C_Rule → M (List Tx)} (hg : ∀ s (q : TR), GTR q → s.length < SZ → g s (ruleC q.1 q.2) = .ok (s ++ [xR q])) : ∀ (trs : List TR) (s : List Tx), (∀ q ∈ trs, GTR q) → s.length + trs.length < SZ → forP g s (trs.map fun q => ruleC q.1 q.2) = .ok (s ++ trs.map xR)
  | [], s, _, _ => by show Except.ok s = Except.ok (s ++ []); rw [List.append_nil]
  | q :: r, s, h, hl => by
    rw [List.length_cons] at hl
    show (g s (ruleC q.1 q.2) >>= fun s => forP g s (r.map fun q => ruleC q.1 q.2)) = _
    rw [hg s q (h q (List.mem_cons_self ..)) (by omega), okb, rules_text hg r _ (fun z hz => h z (List.mem_cons_of_mem _ hz)) (by rw [List.length_append, List.length_singleton]; omega), List.append_assoc]
    rfl
def bookLines (ks : List K3) (trs : List TR) : List Tx := ks.map kline ++ trs.map xR
theorem lines_bd {ks : List K3} {trs : List TR} (hk : ∀ k ∈ ks, GK k) (ht : ∀ q ∈ trs, GTR q) : ∀ x ∈ bookLines ks trs, x.length ≤ 13000 := fun x hx => by
  rcases List.mem_append.mp hx with hx | hx
  · obtain ⟨k, h, rfl⟩ := List.mem_map.mp hx
    have := kline_len (hk k h)
    omega
  · obtain ⟨q, h, rfl⟩ := List.mem_map.mp hx
    exact xrule_len (ht q h).1 (ht q h).2
theorem lines_sum {ks : List K3} {trs : List TR} (hk : ∀ k ∈ ks, GK k) (ht : ∀ q ∈ trs, GTR q) (hl : ks.length + trs.length ≤ 1000) : ((bookLines ks trs).map (·.length)).sum + (bookLines ks trs).length * ([10] : Tx).length ≤ 13001000 := by
  have h1 := sum_le (lines_bd hk ht)
  have h2 : (bookLines ks trs).length ≤ 1000 := by unfold bookLines; rw [List.length_append, List.length_map, List.length_map]; exact hl
  have h3 := Nat.mul_le_mul_right 13000 h2
  rw [List.length_singleton]
  omega
theorem book_text_eq {ks : List K3} {trs : List TR} (hk : ∀ k ∈ ks, GK k) (ht : ∀ q ∈ trs, GTR q) (hl : ks.length + trs.length ≤ 1000) : m_book_text (bookC ks trs) = .ok (joinL [10] (bookLines ks trs)) := by
  unfold m_book_text bookC
  simp only [pure_bind]
  rw [kinds_text (fun s k hk hs => ?_) ks [] hk (by rw [SZ_val, List.length_nil]; omega)]
  · rw [okb, rules_text (fun s q hq hs => ?_) trs _ ht (by rw [SZ_val, List.length_append, List.length_map, List.length_nil]; omega), okb]
    · rw [show tx "\n" = [10] from rfl, List.nil_append]
      have := lines_sum hk ht hl
      exact joinM_ok (xs := bookLines ks trs) (by omega)
    · rw [rule_text_eq hq.1 hq.2, okb, chk_b hs]
      rfl
  · have e : ∀ w : Tx, w = wordK k.c ++ [32] → (addT w k.a >>= fun x => addT x (tx " ") >>= fun x => strI k.b >>= fun y => addT x y >>= fun a => chk (s.length < SZ) >>= fun _ => pure (s ++ [a])) = .ok (s ++ [kline k]) := fun w hw => by
      have := kadd hk hw
      rw [show tx " " = [32] from rfl]
      have e2 : (addT w k.a >>= fun x => addT x [32] >>= fun x => strI k.b >>= fun y => addT x y >>= fun a => chk (s.length < SZ) >>= fun _ => (pure (s ++ [a]) : M (List Tx))) = ((addT w k.a >>= fun x => addT x [32] >>= fun y => strI k.b >>= fun z => addT y z) >>= fun a => chk (s.length < SZ) >>= fun _ => pure (s ++ [a])) := by simp only [bind_assoc]
      rw [e2, this, okb, chk_b hs]
      rfl
    cases hc : k.c with
    | true =>
      simp only [if_true, pure_bind, bind_assoc]
      exact e _ (by rw [hc]; rfl)
    | false =>
      simp only [Bool.false_eq_true, if_false, pure_bind, bind_assoc]
      exact e _ (by rw [hc]; rfl)
/-! what its lines tell -/
theorem ln_kline {k : K3} (h : GK k) : Ln (kline k) (some (.inl k)) ∧ 10 ∉ kline k := by
  obtain ⟨h1, h2, h3⟩ := ln_k3 h sp_nil sp_one sp_one sp_nil (fun z => by cases z) (fun z => by cases z) (by decide)
  have e : ([] : Tx) ++ wordK k.c ++ [32] ++ k.a ++ [32] ++ figt k.b ++ [] = kline k := by
    unfold kline
    rw [List.nil_append, List.append_nil]
  rw [e] at h1 h2
  exact ⟨h1, h2⟩
theorem ln_xR {q : TR} (h : GTR q) : Ln (xR q) (some (.inr (rowOf q))) ∧ 10 ∉ xR q := by
  have hl := xrule_len h.1 h.2
  have hp := pcs_rule h.1 h.2
  have ok := okw_rule h.1 (inc_parts h.2)
  have hw := weave_rule (t := q.1) (inc_parts h.2) (parts_ne h.2)
  refine ⟨ln_rule (by rw [SZ_val]; show (xRule q.1 (partsOf q.2)).length < _; omega) ?_ hp (pcs_tks hp (by rw [SZ_val]; omega)) rfl (rule_parsed h.1 h.2), ?_⟩
  · have := okw_notOut (s := []) ok (fun z => by cases z)
    rw [List.append_nil, hw] at this
    exact this
  · have := okw_no ok
    rw [hw] at this
    exact this
def tells (ks : List K3) (trs : List TR) : List (Option LineV) := (ks.map fun k => some (.inl k)) ++ (trs.map fun q => some (.inr (rowOf q)))
theorem prd_map {α β γ : Type} {R : β → γ → Prop} {f : α → β} {g : α → γ} : ∀ {xs : List α}, (∀ x ∈ xs, R (f x) (g x)) → Paired R (xs.map f) (xs.map g)
  | [], _ => .nil
  | x :: r, h => .cons (h x (List.mem_cons_self ..)) (prd_map fun y hy => h y (List.mem_cons_of_mem _ hy))
theorem prd_app {α β : Type} {R : α → β → Prop} : ∀ {xs xs' : List α} {ys ys' : List β}, Paired R xs ys → Paired R xs' ys' → Paired R (xs ++ xs') (ys ++ ys')
  | _, _, _, _, .nil, h => h
  | _, _, _, _, .cons r t, h => .cons r (prd_app t h)
theorem lines_tell {ks : List K3} {trs : List TR} (hk : ∀ k ∈ ks, GK k) (ht : ∀ q ∈ trs, GTR q) : Paired Ln (bookLines ks trs) (tells ks trs) :=
  prd_app (prd_map fun k h => (ln_kline (hk k h)).1) (prd_map fun q h => (ln_xR (ht q h)).1)
theorem lines_no {ks : List K3} {trs : List TR} (hk : ∀ k ∈ ks, GK k) (ht : ∀ q ∈ trs, GTR q) : ∀ x ∈ bookLines ks trs, 10 ∉ x := fun x hx => by
  rcases List.mem_append.mp hx with hx | hx
  · obtain ⟨k, h, rfl⟩ := List.mem_map.mp hx
    exact (ln_kline (hk k h)).2
  · obtain ⟨q, h, rfl⟩ := List.mem_map.mp hx
    exact (ln_xR (ht q h)).2
theorem fm_some {α β : Type} {f : Option α → Option β} {g : α → β} (h : ∀ a, f (some a) = some (g a)) : ∀ xs : List α, (xs.map some).filterMap f = xs.map g
  | [] => rfl
  | x :: r => by rw [List.map_cons, List.filterMap_cons_some (h x), fm_some h r]; rfl
theorem tells_K (ks : List K3) (trs : List TR) : (tells ks trs).filterMap toK = ks ∧ (tells ks trs).filterMap toR = trs.map rowOf := by
  unfold tells
  rw [List.filterMap_append, List.filterMap_append]
  have a1 : ∀ ks : List K3, (ks.map fun k => (some (.inl k) : Option LineV)).filterMap toK = ks ∧ (ks.map fun k => (some (.inl k) : Option LineV)).filterMap toR = [] := by
    intro ks
    induction ks with
    | nil => exact ⟨rfl, rfl⟩
    | cons k r ih => exact ⟨congrArg (fun z => k :: z) ih.1, ih.2⟩
  have a2 : ∀ trs : List TR, (trs.map fun q => (some (.inr (rowOf q)) : Option LineV)).filterMap toK = [] ∧ (trs.map fun q => (some (.inr (rowOf q)) : Option LineV)).filterMap toR = trs.map rowOf := by
    intro trs
    induction trs with
    | nil => exact ⟨rfl, rfl⟩
    | cons k r ih => exact ⟨ih.1, congrArg (fun z => rowOf k :: z) ih.2⟩
  rw [(a1 ks).1, (a1 ks).2, (a2 trs).1, (a2 trs).2, List.append_nil, List.nil_append]
  exact ⟨rfl, rfl⟩
/-- a book's plain text, read -/
theorem read_plain {ks : List K3} {trs : List TR} (hk : ∀ k ∈ ks, GK k) (ht : ∀ q ∈ trs, GTR q) (hl : ks.length + trs.length ≤ 1000) (hn : 0 < ks.length + trs.length) (n1 : (ks.map (·.a)).Nodup) (n2 : (trs.map (·.1)).Nodup) :
    m_read_book (joinL [10] (bookLines ks trs)) = orRaise (trs.findSome? fun q => judge ks q.2) (.ok (bookC ks trs)) := by
  have s := lines_sum hk ht hl
  have j := joinL_len [10] (bookLines ks trs)
  obtain ⟨t1, t2⟩ := tells_K ks trs
  have ne : bookLines ks trs ≠ [] := fun z => by
    have := congrArg List.length z
    unfold bookLines at this
    rw [List.length_append, List.length_map, List.length_map, List.length_nil] at this
    omega
  have nr : ((trs.map rowOf).map (·.1)).Nodup := by
    rw [List.map_map]
    exact n2
  rw [read_book_eq ne (lines_no hk ht) (by rw [SZ_val]; omega) (lines_tell hk ht) (by rw [t1]; exact n1) (by rw [t2]; exact nr), t1, t2]
  exact made_book_eq (by omega) (by omega) n1 fun q hq => (ht q hq).2
/-! the law's own kinds, facts and rules -/
theorem atL_some {α : Type} {xs : List α} {i : Int} (h0 : 0 ≤ i) (h : i < xs.length) : ∃ a, atL xs i = .ok a ∧ xs[i.toNat]? = some a := by
  obtain ⟨a, e, e2⟩ := atI_some h0 h
  exact ⟨a, by unfold atL; rw [e]; rfl, e2⟩
theorem atL_mem {α : Type} {xs : List α} {i : Int} (h0 : 0 ≤ i) (h : i < xs.length) : ∃ a, atL xs i = .ok a ∧ a ∈ xs := atL_ok h0 h
theorem four_of {α : Type} {xs : List α} (h : xs.length = 4) : ∃ a b c d, xs = [a, b, c, d] := by
  match xs, h with
  | [a, b, c, d], _ => exact ⟨a, b, c, d, rfl⟩
theorem small_len : small.length = 26 := by decide +kernel
theorem great_nd : great.Nodup := by decide +kernel
theorem great_len : great.length = 26 := by decide +kernel
def wordsF : Tx := tx "abcdefghijklmnopqrstuvwxyz0123456789"
theorem words_nd : wordsF.Nodup := by decide +kernel
theorem words_len : wordsF.length = 36 := by decide +kernel
theorem titles_ok (x n : Int) (h0 : 0 ≤ n) (h1 : n ≤ 12) : Okp (m__law_titles x n) fun xs => xs.length = n.toNat ∧ (∀ y ∈ xs, Nm small y) ∧ xs.Nodup := by
  unfold m__law_titles
  simp only [pure_bind]
  exact names_nd x n small h0 h1 (by rw [small_len]; omega) (by rw [small_len]; decide) (by rw [small_len]; decide) small_nd
theorem opens_ok (x n : Int) (h0 : 0 ≤ n) (h1 : n ≤ 12) : Okp (m__law_opens x n) fun xs => xs.length = n.toNat ∧ (∀ y ∈ xs, Nm great y) ∧ xs.Nodup := by
  unfold m__law_opens
  simp only [pure_bind]
  exact names_nd x n great h0 h1 (by rw [great_len]; omega) (by rw [great_len]; decide) (by rw [great_len]; decide) great_nd
theorem words_ok (x n : Int) (h0 : 0 ≤ n) (h1 : n ≤ 12) : Okp (m__law_words x n) fun xs => xs.length = n.toNat ∧ (∀ y ∈ xs, Nm wordsF y) ∧ xs.Nodup := by
  unfold m__law_words
  simp only [pure_bind]
  exact names_nd x n wordsF h0 h1 (by rw [words_len]; omega) (by rw [words_len]; decide) (by rw [words_len]; decide) words_nd
theorem nm_great {y : Tx} (h : Nm great y) : isNm y = true ∧ isOpn y = true := by
  have n := h.name great_sign
  refine ⟨n, ?_⟩
  unfold isOpn
  rw [n]
  obtain ⟨c, r, rfl, hc, _⟩ := h
  exact decide_eq_true hc
theorem words_notGreat : ∀ c ∈ wordsF, c ∉ great := by decide +kernel
theorem small_notGreat : ∀ c ∈ small, c ∉ great := by decide +kernel
theorem nm_word {y : Tx} (h : Nm wordsF y) : isNm y = true ∧ isOpn y = false := by
  have n := h.name words_sign
  refine ⟨n, ?_⟩
  unfold isOpn
  rw [n]
  obtain ⟨c, r, rfl, hc, _⟩ := h
  exact decide_eq_false (words_notGreat c hc)
theorem nm_title {y : Tx} (h : Nm small y) : isKd y = true ∧ isOpn y = false := by
  have n := h.name small_sign
  refine ⟨h.kind, ?_⟩
  unfold isOpn
  rw [n]
  obtain ⟨c, r, rfl, hc, _⟩ := h
  exact decide_eq_false (small_notGreat c hc)
def flagRows : List (List Bool) := [[false, true, false, true], [true, false, false, true], [false, false, true, true], [true, false, true, false]]
theorem kinds_ok (x : Int) (sizes : List Int) (h0 : 0 < sizes.length) (h1 : sizes.length ≤ 100) (hs : ∀ s ∈ sizes, 0 ≤ s ∧ s < 5) : Okp (m__law_kinds x sizes) fun ks => ks.length = 4 ∧ (∀ k ∈ ks, GK k ∧ isOpn k.a = false ∧ k.b ∈ sizes) ∧ (ks.map (·.a)).Nodup ∧ ks.map (·.c) ∈ flagRows := by
  obtain ⟨ts, et, tl, tn, tnd⟩ := titles_ok x 4 (by decide) (by decide)
  have tl : ts.length = 4 := tl
  obtain ⟨n, en, hn⟩ := mix_ok x 1 (by decide) (by decide)
  have cat : (catM [[false, true, false, true], [true, false, false, true]] [[false, false, true, true], [true, false, true, false]] : M (List (List Bool))) = .ok flagRows := catM_ok (by rw [SZ_val]; decide)
  unfold m__law_kinds
  simp only [pure_bind, et, en, okb, cat, modI_ok (show (0 : Int) < 4 by decide), range1_ok (show -(2 ^ 62) ≤ (4 : Int) by decide) (show (4 : Int) < 2 ^ 62 by decide)]
  obtain ⟨row, er, hr⟩ := atL_mem (xs := flagRows) (i := n % 4) (by omega) (by show n % 4 < 4; omega)
  have rl : ∀ r ∈ flagRows, r.length = 4 := by decide
  obtain ⟨w0, w1, w2, w3, rfl⟩ := four_of (rl row hr)
  have rl : ([w0, w1, w2, w3] : List Bool).length = 4 := rfl
  simp only [er, okb, pure_bind]
  refine Okp.imp (lc_rel (R := fun e (k : K3) => ts[e.toNat]? = some k.a ∧ ([w0, w1, w2, w3] : List Bool)[e.toNat]? = some k.c ∧ k.b ∈ sizes) (by rw [rangeL_len, SZ_val]; decide) fun e he => ?_) fun ks p => ?_
  · have hb := mem_rangeL he
    have hb2 : e < 4 := by have := hb.2; simpa using this
    obtain ⟨t, t1, t2⟩ := atL_some (xs := ts) hb.1 (by omega)
    obtain ⟨f, f1, f2⟩ := atL_some (xs := [w0, w1, w2, w3]) hb.1 (by omega)
    simp only [t1, okb, mulI_l (show -(2 ^ 64) < (3 : Int) by decide) (show (3 : Int) < 2 ^ 64 by decide), pure_bind, divI_ok (show (0 : Int) < 3 * e + 5 by omega) (show 3 * e + 5 < 1073741824 by omega), modI_ok (show (0 : Int) < (sizes.length : Int) by omega)]
    obtain ⟨s, s1, s2⟩ := atL_mem (xs := sizes) (i := n / (3 * e + 5) % (sizes.length : Int)) (Int.emod_nonneg _ (by omega)) (Int.emod_lt_of_pos _ (by omega))
    simp only [s1, okb, f1]
    exact ⟨_, rfl, t2, f2, s2⟩
  · have kl : ks.length = 4 := by rw [← Paired.length p, rangeL_len]; rfl
    refine ⟨kl, fun k hk => ?_, ?_, ?_⟩
    · obtain ⟨e, _, h1, _, h3⟩ := prd_r p k hk
      have := nm_title (tn _ (List.mem_of_getElem? h1))
      exact ⟨⟨this.1, hs _ h3⟩, this.2, h3⟩
    · have pa : Paired (fun e (a : Tx) => ts[e.toNat]? = some a) (rangeL 0 (Int.toNat 4)) (ks.map (·.a)) := by
        have gen : ∀ {es : List Int} {ks : List K3}, Paired (fun e (k : K3) => ts[e.toNat]? = some k.a ∧ ([w0, w1, w2, w3] : List Bool)[e.toNat]? = some k.c ∧ k.b ∈ sizes) es ks → Paired (fun e (a : Tx) => ts[e.toNat]? = some a) es (ks.map (·.a)) := by
          intro es ks p
          induction p with
          | nil => exact .nil
          | cons r _ ih => exact .cons r.1 ih
        exact gen p
      refine prd_nd pa (rangeL_nd _ _) fun e he e' he' y h h' => ?_
      have b1 := mem_rangeL he
      have b2 := mem_rangeL he'
      have b1' : e < 4 := by have := b1.2; simpa using this
      have q := (List.getElem?_inj (i := e.toNat) (by omega) tnd).mp (h.trans h'.symm)
      omega
    · have gen : ∀ {es : List Int} {ks : List K3}, Paired (fun e (k : K3) => ts[e.toNat]? = some k.a ∧ ([w0, w1, w2, w3] : List Bool)[e.toNat]? = some k.c ∧ k.b ∈ sizes) es ks → Paired (fun e (c : Bool) => ([w0, w1, w2, w3] : List Bool)[e.toNat]? = some c) es (ks.map (·.c)) := by
        intro es ks p
        induction p with
        | nil => exact .nil
        | cons r _ ih => exact .cons r.2.1 ih
      have pc := gen p
      have er : rangeL 0 (Int.toNat 4) = [0, 1, 2, 3] := by decide
      rw [er] at pc
      generalize ks.map (·.c) = cs at pc
      cases pc with
      | cons r0 pc => cases pc with
        | cons r1 pc => cases pc with
          | cons r2 pc => cases pc with
            | cons r3 pc =>
              cases pc
              have e0 : some w0 = some _ := r0
              have e1 : some w1 = some _ := r1
              have e2 : some w2 = some _ := r2
              have e3 : some w3 = some _ := r3
              cases e0; cases e1; cases e2; cases e3
              exact hr
/-- a fact of one of the kinds, its arguments among names -/
def FK (ks : List K3) (ns : List Tx) (f : Fct) : Prop := ∃ k ∈ ks, f.1 = k.a ∧ ((List.length (α := Tx) f.2 : Nat) : Int) = k.b ∧ ∀ a ∈ (show List Tx from f.2), a ∈ ns
theorem fact_ok {ks : List K3} {ns : List Tx} (x : Int) (hk : 0 < ks.length) (hk2 : ks.length ≤ 1000) (hg : ∀ k ∈ ks, GK k) (hn : 0 < ns.length) (hn2 : ns.length ≤ 1000) : Okp (m__law_fact ks ns x) (FK ks ns) := by
  unfold m__law_fact
  simp only [pure_bind]
  refine Okp.bind (mix_ok x 2 (by decide) (by decide)) fun a ha => ?_
  obtain ⟨k, ek, mk⟩ := atL_mem (xs := ks) (i := a % (ks.length : Int)) (Int.emod_nonneg _ (by omega)) (Int.emod_lt_of_pos _ (by omega))
  have gk := hg k mk
  have g1 := gk.2.1
  have g2 := gk.2.2
  simp only [modI_ok (show (0 : Int) < (ks.length : Int) by omega), modI_ok (show (0 : Int) < (ns.length : Int) by omega), pure_bind, ek, okb, divI_ok (show (0 : Int) < 5 by decide) (show (5 : Int) < 1073741824 by decide), divI_ok (show (0 : Int) < (ns.length : Int) by omega) (show (ns.length : Int) < 1073741824 by omega), range1_ok (show -(2 ^ 62) ≤ k.b by omega) (show k.b < 2 ^ 62 by omega)]
  refine Okp.bind (P := fun s : Int × List Tx => s.2.length = k.b.toNat ∧ ∀ y ∈ s.2, y ∈ ns) ?_ fun s ⟨s1, s2⟩ => ?_
  · refine Okp.imp (forP_ind (fun n (s : Int × List Tx) => s.2.length = n ∧ ∀ y ∈ s.2, y ∈ ns) (rangeL 0 k.b.toNat) 0 (a / 5, []) (fun n s e he hn' ⟨i1, i2⟩ => ?_) ⟨rfl, fun y hy => by cases hy⟩) fun s h => ⟨by rw [h.1, rangeL_len]; omega, h.2⟩
    rw [rangeL_len] at hn'
    have hb := mem_rangeL he
    obtain ⟨y, ey, my⟩ := atL_mem (xs := ns) (i := s.1 % (ns.length : Int)) (Int.emod_nonneg _ (by omega)) (Int.emod_lt_of_pos _ (by omega))
    simp only [ey, okb, chk_b (show s.2.length < SZ by rw [SZ_val]; omega), pure_bind, mulI_l (show -(2 ^ 64) < (977 : Int) by decide) (show (977 : Int) < 2 ^ 64 by decide)]
    refine ⟨_, rfl, by rw [List.length_append, List.length_singleton, i1], fun z hz => ?_⟩
    rcases List.mem_append.mp hz with hz | hz
    · exact i2 z hz
    · rw [List.mem_singleton.mp hz]; exact my
  · refine ⟨(k.a, s.2), rfl, k, mk, rfl, ?_, s2⟩
    show ((s.2.length : Nat) : Int) = k.b
    rw [s1]; omega
theorem counts_ok (x : Int) (menu : List Int) (h0 : 0 < menu.length) (h1 : menu.length ≤ 100) (hm : ∀ m ∈ menu, 0 ≤ m ∧ m ≤ 4) : Okp (m__law_counts x menu) fun row => ∃ a b c d e : Int, row = [a, b, c, d, e] ∧ (0 ≤ a ∧ a ≤ 4) ∧ (0 ≤ b ∧ b ≤ 4) ∧ (0 ≤ c ∧ c ≤ 4) ∧ (0 ≤ d ∧ d ≤ 4) ∧ (0 ≤ e ∧ e ≤ 4) ∧ a + b ≠ 0 := by
  unfold m__law_counts
  simp only [pure_bind]
  refine Okp.bind (mix_ok x 3 (by decide) (by decide)) fun a ha => ?_
  simp only [range1_ok (show -(2 ^ 62) ≤ (5 : Int) by decide) (show (5 : Int) < 2 ^ 62 by decide), okb, modI_ok (show (0 : Int) < (menu.length : Int) by omega), divI_ok (show (0 : Int) < (menu.length : Int) by omega) (show (menu.length : Int) < 1073741824 by omega), pure_bind]
  refine Okp.bind (P := fun s : Int × List Int => s.2.length = 5 ∧ ∀ y ∈ s.2, 0 ≤ y ∧ y ≤ 4) ?_ fun s ⟨s1, s2⟩ => ?_
  · refine Okp.imp (forP_ind (fun n (s : Int × List Int) => s.2.length = n ∧ ∀ y ∈ s.2, 0 ≤ y ∧ y ≤ 4) (rangeL 0 (Int.toNat 5)) 0 (a, []) (fun n s e he hn' ⟨i1, i2⟩ => ?_) ⟨rfl, fun y hy => by cases hy⟩) fun s h => ⟨by rw [h.1, rangeL_len]; rfl, h.2⟩
    rw [rangeL_len] at hn'
    have hn' : n < 0 + 5 := hn'
    obtain ⟨y, ey, my⟩ := atL_mem (xs := menu) (i := s.1 % (menu.length : Int)) (Int.emod_nonneg _ (by omega)) (Int.emod_lt_of_pos _ (by omega))
    simp only [ey, okb, chk_b (show s.2.length < SZ by rw [SZ_val]; omega), pure_bind]
    refine ⟨_, rfl, by rw [List.length_append, List.length_singleton, i1], fun z hz => ?_⟩
    rcases List.mem_append.mp hz with hz | hz
    · exact i2 z hz
    · rw [List.mem_singleton.mp hz]; exact hm y my
  · match s.2, s1, s2 with
    | [a, b, c, d, e], _, s2 =>
      have ma := s2 a (by simp)
      have mb := s2 b (by simp)
      have mc := s2 c (by simp)
      have md := s2 d (by simp)
      have me := s2 e (by simp)
      have a0 : atL [a, b, c, d, e] 0 = .ok a := rfl
      have a1 : atL [a, b, c, d, e] 1 = .ok b := rfl
      have ix : L2.ixN ([a, b, c, d, e] : List Int).length 1 = some 1 := rfl
      simp only [a0, okb, a1, ix, pure_bind]
      by_cases c0 : a + b = 0
      · rw [decide_eq_true c0, if_pos rfl]
        exact ⟨_, rfl, a, 1, c, d, e, rfl, ma, by omega, mc, md, me, by omega⟩
      · rw [decide_eq_false c0, if_neg Bool.false_ne_true]
        exact ⟨_, rfl, a, b, c, d, e, rfl, ma, mb, mc, md, me, c0⟩
theorem facts_ok {ks : List K3} {ns : List Tx} {cells : List Int} {first many : Int} (hc : 0 < cells.length) (f0 : 0 ≤ first) (f1 : first ≤ 100) (m0 : 0 ≤ many) (m1 : many ≤ 100) (hk : many = 0 ∨ 0 < ks.length) (hk2 : ks.length ≤ 1000) (hg : ∀ k ∈ ks, GK k) (hn : 0 < ns.length) (hn2 : ns.length ≤ 1000) :
    Okp (m__law_facts ks ns cells first many) fun fs => fs.length = many.toNat ∧ ∀ f ∈ fs, FK ks ns f := by
  unfold m__law_facts
  simp only [pure_bind, range1_ok (show -(2 ^ 62) ≤ many by omega) (show many < 2 ^ 62 by omega), okb, modI_ok (show (0 : Int) < (cells.length : Int) by omega)]
  refine Okp.imp (lc_ok (Q := FK ks ns) (by rw [rangeL_len, SZ_val]; omega) fun e he => ?_) fun fs h => ⟨by rw [h.1, rangeL_len], h.2⟩
  have hb := mem_rangeL he
  obtain ⟨c, ec, _⟩ := atL_mem (xs := cells) (i := (first + e) % (cells.length : Int)) (Int.emod_nonneg _ (by omega)) (Int.emod_lt_of_pos _ (by omega))
  rw [ec, okb]
  refine Okp.bind (mix_ok c (first + e) (by omega) (by omega)) fun a ha => ?_
  exact fact_ok a (by omega) hk2 hg hn hn2
theorem upper_all : ∀ c ∈ alnum, Txt.isupper (S [c]) = decide (c ∈ great) := by decide +kernel
theorem sign_alnum {c : Nat} (h : isSign c = true) : c ∈ alnum := by
  rw [← alnum_mem] at h
  exact of_decide_eq_true h
theorem upper_nm {x : Tx} (h : isNm x = true) : (atT x 0 >>= fun c => (pure (Txt.isupper (S c)) : M Bool)) = .ok (isOpn x) := by
  have l := isNm_len h
  have hs := (nmT_of h).2
  match x, h with
  | [], h => exact absurd h (by decide)
  | c :: r, h =>
    obtain ⟨d, e, e2⟩ := atT_ok (x := c :: r) (i := 0) (by decide) (by rw [List.length_cons]; omega) (by rw [SZ_val]; omega)
    have : d = c := by simpa using e2.symm
    subst this
    rw [e, pure_bind, upper_all d (sign_alnum (hs d (List.mem_cons_self ..)))]
    unfold isOpn
    rw [h]
    rfl
theorem heads_eq {fs : List Fct} (h : ∀ f ∈ fs, GF f) (hl : fs.length ≤ 1000) : m__law_heads fs = .ok (opens fs) := by
  unfold m__law_heads
  simp only [pure_bind, bind_pure]
  refine (forP_fold (f := addF) (fun j (s : List Tx) => s.length ≤ 8 * j) fs 0 [] (fun j s f hf hj hI => ⟨?_, ?_⟩) (by simp)).1
  · have gf := h f hf
    refine (forP_fold (f := addN) (fun i (s : List Tx) => s.length ≤ 8 * j + i) (show List Tx from f.2) 0 s (fun i s n hn hi hI => ⟨?_, ?_⟩) hI).1
    · have nn := gf.2.1 n hn
      have b := gf.2.2
      have hs : s.length < SZ := by
        have : List.length (α := Tx) f.2 = (show List Tx from f.2).length := rfl
        rw [SZ_val]; omega
      show ((atT n 0 >>= fun x => (pure (Txt.isupper (S x)) : M Bool)) >>= fun c => if c = true then (pure (!decide (n ∈ s)) : M Bool) else pure false) >>= _ = _
      rw [upper_nm nn, okb]
      unfold addN
      cases ho : isOpn n with
      | false => rw [if_neg Bool.false_ne_true, pure_bind, if_neg Bool.false_ne_true, if_neg (fun z => Bool.false_ne_true z.1)]; rfl
      | true =>
        rw [if_pos rfl, pure_bind]
        by_cases hm : n ∈ s
        · rw [decide_eq_true hm, if_neg (show ¬ (!true) = true by decide), if_neg (fun z => z.2 hm)]; rfl
        · rw [decide_eq_false hm, if_pos (show (!false) = true from rfl), if_pos ⟨rfl, hm⟩, chk_b hs]; rfl
    · have := addN_len s n
      omega
  · have := addF_len (s := s) (h f hf)
    omega
abbrev T5L : Type := T5 (List Fct) (List Fct) (List (T3 Tx Tx Tx)) (List Fct) (List (Tx × Tx))
def lookC (l : T3 Tx Tx Tx) : C_Look := ⟨if l.b = sameW then 1 else 2, (l.a, l.c, ())⟩
def rvOf (q : T5L) : RV := ⟨q.a, q.b, q.c.map lookC, q.d, q.e⟩
def GL3 (l : T3 Tx Tx Tx) : Prop := (l.b = sameW ∨ l.b = unlikeW) ∧ isNm l.a = true ∧ isNm l.c = true
structure GQ (q : T5L) : Prop where
  taken : ∀ f ∈ q.a, GF f
  kept : ∀ f ∈ q.b, GF f
  looks : ∀ l ∈ q.c, GL3 l
  given : ∀ f ∈ q.d, GF f
  told : ∀ p ∈ q.e, GP p
  heads : q.a ≠ [] ∨ q.b ≠ []
  sizes : q.a.length ≤ 10 ∧ q.b.length ≤ 10 ∧ q.c.length ≤ 10 ∧ q.d.length ≤ 10 ∧ q.e.length ≤ 10
theorem lookC_ok {l : T3 Tx Tx Tx} (h : GL3 l) : GL (lookC l) := by
  refine ⟨?_, h.2.1, h.2.2⟩
  unfold lookC
  by_cases c : l.b = sameW
  · rw [if_pos c]; exact .inl rfl
  · rw [if_neg c]; exact .inr rfl
theorem lookC_wd {l : T3 Tx Tx Tx} (h : GL3 l) : lookWd (lookC l) = l.b := by
  unfold lookWd lookC
  rcases h.1 with c | c
  · rw [if_pos c, if_pos rfl, c]
  · have n : ¬ l.b = sameW := by rw [c]; decide
    rw [if_neg n, if_neg (show ¬ (2 = 1) by decide), c]
theorem gr_of {q : T5L} (h : GQ q) : GR (rvOf q) where
  taken := h.taken
  kept := h.kept
  looks := fun l hl => by
    obtain ⟨m, hm, rfl⟩ := List.mem_map.mp hl
    exact lookC_ok (h.looks m hm)
  given := h.given
  told := h.told
  heads := h.heads
  sizes := ⟨h.sizes.1, h.sizes.2.1, by show (q.c.map lookC).length ≤ 10; rw [List.length_map]; exact h.sizes.2.2.1, h.sizes.2.2.2.1, h.sizes.2.2.2.2⟩
/-- how the law makes it -/
structure Well (ks : List K3) (q : T5L) : Prop where
  g : GQ q
  kinds : ∀ f ∈ q.a ++ q.b ++ q.d, ∃ k ∈ ks, f.1 = k.a ∧ ((List.length (α := Tx) f.2 : Nat) : Int) = k.b
  taken : ∀ f ∈ q.a, ∃ k ∈ ks, f.1 = k.a ∧ k.c = false
  calls : q.a = [] → ∀ f ∈ q.d, ∃ k ∈ ks, f.1 = k.a ∧ k.c = true
  names : ∀ n ∈ saidOf (rvOf q), isOpn n = true → n ∈ opens (q.a ++ q.b)
theorem fk_gf {ks : List K3} {ns : List Tx} {f : Fct} (hg : ∀ k ∈ ks, GK k) (hn : ∀ n ∈ ns, isNm n = true) (h : FK ks ns f) : GF f := by
  obtain ⟨k, hk, h1, h2, h3⟩ := h
  have g := hg k hk
  refine ⟨by rw [h1]; exact g.1, fun a ha => hn a (h3 a ha), ?_⟩
  have := g.2.2
  omega
theorem two_ok {ns : List Tx} {cells : List Int} {first k : Int} (hn : 0 < ns.length) (hn2 : ns.length ≤ 1000) (hc : 0 < cells.length) (f0 : 0 ≤ first) (f1 : first ≤ 100) (k0 : 0 ≤ k) (k1 : k ≤ 100) : Okp (m__law_two ns cells first k) fun t => t.a ∈ ns ∧ t.b ∈ ns ∧ (t.c = 0 ∨ t.c = 1) := by
  unfold m__law_two
  simp only [pure_bind, mulI_l (show -(2 ^ 64) < (3 : Int) by decide) (show (3 : Int) < 2 ^ 64 by decide), modI_ok (show (0 : Int) < (cells.length : Int) by omega)]
  obtain ⟨c, ec, _⟩ := atL_mem (xs := cells) (i := (first + 3 * k) % (cells.length : Int)) (Int.emod_nonneg _ (by omega)) (Int.emod_lt_of_pos _ (by omega))
  rw [ec, okb]
  refine Okp.bind (mix_ok c (first + k) (by omega) (by omega)) fun a ha => ?_
  simp only [modI_ok (show (0 : Int) < (ns.length : Int) by omega), divI_ok (show (0 : Int) < 8 by decide) (show (8 : Int) < 1073741824 by decide), divI_ok (show (0 : Int) < 64 by decide) (show (64 : Int) < 1073741824 by decide), modI_ok (show (0 : Int) < 2 by decide), pure_bind]
  obtain ⟨x, ex, mx⟩ := atL_mem (xs := ns) (i := a % (ns.length : Int)) (Int.emod_nonneg _ (by omega)) (Int.emod_lt_of_pos _ (by omega))
  obtain ⟨y, ey, my⟩ := atL_mem (xs := ns) (i := a / 8 % (ns.length : Int)) (Int.emod_nonneg _ (by omega)) (Int.emod_lt_of_pos _ (by omega))
  rw [ex, okb, ey, okb]
  exact ⟨_, rfl, mx, my, by show a / 64 % 2 = 0 ∨ a / 64 % 2 = 1; omega⟩
theorem addN_mem {s : List Tx} {n m : Tx} : m ∈ addN s n ↔ m ∈ s ∨ (isOpn n = true ∧ m = n) := by
  unfold addN
  by_cases c : isOpn n = true ∧ n ∉ s
  · rw [if_pos c, List.mem_append, List.mem_singleton]
    exact ⟨fun h => h.elim .inl fun e => .inr ⟨c.1, e⟩, fun h => h.elim .inl fun e => .inr e.2⟩
  · rw [if_neg c]
    refine ⟨.inl, fun h => h.elim id fun e => ?_⟩
    rw [e.2]
    exact Classical.byContradiction fun z => c ⟨e.1, z⟩
theorem foldN_mem {m : Tx} : ∀ {ns s : List Tx}, m ∈ ns.foldl addN s ↔ m ∈ s ∨ (isOpn m = true ∧ m ∈ ns)
  | [], s => by simp
  | n :: r, s => by
    show m ∈ r.foldl addN (addN s n) ↔ _
    rw [foldN_mem, addN_mem]
    constructor
    · rintro ((h | ⟨h, e⟩) | ⟨h, e⟩)
      · exact .inl h
      · exact .inr ⟨e ▸ h, e ▸ List.mem_cons_self ..⟩
      · exact .inr ⟨h, List.mem_cons_of_mem _ e⟩
    · rintro (h | ⟨h, e⟩)
      · exact .inl (.inl h)
      · rcases List.mem_cons.mp e with e | e
        · exact .inl (.inr ⟨e ▸ h, e⟩)
        · exact .inr ⟨h, e⟩
theorem opens_mem {m : Tx} {fs : List Fct} : m ∈ opens fs ↔ isOpn m = true ∧ ∃ f ∈ fs, m ∈ (show List Tx from f.2) := by
  have gen : ∀ (fs : List Fct) (s : List Tx), m ∈ fs.foldl addF s ↔ m ∈ s ∨ (isOpn m = true ∧ ∃ f ∈ fs, m ∈ (show List Tx from f.2)) := by
    intro fs
    induction fs with
    | nil => intro s; simp
    | cons f r ih =>
      intro s
      show m ∈ r.foldl addF (addF s f) ↔ _
      rw [ih]
      have : m ∈ addF s f ↔ m ∈ s ∨ (isOpn m = true ∧ m ∈ (show List Tx from f.2)) := foldN_mem
      rw [this]
      constructor
      · rintro ((h | ⟨h, e⟩) | ⟨h, g, hg, e⟩)
        · exact .inl h
        · exact .inr ⟨h, f, List.mem_cons_self .., e⟩
        · exact .inr ⟨h, g, List.mem_cons_of_mem _ hg, e⟩
      · rintro (h | ⟨h, g, hg, e⟩)
        · exact .inl (.inl h)
        · rcases List.mem_cons.mp hg with q | hg
          · exact .inl (.inr ⟨h, q ▸ e⟩)
          · exact .inr ⟨h, g, hg, e⟩
  have := gen fs []
  unfold opens
  rw [this]
  simp
theorem opens_len {fs : List Fct} (h : ∀ f ∈ fs, GF f) : (opens fs).length ≤ 8 * fs.length := by
  have gen : ∀ (fs : List Fct) (s : List Tx), (∀ f ∈ fs, GF f) → (fs.foldl addF s).length ≤ s.length + 8 * fs.length := by
    intro fs
    induction fs with
    | nil => intro s _; simp
    | cons f r ih =>
      intro s h
      have h1 := addF_len (s := s) (h f (List.mem_cons_self ..))
      have h2 := ih (addF s f) fun g hg => h g (List.mem_cons_of_mem _ hg)
      show (r.foldl addF (addF s f)).length ≤ _
      rw [List.length_cons]; omega
  have := gen fs [] h
  unfold opens
  simpa using this
theorem rule_ok {ks : List K3} {os ws : List Tx} {cells menu : List Int} (hk : ∀ k ∈ ks, GK k) (hk2 : ks.length ≤ 100) (hp : ∃ k ∈ ks, k.c = false) (hq : ∃ k ∈ ks, k.c = true) (ho : ∀ n ∈ os, isNm n = true) (hw : ∀ n ∈ ws, isNm n = true ∧ isOpn n = false) (w0 : 0 < ws.length) (hl : os.length + ws.length ≤ 100) (hc : 2 ≤ cells.length)
    (m0 : 0 < menu.length) (m1 : menu.length ≤ 100) (hm : ∀ m ∈ menu, 0 ≤ m ∧ m ≤ 4) : Okp (m__law_rule ks os ws cells menu) (Well ks) := by
  unfold m__law_rule
  obtain ⟨c0, ec, _⟩ := atL_mem (xs := cells) (i := 0) (by decide) (by omega)
  simp only [pure_bind, ec, okb]
  refine Okp.bind (counts_ok c0 menu m0 m1 hm) fun row ⟨a, b, c, d, e, er, ha, hb, hc', hd, he, hab⟩ => ?_
  subst er
  have a0 : atL [a, b, c, d, e] 0 = .ok a := rfl
  have a1 : atL [a, b, c, d, e] 1 = .ok b := rfl
  have a2 : atL [a, b, c, d, e] 2 = .ok c := rfl
  have a3 : atL [a, b, c, d, e] 3 = .ok d := rfl
  have a4 : atL [a, b, c, d, e] 4 = .ok e := rfl
  have cc : cut cells (some 1) none = cells.drop 1 := cut_from cells 1 (by omega)
  have cl : 0 < (cells.drop 1).length := by rw [List.length_drop]; omega
  have fl : lf (fun k : K3 => (pure (!k.c) : M Bool)) (fun k => (pure k : M K3)) ks = .ok ((ks.filter fun k => !k.c).map id) := lf_fil (by rw [SZ_val]; omega) (fun _ _ => rfl) fun _ _ _ => rfl
  have fl2 : lf (fun k : K3 => (pure k.c : M Bool)) (fun k => (pure k : M K3)) ks = .ok ((ks.filter fun k => k.c).map id) := lf_fil (by rw [SZ_val]; omega) (fun _ _ => rfl) fun _ _ _ => rfl
  rw [List.map_id] at fl fl2
  have nl : (os ++ ws).length ≤ 100 := by rw [List.length_append]; exact hl
  have n0 : 0 < (os ++ ws).length := by rw [List.length_append]; omega
  have nn : ∀ n ∈ os ++ ws, isNm n = true := fun n hn => (List.mem_append.mp hn).elim (ho n) fun h => (hw n h).1
  have k0 : 0 < ks.length := by
    obtain ⟨k, h, _⟩ := hp
    exact List.length_pos_of_mem h
  simp only [a0, a1, a2, a3, a4, okb, cc, fl, catM_ok (show os.length + ws.length ≤ SZ by rw [SZ_val]; omega)]
  have pf : 0 < (ks.filter fun k => !k.c).length := by
    obtain ⟨k, h, h2⟩ := hp
    exact List.length_pos_of_mem (List.mem_filter.mpr ⟨h, by rw [h2]; rfl⟩)
  have lfp : 0 < (ks.filter fun k => k.c).length := by
    obtain ⟨k, h, h2⟩ := hq
    exact List.length_pos_of_mem (List.mem_filter.mpr ⟨h, h2⟩)
  have lef : ∀ p : K3 → Bool, (ks.filter p).length ≤ ks.length := fun p => List.length_filter_le _ _
  refine Okp.bind (facts_ok cl (by decide) (by decide) ha.1 (by omega) (.inr pf) (by have := lef fun k => !k.c; omega) (fun k h => hk k (List.mem_filter.mp h).1) n0 (by omega)) fun tk ⟨t1, t2⟩ => ?_
  refine Okp.bind (facts_ok cl ha.1 (by omega) hb.1 (by omega) (.inr k0) (by omega) hk n0 (by omega)) fun kp ⟨p1, p2⟩ => ?_
  have gtk : ∀ f ∈ tk, GF f := fun f hf => fk_gf (fun k h => hk k (List.mem_filter.mp h).1) nn (t2 f hf)
  have gkp : ∀ f ∈ kp, GF f := fun f hf => fk_gf hk nn (p2 f hf)
  have gh : ∀ f ∈ tk ++ kp, GF f := fun f hf => (List.mem_append.mp hf).elim (gtk f) (gkp f)
  have hl2 : (tk ++ kp).length ≤ 8 := by rw [List.length_append]; omega
  have ol := opens_len gh
  rw [catM_ok (by rw [SZ_val]; omega), okb, heads_eq gh (by omega), okb, catM_ok (by rw [SZ_val]; omega), okb]
  have hn0 : 0 < (opens (tk ++ kp) ++ ws).length := by rw [List.length_append]; omega
  have hn1 : (opens (tk ++ kp) ++ ws).length ≤ 1000 := by rw [List.length_append]; omega
  have hnn : ∀ n ∈ opens (tk ++ kp) ++ ws, isNm n = true := fun n hn => (List.mem_append.mp hn).elim (fun h => by
    obtain ⟨_, f, hf, hm⟩ := opens_mem.mp h
    exact (gh f hf).2.1 n hm) fun h => (hw n h).1
  have hop : ∀ n ∈ opens (tk ++ kp) ++ ws, isOpn n = true → n ∈ opens (tk ++ kp) := fun n hn hO => (List.mem_append.mp hn).elim id fun h => by rw [(hw n h).2] at hO; cases hO
  obtain ⟨some, es, s1, s2, s3⟩ : ∃ some, (if decide ((tk.length : Int) = 0) = true then (lf (fun k : K3 => (pure k.c : M Bool)) (fun k => (pure k : M K3)) ks >>= fun a => pure a) else (pure ks : M (List K3))) = .ok some ∧ (∀ k ∈ some, k ∈ ks) ∧ 0 < some.length ∧ (tk = [] → ∀ k ∈ some, k.c = true) := by
    by_cases z : tk = []
    · refine ⟨ks.filter fun k => k.c, by rw [decide_eq_true (by rw [z]; rfl), if_pos rfl, fl2]; rfl, fun k h => (List.mem_filter.mp h).1, lfp, fun _ k h => (List.mem_filter.mp h).2⟩
    · refine ⟨ks, by rw [decide_eq_false (fun q => z (List.length_eq_zero_iff.mp (by omega))), if_neg Bool.false_ne_true]; rfl, fun _ h => h, k0, fun q => absurd q z⟩
  have sl : some.length ≤ 1000 := by
    by_cases z : tk = []
    · rw [decide_eq_true (show (tk.length : Int) = 0 by rw [z]; rfl), if_pos rfl, fl2] at es
      cases es
      have := lef fun k => k.c
      omega
    · rw [decide_eq_false (fun q => z (List.length_eq_zero_iff.mp (by omega))), if_neg Bool.false_ne_true] at es
      cases es
      omega
  rw [es, okb]
  refine Okp.bind (facts_ok cl (by decide) (by decide) hc'.1 (by omega) (.inr s2) sl (fun k h => hk k (s1 k h)) hn0 hn1) fun gv ⟨g1, g2⟩ => ?_
  have ggv : ∀ f ∈ gv, GF f := fun f hf => fk_gf (fun k h => hk k (s1 k h)) hnn (g2 f hf)
  rw [range1_ok (by omega) (by omega), okb, range1_ok (by omega) (by omega)]
  refine Okp.bind (P := fun s : List (T3 Tx Tx Tx) => s.length = d.toNat ∧ ∀ l ∈ s, (l.b = sameW ∨ l.b = unlikeW) ∧ l.a ∈ opens (tk ++ kp) ++ ws ∧ l.c ∈ opens (tk ++ kp) ++ ws) ?_ fun lk ⟨l1, l2⟩ => ?_
  · refine Okp.imp (forP_ind (fun n (s : List (T3 Tx Tx Tx)) => s.length = n ∧ ∀ l ∈ s, (l.b = sameW ∨ l.b = unlikeW) ∧ l.a ∈ opens (tk ++ kp) ++ ws ∧ l.c ∈ opens (tk ++ kp) ++ ws) (rangeL 0 d.toNat) 0 [] (fun n s x hx hn' ⟨i1, i2⟩ => ?_) ⟨rfl, fun y hy => by cases hy⟩) fun s h => ⟨by rw [h.1, rangeL_len]; omega, h.2⟩
    rw [rangeL_len] at hn'
    have hb := mem_rangeL hx
    refine Okp.bind (two_ok hn0 hn1 cl (by decide) (by decide) hb.1 (by omega)) fun t ⟨q1, q2, q3⟩ => ?_
    obtain ⟨wd, ew, hwd⟩ : ∃ wd, (atL [tx "same", tx "unlike"] t.c : M Tx) = .ok wd ∧ (wd = sameW ∨ wd = unlikeW) := by
      rcases q3 with z | z
      · rw [z]; exact ⟨sameW, rfl, .inl rfl⟩
      · rw [z]; exact ⟨unlikeW, rfl, .inr rfl⟩
    simp only [ew, okb, chk_b (show s.length < SZ by rw [SZ_val]; omega), pure_bind]
    refine ⟨_, rfl, by rw [List.length_append, List.length_singleton, i1], fun l hl => ?_⟩
    rcases List.mem_append.mp hl with hl | hl
    · exact i2 l hl
    · rw [List.mem_singleton.mp hl]; exact ⟨hwd, q1, q2⟩
  rw [okb]
  refine Okp.bind (P := fun s : List (Tx × Tx) => s.length = e.toNat ∧ ∀ p ∈ s, p.1 ∈ opens (tk ++ kp) ++ ws ∧ p.2 ∈ opens (tk ++ kp) ++ ws) ?_ fun td ⟨d1, d2⟩ => ?_
  · refine Okp.imp (forP_ind (fun n (s : List (Tx × Tx)) => s.length = n ∧ ∀ p ∈ s, p.1 ∈ opens (tk ++ kp) ++ ws ∧ p.2 ∈ opens (tk ++ kp) ++ ws) (rangeL 0 e.toNat) 0 [] (fun n s x hx hn' ⟨i1, i2⟩ => ?_) ⟨rfl, fun y hy => by cases hy⟩) fun s h => ⟨by rw [h.1, rangeL_len]; omega, h.2⟩
    rw [rangeL_len] at hn'
    have hb := mem_rangeL hx
    refine Okp.bind (two_ok hn0 hn1 cl (by decide) (by decide) hb.1 (by omega)) fun t ⟨q1, q2, q3⟩ => ?_
    simp only [okb, chk_b (show s.length < SZ by rw [SZ_val]; omega), pure_bind]
    refine ⟨_, rfl, by rw [List.length_append, List.length_singleton, i1], fun l hl => ?_⟩
    rcases List.mem_append.mp hl with hl | hl
    · exact i2 l hl
    · rw [List.mem_singleton.mp hl]; exact ⟨q1, q2⟩
  have hne : tk ≠ [] ∨ kp ≠ [] := by
    by_cases z : tk = []
    · refine .inr fun z2 => hab ?_
      rw [z] at t1
      rw [z2] at p1
      have : a.toNat = 0 := t1.symm
      have : b.toNat = 0 := p1.symm
      omega
    · exact .inl z
  have fk0 : ∀ {xs : List K3} {ns : List Tx} {f : Fct}, (∀ k ∈ xs, k ∈ ks) → FK xs ns f → ∃ k ∈ ks, f.1 = k.a ∧ ((List.length (α := Tx) f.2 : Nat) : Int) = k.b := fun {xs ns f} h ⟨k, h1, h2, h3, _⟩ => ⟨k, h k h1, h2, h3⟩
  refine ⟨_, rfl, ⟨gtk, gkp, fun l hl => ⟨(l2 l hl).1, hnn _ (l2 l hl).2.1, hnn _ (l2 l hl).2.2⟩, ggv, fun p hp => ⟨hnn _ (d2 p hp).1, hnn _ (d2 p hp).2⟩, hne, ?_⟩, fun f hf => ?_, fun f hf => ?_, fun z f hf => ?_, fun n hn hO => ?_⟩
  · show tk.length ≤ 10 ∧ kp.length ≤ 10 ∧ lk.length ≤ 10 ∧ gv.length ≤ 10 ∧ td.length ≤ 10
    omega
  · have hf : f ∈ tk ++ kp ++ gv := hf
    rcases List.mem_append.mp hf with hf | hf
    · rcases List.mem_append.mp hf with hf | hf
      · exact fk0 (fun k h => (List.mem_filter.mp h).1) (t2 f hf)
      · exact fk0 (fun _ h => h) (p2 f hf)
    · exact fk0 s1 (g2 f hf)
  · obtain ⟨k, h1, h2, _⟩ := t2 f hf
    have h3 := List.mem_filter.mp h1
    exact ⟨k, h3.1, h2, by simpa using h3.2⟩
  · obtain ⟨k, h1, h2, _⟩ := g2 f hf
    exact ⟨k, s1 k h1, h2, s3 z k h1⟩
  · refine hop n ?_ hO
    have hn : n ∈ ((lk.map lookC).flatMap fun l => [l.f.1, l.f.2.1]) ++ ((gv.flatMap fun f => (show List Tx from f.2)) ++ (td.flatMap fun p => [p.1, p.2])) := hn
    rcases List.mem_append.mp hn with hn | hn
    · obtain ⟨l, hl, hn⟩ := List.mem_flatMap.mp hn
      obtain ⟨m, hm, rfl⟩ := List.mem_map.mp hl
      rcases List.mem_cons.mp hn with z | hn
      · rw [z]; exact (l2 m hm).2.1
      · rw [List.mem_singleton.mp hn]; exact (l2 m hm).2.2
    · rcases List.mem_append.mp hn with hn | hn
      · obtain ⟨f, hf, hn⟩ := List.mem_flatMap.mp hn
        obtain ⟨k, _, _, _, h4⟩ := g2 f hf
        exact h4 n hn
      · obtain ⟨p, hp, hn⟩ := List.mem_flatMap.mp hn
        rcases List.mem_cons.mp hn with z | hn
        · rw [z]; exact (d2 p hp).1
        · rw [List.mem_singleton.mp hn]; exact (d2 p hp).2
theorem law_fact_text_F {f : Fct} (h : GF f) : m__law_fact_text f = .ok (xF f) := by
  have d := h.2.2
  exact law_fact_text_eq (t := f.1) (args := f.2) (isNm_len (isKd_nm h.1)) (fun x hx => isNm_len (h.2.1 x hx)) (Nat.le_trans d (by decide))
theorem kind_text_eq {k : K3} (h : GK k) : m__law_kind_text k = .ok (kline k) := by
  unfold m__law_kind_text
  have a0 : (atL [tx "passing ", tx "lasting "] (if k.c = true then 1 else 0) : M Tx) = .ok (wordK k.c ++ [32]) := by
    have w : tx "passing " = passW ++ [32] ∧ tx "lasting " = lastW ++ [32] := by decide +kernel
    rw [w.1, w.2]
    unfold wordK
    cases k.c <;> rfl
  simp only [pure_bind, show ∀ c : Bool, intB c = pure (if c = true then 1 else 0) from fun _ => rfl, a0, okb, show tx " " = [32] from rfl, bind_assoc]
  exact kadd h rfl
theorem law_rule_text_eq {t : Tx} {q : T5L} (ht : isKd t = true) (h : GQ q) : m__law_rule_text t q = .ok (xRule t (partsOf (rvOf q))) := by
  obtain ⟨s1, s2, s3, s4, s5⟩ := h.sizes
  have gr := gr_of h
  have tl := isNm_len (isKd_nm ht)
  have e2 : tx ", " = [44, 32] := rfl
  have e3 : tx "; " = [59, 32] := rfl
  have n1 : (tx "look ").length = 5 := by decide
  have n2 : (tx "tell ").length = 5 := by decide
  have n3 : (tx "rule ").length = 5 := by decide
  have n4 : (tx ": ").length = 2 := by decide
  have p1 : ∀ {w : Tx}, w.length ≤ 5 → ∀ {fs : List Fct}, (∀ f ∈ fs, GF f) → fs.length ≤ 10 → (lc (fun f : Fct => m__law_fact_text f) fs >>= fun y => joinM (tx ", ") y >>= fun y => addT w y) = .ok (w ++ xPrt (.inl fs)) := fun {w} hw {fs} hf hl => by
    have b := join2_len (x := xF) (s := [44, 32]) (B := 250) (fun f hq => xF_len (hf f hq)) rfl hl
    rw [lc_map (g := xF) (by rw [SZ_val]; omega) fun f hq => law_fact_text_F (hf f hq), okb, e2, join2_ok (x := xF) (B := 250) (n := 10) (fun f hq => xF_len (hf f hq)) rfl hl (by decide), okb, addL (by omega)]
    rfl
  have wd : ∀ (l : T3 Tx Tx Tx), GL3 l → joinM (tx " ") [l.a, l.b, l.c] = .ok (xL (lookC l)) := fun l hl => by
    have a := isNm_len hl.2.1
    have b := isNm_len hl.2.2
    have c : l.b.length ≤ 6 := by rcases hl.1 with z | z <;> rw [z] <;> decide
    rw [show tx " " = [32] from rfl, joinM_ok (by simp only [List.map_cons, List.map_nil, List.sum_cons, List.sum_nil, List.length_cons, List.length_nil]; omega)]
    unfold xL
    rw [lookC_wd hl]
    rfl
  have pr : ∀ p : Tx × Tx, GP p → (addT p.1 (tx " = ") >>= fun x => addT x p.2) = .ok (xP p) := fun p hp => by
    have a := isNm_len hp.1
    have b := isNm_len hp.2
    rw [show tx " = " = [32, 61, 32] from rfl, addL (by simp only [List.length_cons, List.length_nil]; omega), okb, addL (by simp only [List.length_append, List.length_cons, List.length_nil]; omega)]
    unfold xP
    rw [List.append_assoc]
  have mm : (q.c.map fun l => xL (lookC l)) = (q.c.map lookC).map xL := by rw [List.map_map]; rfl
  have s3' : (q.c.map lookC).length ≤ 10 := by rw [List.length_map]; exact s3
  have q3 : (lc (fun l : T3 Tx Tx Tx => joinM (tx " ") [l.a, l.b, l.c]) q.c >>= fun y => joinM (tx ", ") y >>= fun y => addT (tx "look ") y) = .ok (tx "look " ++ xPrt (.inr (.inl (q.c.map lookC)))) := by
    have b := join2_len (x := xL) (s := [44, 32]) (B := 250) (fun f hq => xL_len (gr.looks f hq)) rfl s3'
    rw [lc_map (g := fun l => xL (lookC l)) (by rw [SZ_val]; omega) fun l hl => wd l (h.looks l hl), okb, e2, mm]
    have jo := join2_ok (x := xL) (s := [44, 32]) (B := 250) (n := 10) (fun l hl => xL_len (gr.looks l hl)) rfl s3' (by decide)
    refine Eq.trans (congrArg (fun m => m >>= _) jo) ?_
    rw [okb]
    exact addL (by
      have : (joinL [44, 32] ((rvOf q).looks.map xL)).length ≤ 10 * (250 + 2) := b
      omega)
  have q5 : (lc (fun p : Tx × Tx => addT p.1 (tx " = ") >>= fun x => addT x p.2) q.e >>= fun y => joinM (tx ", ") y >>= fun y => addT (tx "tell ") y) = .ok (tx "tell " ++ xPrt (.inr (.inr q.e))) := by
    have b := join2_len (x := xP) (s := [44, 32]) (B := 250) (fun f hq => xP_len (h.told f hq)) rfl s5
    rw [lc_map (g := xP) (by rw [SZ_val]; omega) fun l hl => pr l (h.told l hl), okb, e2, join2_ok (x := xP) (B := 250) (n := 10) (fun l hl => xP_len (h.told l hl)) rfl s5 (by decide), okb, addL (by omega)]
    rfl
  have w1 : tx "take " = takeW ++ [32] := by decide
  have w2 : tx "keep " = keepW ++ [32] := by decide
  have w3 : tx "look " = lookW ++ [32] := by decide
  have w4 : tx "put " = putW ++ [32] := by decide
  have w5 : tx "tell " = tellW ++ [32] := by decide
  have asc : ∀ {a : Tx} {c : Tx}, a ++ [32] ++ c = a ++ ([32] ++ c) := fun {a c} => List.append_assoc _ _ _
  have r1 := p1 (w := tx "take ") (by decide) h.taken s1
  have r2 := p1 (w := tx "keep ") (by decide) h.kept s2
  have r4 := p1 (w := tx "put ") (by decide) h.given s4
  rw [w1, asc] at r1
  rw [w2, asc] at r2
  rw [w4, asc] at r4
  rw [w3, asc] at q3
  rw [w5, asc] at q5
  have a1 := optX_len takeW (fun l => xPrt (.inl l)) q.a
  have a2 := optX_len keepW (fun l => xPrt (.inl l)) q.b
  have a3 : (optX lookW (fun l => xPrt (.inr (.inl (l.map lookC)))) q.c).length ≤ 1 := optX_len lookW _ q.c
  have a4 := optX_len putW (fun l => xPrt (.inl l)) q.d
  obtain ⟨b1, b2⟩ := xparts_bd gr
  have jm := join2_ok (x := id) (s := [59, 32]) (as := (partsOf (rvOf q)).map xPart) (B := 2530) (n := 5) b1 rfl b2 (by decide)
  have jl := join2_len (x := id) (s := [59, 32]) (as := (partsOf (rvOf q)).map xPart) (B := 2530) (n := 5) b1 rfl b2
  rw [List.map_id] at jm jl
  have t1 := opt_step (x := fun l => xPrt (.inl l)) (l := q.a) (s := []) (fun _ => r1) (by simp)
  have t2 := opt_step (x := fun l => xPrt (.inl l)) (l := q.b) (s := [] ++ optX takeW (fun l => xPrt (.inl l)) q.a) (fun _ => r2) (by simp only [List.length_append, List.length_nil]; omega)
  have t3 := opt_step (x := fun l => xPrt (.inr (.inl (l.map lookC)))) (l := q.c) (s := [] ++ optX takeW (fun l => xPrt (.inl l)) q.a ++ optX keepW (fun l => xPrt (.inl l)) q.b) (fun _ => q3) (by simp only [List.length_append, List.length_nil]; omega)
  have t4 := opt_step (x := fun l => xPrt (.inl l)) (l := q.d) (s := [] ++ optX takeW (fun l => xPrt (.inl l)) q.a ++ optX keepW (fun l => xPrt (.inl l)) q.b ++ optX lookW (fun l => xPrt (.inr (.inl (l.map lookC)))) q.c) (fun _ => r4) (by simp only [List.length_append, List.length_nil]; omega)
  have t5 := opt_step (x := fun l => xPrt (.inr (.inr l))) (l := q.e) (s := [] ++ optX takeW (fun l => xPrt (.inl l)) q.a ++ optX keepW (fun l => xPrt (.inl l)) q.b ++ optX lookW (fun l => xPrt (.inr (.inl (l.map lookC)))) q.c ++ optX putW (fun l => xPrt (.inl l)) q.d) (fun _ => q5) (by simp only [List.length_append, List.length_nil]; omega)
  unfold m__law_rule_text
  simp only [pure_bind, bind_assoc] at t1 t2 t3 t4 t5 ⊢
  simp only [w1, w2, w3, w4, w5] at t1 t2 t3 t4 t5 ⊢
  rw [t1, okb, t2, okb, t3, okb, t4, okb, t5, okb]
  have lk : optX lookW (fun l => xPrt (.inr (.inl (l.map lookC)))) q.c = optX lookW (fun l => xPrt (.inr (.inl l))) (q.c.map lookC) := by cases q.c <;> rfl
  have fin : [] ++ optX takeW (fun l => xPrt (.inl l)) q.a ++ optX keepW (fun l => xPrt (.inl l)) q.b ++ optX lookW (fun l => xPrt (.inr (.inl (l.map lookC)))) q.c ++ optX putW (fun l => xPrt (.inl l)) q.d ++ optX tellW (fun l => xPrt (.inr (.inr l))) q.e = (partsOf (rvOf q)).map xPart := by
    rw [xparts, lk]
    simp only [List.append_assoc, List.nil_append]
    rfl
  rw [fin, addL (by omega), okb, addL (by rw [List.length_append]; omega), okb, e3, jm, okb, addL (by simp only [List.length_append]; omega)]
  have w6 : tx "rule " = ruleW ++ [32] := by decide
  have w7 : tx ": " = [58, 32] := rfl
  unfold xRule
  rw [w6, w7]
  simp only [List.append_assoc]
theorem kof_mem {ks : List K3} (nd : (ks.map (·.a)).Nodup) {k : K3} (h : k ∈ ks) : kof ks k.a = some k := by
  induction ks with
  | nil => cases h
  | cons q r ih =>
    obtain ⟨n1, n2⟩ := List.nodup_cons.mp (show (q.a :: r.map (·.a)).Nodup from nd)
    unfold kof
    rw [List.find?_cons]
    rcases List.mem_cons.mp h with e | h
    · rw [e, decide_eq_true rfl]
    · have ne : ¬ q.a = k.a := fun z => n1 (by rw [z]; exact List.mem_map_of_mem h)
      rw [decide_eq_false ne]
      exact ih n2 h
theorem judge_well {ks : List K3} {q : T5L} (nd : (ks.map (·.a)).Nodup) (h : Well ks q) : judge ks (rvOf q) = none := by
  have e1 : ((rvOf q).taken ++ (rvOf q).kept ++ (rvOf q).given).findSome? (ffault ks) = none := by
    refine List.findSome?_eq_none_iff.mpr fun f hf => ?_
    obtain ⟨k, h1, h2, h3⟩ := h.kinds f hf
    unfold ffault
    rw [h2, kof_mem nd h1]
    exact if_pos h3
  have e2 : (rvOf q).taken.any (lastsK ks) = false := by
    refine List.any_eq_false.mpr fun f hf => ?_
    obtain ⟨k, h1, h2, h3⟩ := h.taken f hf
    unfold lastsK
    rw [h2, kof_mem nd h1]
    simp [h3]
  have e3 : ¬ ((rvOf q).taken.isEmpty = true ∧ ((rvOf q).given.any fun f => !lastsK ks f) = true) := fun ⟨z1, z2⟩ => by
    obtain ⟨f, hf, z⟩ := List.any_eq_true.mp z2
    obtain ⟨k, h1, h2, h3⟩ := h.calls (List.isEmpty_iff.mp z1) f hf
    unfold lastsK at z
    rw [h2, kof_mem nd h1] at z
    simp [h3] at z
  have e4 : ((saidOf (rvOf q)).any fun n => isOpn n && !decide (n ∈ opens ((rvOf q).taken ++ (rvOf q).kept))) = false := by
    refine List.any_eq_false.mpr fun n hn z => ?_
    simp only [Bool.and_eq_true, Bool.not_eq_true', decide_eq_false_iff_not] at z
    exact z.2 (h.names n hn z.1)
  unfold judge
  rw [e1, e2, e4]
  simp only [Bool.false_eq_true, if_false, e3]
/-! a line with other blanks tells the same -/
theorem repl_parts (x y z : Tx) : ∃ ps : List Tx, joinL y ps = x ∧ ((Txt.replace (G.S x) (G.S y) (G.S z)).cps.toList = joinL z ps ∨ (Txt.replace (G.S x) (G.S y) (G.S z)).cps.toList = x) := by
  refine ⟨(Builtin.Str.partsBetween (G.S x) (Builtin.Str.occurrences (G.S x) (G.S y) 0 (G.S x).length ((G.S x).length + 1)) (G.S y).length).map fun w => w.cps.toList, ?_, ?_⟩
  · rw [← sjoin_S, ← StrLaws.glued_eq_join, StrLaws.glued_between_self]
    rfl
  · unfold Txt.replace
    split
    · exact .inr rfl
    · exact .inl (by rw [StrLaws.glued_eq_join, sjoin_S])
theorem run_join {y z : Tx} (h : ∀ f n r, prun f n (y ++ r) = prun f n (z ++ r)) : ∀ (ps : List Tx) (f : List Tx) (n : Tx), prun f n (joinL y ps) = prun f n (joinL z ps)
  | [], _, _ => rfl
  | [x], _, _ => rfl
  | x :: w :: r, f, n => by
    show prun f n (x ++ (y ++ joinL y (w :: r))) = prun f n (x ++ (z ++ joinL z (w :: r)))
    rw [run_app, run_app]
    congr 1
    funext s
    rw [h, run_app, run_app]
    congr 1
    funext s
    exact run_join h (w :: r) s.1 s.2
theorem join_le {y z : Tx} (h : z.length ≤ y.length) : ∀ ps : List Tx, (joinL z ps).length ≤ (joinL y ps).length
  | [] => Nat.le_refl _
  | [_] => Nat.le_refl _
  | x :: w :: r => by
    have := join_le h (w :: r)
    show (x ++ (z ++ joinL z (w :: r))).length ≤ (x ++ (y ++ joinL y (w :: r))).length
    simp only [List.length_append]
    omega
theorem repl_same {x y z : Tx} (h : ∀ f n r, prun f n (y ++ r) = prun f n (z ++ r)) (hl : z.length ≤ y.length) (hx : x.length + (x.length + 1) * z.length ≤ 16777216) : ∃ l, replT x y z = .ok l ∧ pcs l = pcs x ∧ l.length ≤ x.length := by
  obtain ⟨ps, e, q⟩ := repl_parts x y z
  refine ⟨_, by unfold replT; rw [chk_b hx]; rfl, ?_, ?_⟩
  · rcases q with q | q
    · rw [q]; conv => rhs; rw [← e]
      unfold pcs
      rw [run_join h]
    · rw [q]
  · rcases q with q | q
    · rw [q]; conv => rhs; rw [← e]
      exact join_le hl ps
    · rw [q]; exact Nat.le_refl _
theorem stp_mark {c : Nat} (h1 : isSign c = false) (h2 : isMark c = true) (f : List Tx) (n : Tx) : stp f n c = some (flush f n ++ [[c]], []) := by
  unfold stp; rw [h1, h2]; rfl
theorem stp_sp (f : List Tx) (n : Tx) : stp f n 32 = some (flush f n, []) := by
  unfold stp; rw [sp_notSign, sp_notMark]; rfl
theorem run_after {c : Nat} (h1 : isSign c = false) (h2 : isMark c = true) (f : List Tx) (n r : Tx) : prun f n ([c, 32] ++ r) = prun f n ([c] ++ r) := by
  show prun f n (c :: 32 :: r) = prun f n (c :: r)
  rw [run_cons, run_cons, stp_mark h1 h2]
  show prun (flush f n ++ [[c]]) [] (32 :: r) = prun (flush f n ++ [[c]]) [] r
  rw [run_cons, stp_sp]
  rfl
theorem run_ahead {c : Nat} (h1 : isSign c = false) (h2 : isMark c = true) (f : List Tx) (n r : Tx) : prun f n ([32, c] ++ r) = prun f n ([c] ++ r) := by
  show prun f n (32 :: c :: r) = prun f n (c :: r)
  rw [run_cons, run_cons, stp_mark h1 h2, stp_sp]
  show prun (flush f n) [] (c :: r) = prun (flush f n ++ [[c]]) [] r
  rw [run_cons, stp_mark h1 h2]
  rfl
theorem signs_same : ∀ (cs : List Nat) (x : Tx), (∀ c ∈ cs, isSign c = false ∧ isMark c = true) → x.length ≤ 1000000 → ∃ l, sgM [32] x (cs.map fun c => [c]) = .ok l ∧ pcs l = pcs x ∧ l.length ≤ x.length
  | [], x, _, _ => ⟨x, rfl, rfl, Nat.le_refl _⟩
  | c :: cs, x, h, hx => by
    obtain ⟨h1, h2⟩ := h c (List.mem_cons_self ..)
    obtain ⟨l, e1, e2, e3⟩ := repl_same (x := x) (run_after h1 h2) (by simp) (by simp only [List.length_singleton]; omega)
    obtain ⟨l2, e4, e5, e6⟩ := signs_same cs l (fun d hd => h d (List.mem_cons_of_mem _ hd)) (by omega)
    refine ⟨l2, ?_, e5.trans e2, by omega⟩
    show (replT x ([c] ++ [32]) [c] >>= fun l' => sgM [32] l' (cs.map fun c => [c])) = _
    rw [show ([c] ++ [32] : Tx) = [c, 32] from rfl, e1]
    exact e4
theorem closer_same {x : Tx} (hx : x.length ≤ 1000000) : ∃ l, m__law_closer x = .ok l ∧ pcs l = pcs x ∧ l.length ≤ x.length := by
  obtain ⟨l, e1, e2, e3⟩ := signs_same [44, 59, 58, 61] x (by decide +kernel) hx
  obtain ⟨l2, e4, e5, e6⟩ := repl_same (x := l) (y := [32, 61]) (z := [61]) (run_ahead (by decide +kernel) (by decide +kernel)) (by simp) (by simp only [List.length_singleton]; omega)
  refine ⟨l2, ?_, e5.trans e2, by omega⟩
  unfold m__law_closer
  rw [show ([tx ",", tx ";", tx ":", tx "="] : List Tx) = [44, 59, 58, 61].map fun c => [c] from rfl, show tx " " = [32] from rfl, e1]
  exact e4
/-! what a line that has pieces is not -/
theorem run_no {c : Nat} (h1 : isSign c = false) (h2 : isMark c = false) (h3 : c ≠ 32) : ∀ (x : Tx) (f : List Tx) (n : Tx) (s : List Tx × Tx), prun f n x = some s → c ∉ x
  | [], _, _, _, _ => fun h => by cases h
  | d :: r, f, n, s, h => fun hm => by
    rw [run_cons] at h
    rcases List.mem_cons.mp hm with e | hm
    · have : stp f n d = none := by rw [← e]; unfold stp; rw [h1, h2, if_neg (by decide), if_neg (by decide), if_neg h3]
      rw [this] at h; cases h
    · cases e : stp f n d with
      | none => rw [e] at h; cases h
      | some t => rw [e] at h; exact run_no h1 h2 h3 r _ _ _ h hm
theorem pcs_run {x : Tx} {ts : List Tx} (h : pcs x = some ts) : ∃ s, prun [] [] x = some s := by
  unfold pcs at h
  cases e : prun [] [] x with
  | none => rw [e] at h; cases h
  | some s => exact ⟨s, rfl⟩
theorem pcs_no10 {x : Tx} {ts : List Tx} (h : pcs x = some ts) : 10 ∉ x := by
  obtain ⟨s, e⟩ := pcs_run h
  exact run_no (by decide +kernel) (by decide +kernel) (by decide) x _ _ s e
theorem pcs_no35 {x : Tx} {ts : List Tx} (h : pcs x = some ts) : 35 ∉ x := by
  obtain ⟨s, e⟩ := pcs_run h
  exact run_no (by decide +kernel) (by decide +kernel) (by decide) x _ _ s e
theorem bare_nil : ∀ {x : Tx}, bare x = [] → sp x
  | [], _ => sp_nil
  | c :: r, h => by
    by_cases e : c = 32
    · have h : bare r = [] := by
        unfold bare at h ⊢
        rw [List.dropWhile_cons, if_pos (by rw [decide_eq_true e])] at h
        exact h
      intro d hd
      rcases List.mem_cons.mp hd with z | hd
      · rw [z, e]
      · exact bare_nil h d hd
    · unfold bare at h
      rw [List.dropWhile_cons, if_neg (by rw [decide_eq_false e]; exact Bool.false_ne_true)] at h
      cases h
theorem pcs_notOut {x : Tx} {ts : List Tx} (h : pcs x = some ts) (hn : ts ≠ []) : isOut x = false := by
  have h35 := pcs_no35 h
  unfold isOut
  cases hb : bare x with
  | cons a r =>
    refine decide_eq_false fun z => h35 ?_
    have : a ∈ bare x := by rw [hb]; exact List.mem_cons_self ..
    rw [← z]
    exact (List.dropWhile_suffix _).mem this
  | nil =>
    exfalso
    have all : sp x := bare_nil hb
    obtain ⟨f, n, e1, e2, _⟩ := run_sp all [] []
    unfold pcs at h
    rw [e1] at h
    have h : flush f n = ts := Option.some.inj h
    rw [e2] at h
    exact hn h.symm
/-! _law_spread -/
theorem stp_flush {c : Nat} (h : isSign c = false) (f : List Tx) (n : Tx) : stp (flush f n) [] c = stp f n c := by
  unfold stp; rw [h]; rfl
theorem stp_end {c : Nat} (h : isSign c = false) {f f' : List Tx} {n n' : Tx} (e : stp f n c = some (f', n')) : n' = [] := by
  unfold stp at e
  rw [h, if_neg (by decide)] at e
  by_cases m : isMark c = true
  · rw [if_pos m] at e; cases e; rfl
  · rw [if_neg m] at e
    by_cases z : c = 32
    · rw [if_pos z] at e; cases e; rfl
    · rw [if_neg z] at e; cases e
/-- as far as n signs, with other blanks -/
def Spd (x : Tx) (n : Nat) (s : Tx) : Prop := ∃ f m, prun [] [] (x.take n) = some (f, m) ∧ (prun [] [] s = some (f, m) ∨ (prun [] [] s = some (flush f m, []) ∧ ∀ c, x[n]? = some c → isSign c = false))
theorem spd_put {x s : Tx} {n c : Nat} {t : List Tx × Tx} (hr : prun [] [] x = some t) (h : Spd x n s) (hc : x[n]? = some c) : ∃ f m, prun [] [] (x.take (n + 1)) = some (f, m) ∧ prun [] [] (s ++ [c]) = some (f, m) ∧ (isSign c = false → m = []) := by
  obtain ⟨f, m, e1, e2⟩ := h
  obtain ⟨hl, ec⟩ := List.getElem?_eq_some_iff.mp hc
  have et : x.take (n + 1) = x.take n ++ [c] := by rw [List.take_succ_eq_append_getElem hl, ec]
  have ex : x = x.take n ++ c :: x.drop (n + 1) := by
    rw [← ec, ← List.drop_eq_getElem_cons hl, List.take_append_drop]
  rw [ex, run_app, e1] at hr
  have hr : prun f m (c :: x.drop (n + 1)) = some t := hr
  rw [run_cons] at hr
  cases es : stp f m c with
  | none => rw [es] at hr; cases hr
  | some q =>
    obtain ⟨f2, m2⟩ := q
    have one : ∀ (f m : _) , prun f m [c] = stp f m c := fun f m => by rw [run_cons]; cases stp f m c <;> rfl
    refine ⟨f2, m2, ?_, ?_, fun hs => stp_end hs es⟩
    · rw [et, run_app, e1]; exact (one f m).trans es
    · rw [run_app]
      rcases e2 with e2 | ⟨e2, hn⟩
      · rw [e2]; exact (one f m).trans es
      · rw [e2]
        refine (one _ _).trans ?_
        show stp (flush f m) [] c = _
        rw [stp_flush (hn c hc)]; exact es
theorem run_blanks {b : Tx} (hb : sp b) (f : List Tx) (m : Tx) : prun f m b = some (f, m) ∨ prun f m b = some (flush f m, []) := by
  cases b with
  | nil => exact .inl rfl
  | cons c r =>
    right
    have hc := hb c (List.mem_cons_self ..)
    subst hc
    rw [run_cons, stp_sp]
    have : ∀ (r : Tx) (f : List Tx), sp r → prun f [] r = some (f, []) := by
      intro r
      induction r with
      | nil => intro f _; rfl
      | cons d r ih =>
        intro f h
        have hd := h d (List.mem_cons_self ..)
        subst hd
        rw [run_cons, stp_sp]
        exact ih _ fun e he => h e (List.mem_cons_of_mem _ he)
    exact this r _ fun e he => hb e (List.mem_cons_of_mem _ he)
theorem spd_end {x s : Tx} {n : Nat} {t : List Tx × Tx} (hr : prun [] [] x = some t) (hn : x.length ≤ n) (h : Spd x n s) {b : Tx} (hb : sp b) : pcs (s ++ b) = pcs x := by
  obtain ⟨f, m, e1, e2⟩ := h
  rw [List.take_of_length_le hn] at e1
  obtain ⟨f', n', e3, e4, _⟩ := run_sp hb f m
  obtain ⟨f2, n2, e5, e6, _⟩ := run_sp hb (flush f m) []
  unfold pcs
  rw [run_app, e1]
  rcases e2 with e2 | ⟨e2, _⟩
  · rw [e2, Option.bind_some, e3]; exact congrArg some e4
  · rw [e2, Option.bind_some, e5]; exact congrArg some e6
def spT : Tx := tx "(),;:= "
def mkC : Tx := tx "(),;:="
theorem spT_not : ∀ c ∈ spT, isSign c = false := by decide +kernel
theorem inG_sign : ∀ c ∈ alnum, inG [c] mkC = false := by decide +kernel
theorem cut_next {x : Tx} {n c : Nat} (h : x[n + 1]? = some c) : cut x (some ((n : Int) + 1)) (some ((n : Int) + 2)) = [c] := by
  obtain ⟨hl, e⟩ := List.getElem?_eq_some_iff.mp h
  unfold cut
  rw [sIx_le (by omega), sIx_le (by omega)]
  have e1 : min ((n : Int) + 1).toNat x.length = n + 1 := by omega
  have e2 : min ((n : Int) + 2).toNat x.length = n + 2 := by omega
  rw [e1, e2, show n + 2 - (n + 1) = 1 by omega, List.drop_eq_getElem_cons hl, e]
  rfl
theorem spread_same {x : Tx} {ts : List Tx} {seed : Int} (h0 : 0 ≤ seed) (h1 : seed < 1000000) (hp : pcs x = some ts) (hx : x.length ≤ 100000) : Okp (m__law_spread x seed) fun l => pcs l = pcs x ∧ l.length ≤ 3 * x.length + 4 := by
  obtain ⟨t, hr⟩ := pcs_run hp
  have hz : x.length ≤ SZ := by rw [SZ_val]; omega
  unfold m__law_spread
  simp only [pure_bind, show tx " " = [32] from rfl, show tx "  " = [32, 32] from rfl, show tx "   " = [32, 32, 32] from rfl, modI_ok (show (0 : Int) < 2 by decide), modI_ok (show (0 : Int) < 7 by decide), modI_ok (show (0 : Int) < 4 by decide), lenT_ok hz, range1_ok (show -(2 ^ 62) ≤ (x.length : Int) by omega) (show (x.length : Int) < 2 ^ 62 by omega), okb]
  rw [cutT_ok (show ([32] : Tx).length ≤ SZ by rw [SZ_val]; decide), okb, Int.toNat_natCast]
  refine Okp.bind (forP_inv (fun n s => s.length ≤ 1 + 3 * n ∧ Spd x n s) x.length 0 _ (fun n s _ hn ⟨hl, hs⟩ => ?_) ⟨?_, ?_⟩) fun s ⟨hl, hs⟩ => ?_
  · obtain ⟨c, e1, e2⟩ := atT_ok (x := x) (i := (n : Int)) (by omega) (by omega) hz
    rw [Int.toNat_natCast] at e2
    obtain ⟨f, m, p1, p2, p3⟩ := spd_put hr hs e2
    have es : inS [c] (tx "(),;:= ") = pure (decide (c ∈ spT)) := rfl
    obtain ⟨v, ev, mv⟩ := atL_ok (xs := ([0, 1, 0, 1, 0, 0, 2] : List Int)) (i := (seed + (n : Int) * (n : Int)) % 7) (by omega) (by show _ < (7 : Int); omega)
    simp only [e1, pure_bind, bind_pure, addT_ok (show s.length + ([c] : Tx).length ≤ SZ by rw [SZ_val, List.length_singleton]; omega), es, cutT_ok hz, okb, mulI_l (show -(2 ^ 64) < (n : Int) by omega) (show (n : Int) < 2 ^ 64 by omega), ev]
    have eg : ∃ g : Bool, (if decide (c ∈ spT) = true then (pure true : M Bool) else pure (inG (cut x (some ((n : Int) + 1)) (some ((n : Int) + 2))) (tx "(),;:="))) = .ok g ∧ (g = true → c ∈ spT ∨ inG (cut x (some ((n : Int) + 1)) (some ((n : Int) + 2))) mkC = true) := by
      by_cases hc : c ∈ spT
      · exact ⟨true, by rw [if_pos (decide_eq_true hc)]; rfl, fun _ => .inl hc⟩
      · exact ⟨_, by rw [if_neg (by rw [decide_eq_false hc]; exact Bool.false_ne_true)]; rfl, fun h => .inr h⟩
    obtain ⟨g, eg, hg⟩ := eg
    rw [eg, okb]
    cases g with
    | false => exact ⟨_, rfl, by rw [List.length_append, List.length_singleton]; omega, f, m, p1, .inl p2⟩
    | true =>
      have hb : sp (cut ([32, 32] : Tx) none (some v)) := fun d hd => by
        have := cut_mem hd
        simpa using this
      have lb := cut_len ([32, 32] : Tx) none (some v)
      have lb : (cut ([32, 32] : Tx) none (some v)).length ≤ 2 := lb
      rw [if_pos rfl, cutT_ok (show ([32, 32] : Tx).length ≤ SZ by rw [SZ_val]; decide), okb, addT_ok (by rw [SZ_val, List.length_append, List.length_singleton]; omega)]
      refine ⟨_, rfl, by rw [List.length_append, List.length_append, List.length_singleton]; omega, f, m, p1, ?_⟩
      rw [run_app, p2]
      show prun f m _ = _ ∨ prun f m _ = _ ∧ _
      rcases run_blanks hb f m with q | q
      · exact .inl q
      · rcases hg rfl with hc | hc
        · have hm := p3 (spT_not c hc)
          rw [hm] at q ⊢
          exact .inl q
        · refine .inr ⟨q, fun d hd => ?_⟩
          rw [cut_next hd] at hc
          cases h : isSign d with
          | false => rfl
          | true => rw [inG_sign d (sign_alnum h)] at hc; cases hc
  · exact cut_len ([32] : Tx) none _
  · refine ⟨[], [], rfl, .inl ?_⟩
    have hb : sp (cut ([32] : Tx) none (some (seed % 2))) := fun d hd => by
      have := cut_mem hd
      simpa using this
    rcases run_blanks hb [] [] with q | q <;> exact q
  · rw [Nat.zero_add] at hs hl
    have hb : sp (cut ([32, 32, 32] : Tx) none (some (seed % 4))) := fun d hd => by
      have := cut_mem hd
      simpa using this
    have lb := cut_len ([32, 32, 32] : Tx) none (some (seed % 4))
    have lb : (cut ([32, 32, 32] : Tx) none (some (seed % 4))).length ≤ 3 := lb
    rw [cutT_ok (show ([32, 32, 32] : Tx).length ≤ SZ by rw [SZ_val]; decide), okb, addT_ok (by rw [SZ_val]; omega)]
    exact ⟨_, rfl, spd_end hr (Nat.le_refl _) hs hb, by rw [List.length_append]; omega⟩
/-! a book of kinds and one rule, the rule's line with other blanks -/
theorem rule_line {q : TR} (h : GTR q) {l : Tx} (hp : pcs l = pcs (xR q)) (hl : l.length ≤ 100000) : Ln l (some (.inr (rowOf q))) ∧ 10 ∉ l := by
  have hp2 := hp.trans (pcs_rule h.1 h.2)
  exact ⟨ln_rule (by rw [SZ_val]; omega) (pcs_notOut hp2 (List.cons_ne_nil _ _)) hp2 (pcs_tks hp2 (by rw [SZ_val]; omega)) rfl (rule_parsed h.1 h.2), pcs_no10 hp2⟩
theorem sum_bd {B : Nat} : ∀ {xs : List Tx}, (∀ x ∈ xs, x.length ≤ B) → (xs.map (·.length)).sum ≤ xs.length * B
  | [], _ => by simp
  | x :: r, h => by
    have h1 := h x (List.mem_cons_self ..)
    have h2 := sum_bd fun y hy => h y (List.mem_cons_of_mem _ hy)
    rw [List.map_cons, List.sum_cons, List.length_cons, Nat.succ_mul]; omega
theorem made_one {ks : List K3} {q : TR} (hl : ks.length ≤ 1000) (nd : (ks.map (·.a)).Nodup) (h : GTR q) (hj : judge ks q.2 = none) : m_made_book ks [rowOf q] = .ok (bookC ks [q]) := by
  have := made_book_eq (trs := [q]) hl (by simp) nd (fun p hp => by rw [List.mem_singleton.mp hp]; exact h.2)
  rw [show ([q].map rowOf) = [rowOf q] from rfl] at this
  rw [this]
  rw [List.findSome?_cons, hj]
  rfl
theorem kls_bd {ks : List K3} (hk : ∀ k ∈ ks, GK k) : ∀ x ∈ ks.map kline, x.length ≤ 13000 := fun x hx => lines_bd (trs := []) hk (fun _ h => by cases h) x (by unfold bookLines; rw [List.map_nil, List.append_nil]; exact hx)
theorem read_last {ks : List K3} {q : TR} {l : Tx} (hk : ∀ k ∈ ks, GK k) (kl : ks.length ≤ 100) (nd : (ks.map (·.a)).Nodup) (h : GTR q) (hj : judge ks q.2 = none) (hp : pcs l = pcs (xR q)) (hl : l.length ≤ 100000) :
    m_read_book (joinL [10] (ks.map kline ++ [l])) = .ok (bookC ks [q]) := by
  obtain ⟨r1, r2⟩ := rule_line h hp hl
  obtain ⟨t1, t2⟩ := tells_K ks [q]
  have s := joinL_len [10] (ks.map kline ++ [l])
  have sb := sum_bd (xs := ks.map kline ++ [l]) (B := 100000) fun x hx => by
    rcases List.mem_append.mp hx with hx | hx
    · have := kls_bd hk x hx; omega
    · rw [List.mem_singleton.mp hx]; exact hl
  rw [List.length_append, List.length_map, List.length_singleton, List.length_singleton] at s
  rw [List.length_append, List.length_map, List.length_singleton] at sb
  rw [read_book_eq (os := tells ks [q]) (fun z => by simp at z) (fun x hx => ?_) (by rw [SZ_val]; omega) (prd_app (prd_map fun k hh => (ln_kline (hk k hh)).1) (Paired.cons r1 Paired.nil)) (by rw [t1]; exact nd) (by rw [t2]; simp), t1, t2]
  · exact made_one (by omega) nd h hj
  · rcases List.mem_append.mp hx with hx | hx
    · obtain ⟨k, hh, rfl⟩ := List.mem_map.mp hx
      exact (ln_kline (hk k hh)).2
    · rw [List.mem_singleton.mp hx]; exact r2
theorem read_first {ks : List K3} {q : TR} {l : Tx} (hk : ∀ k ∈ ks, GK k) (kl : ks.length ≤ 100) (nd : (ks.map (·.a)).Nodup) (h : GTR q) (hj : judge ks q.2 = none) (hp : pcs l = pcs (xR q)) (hl : l.length ≤ 100000) :
    m_read_book (joinL [10] (l :: ks.map kline)) = .ok (bookC ks [q]) := by
  obtain ⟨r1, r2⟩ := rule_line h hp hl
  obtain ⟨t1, t2⟩ := tells_K ks []
  have et : tells ks [] = ks.map fun k => some (.inl k) := by unfold tells; rw [List.map_nil, List.append_nil]
  rw [et] at t1 t2
  have s := joinL_len [10] (l :: ks.map kline)
  have sb := sum_bd (xs := l :: ks.map kline) (B := 100000) fun x hx => by
    rcases List.mem_cons.mp hx with hx | hx
    · rw [hx]; exact hl
    · have := kls_bd hk x hx; omega
  rw [List.length_cons, List.length_map, List.length_singleton] at s
  rw [List.length_cons, List.length_map] at sb
  have k1 : ((some (.inr (rowOf q)) : Option LineV) :: ks.map fun k => some (.inl k)).filterMap toK = ks := t1
  have k2 : ((some (.inr (rowOf q)) : Option LineV) :: ks.map fun k => some (.inl k)).filterMap toR = [rowOf q] := congrArg (fun z => rowOf q :: z) t2
  rw [read_book_eq (os := some (.inr (rowOf q)) :: ks.map fun k => some (.inl k)) (fun z => by cases z) (fun x hx => ?_) (by rw [SZ_val]; omega) (Paired.cons r1 (prd_map fun k hh => (ln_kline (hk k hh)).1)) (by rw [k1]; exact nd) (by rw [k2]; simp), k1, k2]
  · exact made_one (by omega) nd h hj
  · rcases List.mem_cons.mp hx with hx | hx
    · rw [hx]; exact r2
    · obtain ⟨k, hh, rfl⟩ := List.mem_map.mp hx
      exact (ln_kline (hk k hh)).2
/-! k11's own -/
theorem turned_ok {xs : List Tx} {b : Int} (h0 : 0 ≤ b) (hl : xs.length ≤ 1000) : ∃ j, m__law_turned xs b = .ok (xs.drop j ++ xs.take j) := by
  unfold m__law_turned
  simp only [pure_bind]
  have pos : (0 : Int) < (if (xs.length : Int) > 1 then (xs.length : Int) else 1) := by
    by_cases c : (xs.length : Int) > 1
    · rw [if_pos c]; omega
    · rw [if_neg c]; omega
  rw [modI_ok pos, pure_bind]
  generalize ha : b % (if (xs.length : Int) > 1 then (xs.length : Int) else 1) = a
  have a0 : 0 ≤ a := by rw [← ha]; exact Int.emod_nonneg _ (by omega)
  have c1 : cut xs (some a) none = xs.drop (min a.toNat xs.length) := by
    unfold cut
    rw [sIx_le a0, HT.sIx_none]
    exact List.take_of_length_le (by rw [List.length_drop]; omega)
  have c2 : cut xs none (some a) = xs.take (min a.toNat xs.length) := by
    unfold cut
    rw [sIx_le a0, HT.sIx_none, Nat.sub_zero]
    rfl
  rw [c1, c2, catM_ok (by rw [SZ_val, List.length_drop, List.length_take]; omega)]
  exact ⟨_, rfl⟩
theorem turn_map {α : Type} {f : α → Tx} (xs : List α) (j : Nat) : (xs.map f).drop j ++ (xs.map f).take j = (xs.drop j ++ xs.take j).map f := by
  rw [List.map_append, List.map_drop, List.map_take]
theorem turn_perm {α : Type} (xs : List α) (j : Nat) : (xs.drop j ++ xs.take j).Perm xs := by
  have := List.perm_append_comm (l₁ := xs.drop j) (l₂ := xs.take j)
  rwa [List.take_append_drop] at this
theorem take_snoc {α : Type} {xs : List α} {i : Nat} {a : α} (h : xs[i]? = some a) : xs.take (i + 1) = xs.take i ++ [a] := by
  obtain ⟨hl, e⟩ := List.getElem?_eq_some_iff.mp h
  rw [List.take_succ_eq_append_getElem hl, e]
theorem rows_ok {ns : List Int} {ks : List K3} {os ws : List Tx} (hk : ∀ k ∈ ks, GK k) (kl : ks.length = 4) (nd : (ks.map (·.a)).Nodup) (hp : ∃ k ∈ ks, k.c = false) (hl : ∃ k ∈ ks, k.c = true) (ho : ∀ n ∈ os, isNm n = true) (hw : ∀ n ∈ ws, isNm n = true ∧ isOpn n = false) (w0 : 0 < ws.length) (hlen : os.length + ws.length ≤ 100) :
    Okp (m__law_rules ns ks os ws) fun rows => ∃ trs : List TR, rows = trs.map xR ∧ (∀ q ∈ trs, GTR q ∧ ∃ w, q.2 = rvOf w ∧ Well ks w) ∧ (trs.map (·.1)).Nodup ∧ trs.length ≤ 6 := by
  obtain ⟨c4, e4, _⟩ := cell_ok ns 4 (by decide)
  obtain ⟨ts, et, tl, tn, tnd⟩ := titles_ok c4 6 (by decide) (by decide)
  have tl : ts.length = 6 := tl
  unfold m__law_rules
  simp only [pure_bind, bind_pure, e4, okb]
  rw [et, okb, range1_ok (by decide) (by decide), okb]
  refine Okp.imp (forP_inv (fun n s => ∃ trs : List TR, s = trs.map xR ∧ (∀ q ∈ trs, GTR q ∧ ∃ w, q.2 = rvOf w ∧ Well ks w) ∧ (trs.map (·.1)).Sublist (ts.take n) ∧ trs.length ≤ n) 6 0 _ (fun n s _ hn ⟨trs, i1, i2, i3, i4⟩ => ?_) ⟨[], rfl, fun q h => (by cases h), List.Sublist.slnil.trans (List.nil_sublist _), Nat.le_refl _⟩) fun s ⟨trs, i1, i2, i3, i4⟩ => ⟨trs, i1, i2, tnd.sublist (i3.trans (List.take_sublist _ _)), i4⟩
  obtain ⟨t, t1, t2⟩ := atL_some (xs := ts) (i := (n : Int)) (by omega) (by omega)
  rw [Int.toNat_natCast] at t2
  have tk := take_snoc t2
  simp only [mulI_l (show -(2 ^ 64) < (8 : Int) by decide) (show (8 : Int) < 2 ^ 64 by decide), pure_bind, t1, okb]
  generalize cut ns (some (5 + 8 * (n : Int))) (some (13 + 8 * (n : Int))) = cells
  by_cases c : (1 : Int) < (cells.length : Int)
  · rw [if_pos (decide_eq_true c)]
    simp only [bind_assoc]
    refine Okp.bind (rule_ok hk (by omega) hp hl ho hw w0 hlen (by omega) (by decide) (by decide) (by decide)) fun q hq => ?_
    have kt := (nm_title (tn t (List.mem_of_getElem? t2))).1
    rw [law_rule_text_eq kt hq.g, okb, chk_b (show s.length < SZ by rw [i1, List.length_map, SZ_val]; omega)]
    refine ⟨_, rfl, trs ++ [(t, rvOf q)], ?_, ?_, ?_, ?_⟩
    · rw [List.map_append, ← i1]; rfl
    · intro p hp
      rcases List.mem_append.mp hp with hp | hp
      · exact i2 p hp
      · rw [List.mem_singleton.mp hp]; exact ⟨⟨kt, gr_of hq.g⟩, q, rfl, hq⟩
    · rw [List.map_append, tk]
      exact i3.append (List.Sublist.refl _)
    · rw [List.length_append, List.length_singleton]; omega
  · rw [if_neg (by rw [decide_eq_false c]; exact Bool.false_ne_true)]
    refine ⟨_, rfl, trs, i1, i2, i3.trans ?_, by omega⟩
    rw [tk]; exact List.sublist_append_left _ _
/-- a plain line: however its blanks stand, it tells v -/
structure PlL (x : Tx) (v : LineV) : Prop where
  tell : ∀ l, pcs l = pcs x → l.length ≤ 100000 → Ln l (some v) ∧ 10 ∉ l
  len : x.length ≤ 13000
  run : ∃ ts, pcs x = some ts
theorem pll_r {q : TR} (h : GTR q) : PlL (xR q) (.inr (rowOf q)) := ⟨fun l hp hl => rule_line h hp hl, xrule_len h.1 h.2, _, pcs_rule h.1 h.2⟩
theorem pll_k {k : K3} (h : GK k) : PlL (kline k) (.inl k) := by
  obtain ⟨w1, w2, w3, w4⟩ := wordK_ok k.c
  obtain ⟨f1, f2, f3⟩ := figI_t k.b h.2.1 h.2.2
  have kn := nmT_of (isKd_nm h.1)
  have e : kline k = weave [([], wordK k.c), ([32], k.a), ([32], figt k.b)] ++ [] := by
    unfold kline weave weave weave weave
    simp only [List.append_assoc, List.append_nil, List.nil_append]
  have ok : okw false [([], wordK k.c), ([32], k.a), ([32], figt k.b)] := ⟨sp_nil, .inl ⟨w1, .inl rfl, sp_one, .inl ⟨kn, .inr (fun z => by cases z), sp_one, .inl ⟨f3, .inr (fun z => by cases z), trivial⟩⟩⟩⟩
  have hp : pcs (kline k) = some [wordK k.c, k.a, figt k.b] := by rw [e, pcs_okw ok sp_nil]; rfl
  refine ⟨fun l hl h2 => ?_, by have := kline_len h; omega, _, hp⟩
  have hp2 := hl.trans hp
  have := ln_kind (x := l) (w := wordK k.c) (nm := k.a) (f := figt k.b) (by rw [SZ_val]; omega) (pcs_notOut hp2 (List.cons_ne_nil _ _)) hp2 w2 h.1 f2
  rw [f1, w3] at this
  exact ⟨this, pcs_no10 hp2⟩
theorem written_ok {x : Tx} {v : LineV} {m : Int} (h : PlL x v) (h0 : 0 ≤ m) (h1 : m < 1000000) : Okp (m__law_written x m) fun l => pcs l = pcs x ∧ l.length ≤ 50000 := by
  have hl := h.len
  obtain ⟨ts, hp⟩ := h.run
  unfold m__law_written
  simp only [pure_bind, modI_ok (show (0 : Int) < 3 by decide), divI_ok (show (0 : Int) < 3 by decide) (by decide)]
  by_cases c : m % 3 = 1
  · rw [if_pos (decide_eq_true c)]
    exact (spread_same (by omega) (by omega) hp (by omega)).imp fun l hl => ⟨hl.1, by have := hl.2; omega⟩
  · rw [if_neg (by rw [decide_eq_false c]; exact Bool.false_ne_true)]
    by_cases c : m % 3 = 2
    · rw [if_pos (decide_eq_true c)]
      obtain ⟨l, a1, a2, a3⟩ := closer_same (x := x) (by omega)
      exact ⟨l, a1, a2, by omega⟩
    · rw [if_neg (by rw [decide_eq_false c]; exact Bool.false_ne_true)]
      exact ⟨_, rfl, rfl, by omega⟩
theorem lines_ok {g : List Tx → Tx → M (List Tx)} (hg : ∀ (s : List Tx) (x : Tx) (v : LineV), PlL x v → s.length ≤ 100 → ∃ (a : Tx) (r : List Tx), g s x = .ok (s ++ [a] ++ r) ∧ pcs a = pcs x ∧ a.length ≤ 50000 ∧ (r = [] ∨ ∃ y, r = [y] ∧ isOut y = true ∧ 10 ∉ y ∧ y.length ≤ 50000)) :
    ∀ (items : List (Tx × LineV)) (s : List Tx) (os : List (Option LineV)), (∀ p ∈ items, PlL p.1 p.2) → s.length + 2 * items.length ≤ 100 → Paired Ln s os → (∀ x ∈ s, 10 ∉ x ∧ x.length ≤ 50000) →
      ∃ s' os', forP g s (items.map (·.1)) = .ok s' ∧ Paired Ln s' os' ∧ (∀ x ∈ s', 10 ∉ x ∧ x.length ≤ 50000) ∧ os'.filterMap toK = os.filterMap toK ++ (items.map fun p => some p.2).filterMap toK ∧
        os'.filterMap toR = os.filterMap toR ++ (items.map fun p => some p.2).filterMap toR ∧ s'.length ≤ s.length + 2 * items.length ∧ s.length + items.length ≤ s'.length
  | [], s, os, _, _, hp, hx => ⟨s, os, rfl, hp, hx, by simp, by simp, Nat.le_refl _, Nat.le_refl _⟩
  | (x, v) :: items, s, os, hi, hl, hp, hx => by
    rw [List.length_cons] at hl
    have px := hi (x, v) (List.mem_cons_self ..)
    obtain ⟨a, r, e1, e2, e3, e4⟩ := hg s x v px (by omega)
    obtain ⟨ta, na⟩ := px.tell a e2 (by omega)
    have step : ∃ os1, Paired Ln (s ++ [a] ++ r) os1 ∧ (∀ z ∈ s ++ [a] ++ r, 10 ∉ z ∧ z.length ≤ 50000) ∧ os1.filterMap toK = os.filterMap toK ++ [some v].filterMap toK ∧ os1.filterMap toR = os.filterMap toR ++ [some v].filterMap toR ∧ r.length ≤ 1 := by
      have p1 : Paired Ln (s ++ [a]) (os ++ [some v]) := prd_app hp (Paired.cons ta Paired.nil)
      have x1 : ∀ z ∈ s ++ [a], 10 ∉ z ∧ z.length ≤ 50000 := fun z hz => by
        rcases List.mem_append.mp hz with hz | hz
        · exact hx z hz
        · rw [List.mem_singleton.mp hz]; exact ⟨na, e3⟩
      rcases e4 with rfl | ⟨y, rfl, y1, y2, y3⟩
      · exact ⟨os ++ [some v], by rw [List.append_nil]; exact p1, by rw [List.append_nil]; exact x1, List.filterMap_append .., List.filterMap_append .., by simp⟩
      · refine ⟨os ++ [some v] ++ [none], prd_app p1 (Paired.cons y1 Paired.nil), fun z hz => ?_, ?_, ?_, by simp⟩
        · rcases List.mem_append.mp hz with hz | hz
          · exact x1 z hz
          · rw [List.mem_singleton.mp hz]; exact ⟨y2, y3⟩
        · rw [List.filterMap_append, List.filterMap_append]; exact List.append_nil _
        · rw [List.filterMap_append, List.filterMap_append]; exact List.append_nil _
    obtain ⟨os1, q1, q2, q3, q4, q5⟩ := step
    have len1 : (s ++ [a] ++ r).length = s.length + 1 + r.length := by rw [List.length_append, List.length_append, List.length_singleton]
    obtain ⟨s', os', z1, z2, z3, z4, z5, z6, z7⟩ := lines_ok hg items (s ++ [a] ++ r) os1 (fun p h => hi p (List.mem_cons_of_mem _ h)) (by omega) q1 q2
    refine ⟨s', os', ?_, z2, z3, ?_, ?_, by rw [List.length_cons]; omega, by rw [List.length_cons]; omega⟩
    · show (g s x >>= fun s => forP g s (items.map (·.1))) = _
      rw [e1, okb]; exact z1
    · rw [z4, q3, List.append_assoc, ← List.filterMap_append]; rfl
    · rw [z5, q4, List.append_assoc, ← List.filterMap_append]; rfl
def itK (ks : List K3) : List (Tx × LineV) := ks.map fun k => (kline k, .inl k)
def itR (trs : List TR) : List (Tx × LineV) := trs.map fun q => (xR q, .inr (rowOf q))
theorem it_tells {ks : List K3} {trs : List TR} {items : List (Tx × LineV)} (h : items = itK ks ++ itR trs ∨ items = itR trs ++ itK ks) : (items.map fun p => some p.2).filterMap toK = ks ∧ (items.map fun p => some p.2).filterMap toR = trs.map rowOf := by
  obtain ⟨a1, a2⟩ := tells_K ks []
  obtain ⟨b1, b2⟩ := tells_K [] trs
  have ea : (itK ks).map (fun p => some p.2) = tells ks [] := by
    unfold itK tells
    rw [List.map_map, List.map_nil, List.append_nil]; rfl
  have eb : (itR trs).map (fun p => some p.2) = tells [] trs := by
    unfold itR tells
    rw [List.map_map, List.map_nil, List.nil_append]; rfl
  rcases h with rfl | rfl
  · rw [List.map_append, ea, eb, List.filterMap_append, List.filterMap_append, a1, a2, b1, b2, List.append_nil]
    exact ⟨rfl, rfl⟩
  · rw [List.map_append, ea, eb, List.filterMap_append, List.filterMap_append, a1, a2, b1, b2]
    exact ⟨rfl, List.append_nil _⟩
theorem made_all {ks : List K3} {trs : List TR} (hl : ks.length ≤ 1000) (hr : trs.length ≤ 1000) (nd : (ks.map (·.a)).Nodup) (h : ∀ q ∈ trs, GTR q ∧ judge ks q.2 = none) : m_made_book ks (trs.map rowOf) = .ok (bookC ks trs) := by
  rw [made_book_eq hl hr nd fun q hq => (h q hq).1.2, List.findSome?_eq_none_iff.mpr fun q hq => (h q hq).2]
  rfl
theorem okp_lines {g : List Tx → Tx → M (List Tx)} {items : List (Tx × LineV)} (hi : ∀ p ∈ items, PlL p.1 p.2) (hl : 2 * items.length ≤ 100)
    (hg : ∀ (s : List Tx) (x : Tx) (v : LineV), PlL x v → s.length ≤ 100 → ∃ (a : Tx) (r : List Tx), g s x = .ok (s ++ [a] ++ r) ∧ pcs a = pcs x ∧ a.length ≤ 50000 ∧ (r = [] ∨ ∃ y, r = [y] ∧ isOut y = true ∧ 10 ∉ y ∧ y.length ≤ 50000)) :
    Okp (forP g [] (items.map (·.1))) fun s' => ∃ os', Paired Ln s' os' ∧ (∀ x ∈ s', 10 ∉ x ∧ x.length ≤ 50000) ∧ os'.filterMap toK = (items.map fun p => some p.2).filterMap toK ∧ os'.filterMap toR = (items.map fun p => some p.2).filterMap toR ∧ s'.length ≤ 2 * items.length ∧ items.length ≤ s'.length := by
  obtain ⟨s', os', z1, z2, z3, z4, z5, z6, z7⟩ := lines_ok hg items [] [] hi (by simpa using hl) Paired.nil (fun _ h => by cases h)
  exact ⟨s', z1, os', z2, z3, z4, z5, by simpa using z6, by simpa using z7⟩
theorem law_ok (ns : List Int) (hn : ns.length ≤ 63) : m_law ns = pure true := by
  suffices h : Okp (m_law ns) (fun b => b = true) by
    obtain ⟨b, e, rfl⟩ := h
    exact e
  obtain ⟨c0, e0, _⟩ := cell_ok ns 0 (by decide)
  obtain ⟨c1, e1, _⟩ := cell_ok ns 1 (by decide)
  obtain ⟨c2, e2, _⟩ := cell_ok ns 2 (by decide)
  obtain ⟨c3, e3, _⟩ := cell_ok ns 3 (by decide)
  obtain ⟨n, en, n0, n1⟩ := mix_ok c3 1 (by decide) (by decide)
  obtain ⟨ks0, ek, kl, kg, knd, kf⟩ := kinds_ok c0 [0, 1, 2, 2, 1] (by decide) (by decide) (by decide)
  obtain ⟨os, eo, ol, on, ond⟩ := opens_ok c1 4 (by decide) (by decide)
  obtain ⟨ws, ew, wl, wn, wnd⟩ := words_ok c2 3 (by decide) (by decide)
  have ol : os.length = 4 := ol
  have wl : ws.length = 3 := wl
  have flags : ∀ fs ∈ flagRows, (∃ b ∈ fs, b = false) ∧ (∃ b ∈ fs, b = true) := by decide
  have hp : ∃ k ∈ ks0, k.c = false := by
    obtain ⟨b, hb, e⟩ := (flags _ kf).1
    obtain ⟨k, hkm, rfl⟩ := List.mem_map.mp hb
    exact ⟨k, hkm, e⟩
  have hl : ∃ k ∈ ks0, k.c = true := by
    obtain ⟨b, hb, e⟩ := (flags _ kf).2
    obtain ⟨k, hkm, rfl⟩ := List.mem_map.mp hb
    exact ⟨k, hkm, e⟩
  have hk0 : ∀ k ∈ ks0, GK k := fun k h => (kg k h).1
  obtain ⟨rows, er, trs0, hrows, tg0, tnd0, tl0⟩ := rows_ok (ns := ns) hk0 kl knd hp hl (os := os) (ws := ws) (fun m h => (nm_great (on m h)).1) (fun m h => nm_word (wn m h)) (by omega) (by omega)
  obtain ⟨j1, ej1⟩ := turned_ok (xs := ks0.map kline) (b := n / 2) (by omega) (by rw [List.length_map]; omega)
  obtain ⟨j2, ej2⟩ := turned_ok (xs := rows) (b := n / 8) (by omega) (by rw [hrows, List.length_map]; omega)
  rw [turn_map] at ej1
  rw [hrows, turn_map] at ej2
  have pk := turn_perm ks0 j1
  have pr := turn_perm trs0 j2
  generalize ks0.drop j1 ++ ks0.take j1 = ks at ej1 pk
  generalize trs0.drop j2 ++ trs0.take j2 = trs at ej2 pr
  have kl4 : ks.length = 4 := pk.length_eq.trans kl
  have tl6 : trs.length ≤ 6 := by rw [pr.length_eq]; exact tl0
  have hk : ∀ k ∈ ks, GK k := fun k h => hk0 k (pk.mem_iff.mp h)
  have nd : (ks.map (·.a)).Nodup := (pk.map _).nodup_iff.mpr knd
  have tg : ∀ q ∈ trs, GTR q ∧ judge ks q.2 = none := fun q h => by
    obtain ⟨g, w, ew, hw⟩ := tg0 q (pr.mem_iff.mp h)
    refine ⟨g, ?_⟩
    rw [ew]
    exact judge_well nd ⟨hw.g, fun f hf => let ⟨k, h1, h2⟩ := hw.kinds f hf; ⟨k, pk.mem_iff.mpr h1, h2⟩, fun f hf => let ⟨k, h1, h2⟩ := hw.taken f hf; ⟨k, pk.mem_iff.mpr h1, h2⟩, fun h0 f hf => let ⟨k, h1, h2⟩ := hw.calls h0 f hf; ⟨k, pk.mem_iff.mpr h1, h2⟩, hw.names⟩
  have tnd : (trs.map (·.1)).Nodup := (pr.map _).nodup_iff.mpr tnd0
  have ktx : lc (fun k : K3 => m__law_kind_text k) ks0 = .ok (ks0.map kline) := lc_map (by rw [SZ_val]; omega) fun k h => kind_text_eq (hk0 k h)
  have at0 : ∀ (a b : List Tx), (atL ([a] ++ [b]) 0 : M (List Tx)) = .ok a := fun _ _ => rfl
  have at1 : ∀ (a b : List Tx), (atL ([a] ++ [b]) 1 : M (List Tx)) = .ok b := fun _ _ => rfl
  have bt := book_text_eq (ks := ks) (trs := trs) hk (fun q h => (tg q h).1) (by omega)
  have js := lines_sum hk (fun q h => (tg q h).1) (show ks.length + trs.length ≤ 1000 by omega)
  have rp := read_plain hk (fun q h => (tg q h).1) (show ks.length + trs.length ≤ 1000 by omega) (by omega) nd tnd
  rw [List.findSome?_eq_none_iff.mpr fun q hq => (tg q hq).2] at rp
  have rp : m_read_book (joinL [10] (bookLines ks trs)) = .ok (bookC ks trs) := rp
  have bl : bookLines ks trs = ks.map kline ++ trs.map xR := rfl
  rw [bl] at bt js rp
  unfold m_law
  simp only [pure_bind, e0, e1, e2, e3, okb, en]
  rw [ek, okb, eo, okb, ew, okb]
  simp only [pure_bind, bind_assoc, okb, modI_ok (show (0 : Int) < 3 by decide), modI_ok (show (0 : Int) < 2 by decide), divI_ok (show (0 : Int) < 2 by decide) (by decide), divI_ok (show (0 : Int) < 8 by decide) (by decide), divI_ok (show (0 : Int) < 16 by decide) (by decide), divI_ok (show (0 : Int) < 32 by decide) (by decide)]
  show Okp (lc (fun k : K3 => m__law_kind_text k) ks0 >>= _) _
  rw [ktx, okb, ej1, okb, er, okb, hrows, ej2, okb, chk_b (show ([(List.map kline ks)] : List (List Tx)).length < SZ by rw [SZ_val]; exact (by decide : (1 : Nat) < 16777216))]
  simp only [pure_bind, okb, at0, at1]
  rw [catM_ok (by rw [SZ_val, List.length_map, List.length_map]; omega), okb, show tx "\n" = [10] from rfl, joinM_ok (Nat.le_trans js (by decide)), okb]
  refine Okp.bind (P := fun s : List (List Tx) => ∃ (items : List (Tx × LineV)) (a b : List Tx), (items = itK ks ++ itR trs ∨ items = itR trs ++ itK ks) ∧ s = [a, b] ∧ a ++ b = items.map (·.1)) ?_ fun s ⟨items, a, b, hit, hs, hab⟩ => ?_
  · by_cases c : n % 2 = 1
    · rw [if_pos (decide_eq_true c)]
      refine ⟨_, rfl, _, _, _, .inr rfl, rfl, ?_⟩
      unfold itK itR
      rw [List.map_append, List.map_map, List.map_map]; rfl
    · rw [if_neg (by rw [decide_eq_false c]; exact Bool.false_ne_true)]
      refine ⟨_, rfl, _, _, _, .inl rfl, rfl, ?_⟩
      unfold itK itR
      rw [List.map_append, List.map_map, List.map_map]; rfl
  subst hs
  have il : items.length ≤ 10 ∧ 4 ≤ items.length := by
    rcases hit with rfl | rfl <;> (unfold itK itR; rw [List.length_append, List.length_map, List.length_map]; omega)
  have hi : ∀ p ∈ items, PlL p.1 p.2 := fun p hp => by
    have hp : p ∈ itK ks ∨ p ∈ itR trs := by
      rcases hit with rfl | rfl
      · exact List.mem_append.mp hp
      · exact (List.mem_append.mp hp).symm
    rcases hp with hp | hp
    · obtain ⟨k, h1, rfl⟩ := List.mem_map.mp hp
      exact pll_k (hk k h1)
    · obtain ⟨q, h1, rfl⟩ := List.mem_map.mp hp
      exact pll_r (tg q h1).1
  obtain ⟨t1, t2⟩ := it_tells hit
  have ab : a.length + b.length ≤ 10 := by
    have := congrArg List.length hab
    rw [List.length_append, List.length_map] at this
    omega
  rw [show (atL [a, b] 0 : M (List Tx)) = .ok a from rfl, okb, show (atL [a, b] 1 : M (List Tx)) = .ok b from rfl, okb, catM_ok (by rw [SZ_val]; omega), okb, hab]
  refine Okp.bind (okp_lines hi (by omega) fun s x v px hs => ?_) fun s' ⟨os', z2, z3, z4, z5, z6, z7⟩ => ?_
  · have xl := px.len
    have x10 := (px.tell x rfl (by omega)).2
    obtain ⟨a, ea, pa, la⟩ := written_ok (m := n / 16 + 5 * (s.length : Int)) px (by omega) (by omega)
    rw [mulI_l (show -(2 ^ 64) < (5 : Int) by decide) (show (5 : Int) < 2 ^ 64 by decide), pure_bind, ea, okb, chk_b (show s.length < SZ by rw [SZ_val]; omega)]
    by_cases c : (n / 32 + ((s ++ [a]).length : Int)) % 3 = 0
    · refine ⟨a, [tx "  # " ++ cut x none (some 9)], ?_, pa, la, .inr ⟨_, rfl, rfl, fun h => ?_, ?_⟩⟩
      · rw [if_pos (decide_eq_true c), cutT_ok (by rw [SZ_val]; omega), okb, addT_ok (by have := cut_len x none (some 9); rw [SZ_val, show (tx "  # ").length = 4 from rfl]; omega), pure_bind, chk_b (show (s ++ [a]).length < SZ by rw [SZ_val, List.length_append, List.length_singleton]; omega)]
        rfl
      · rcases List.mem_append.mp h with h | h
        · exact absurd h (by decide)
        · exact x10 (cut_mem h)
      · have := cut_len x none (some 9)
        rw [List.length_append, show (tx "  # ").length = 4 from rfl]; omega
    · refine ⟨a, [], ?_, pa, la, .inl rfl⟩
      rw [if_neg (by rw [decide_eq_false c]; exact Bool.false_ne_true), List.append_nil]
      rfl
  have sb := sum_bd (xs := s') (B := 50000) fun x hx => (z3 x hx).2
  have jl := joinL_len [10] s'
  rw [List.length_singleton] at jl
  rw [t1] at z4
  rw [t2] at z5
  rw [joinM_ok (by rw [List.length_singleton]; omega), okb, read_book_eq (os := os') (fun z => by rw [z, List.length_nil] at z7; omega) (fun x hx => (z3 x hx).1) (by rw [SZ_val]; omega) z2 (by rw [z4]; exact nd) (by rw [z5, List.map_map]; exact tnd), z4, z5, made_all (by omega) (by omega) nd tg, okb, rp, okb, bt, okb]
  simp only [Bool.not_true, Bool.false_eq_true, if_false, decide_true, bt, okb, rp, if_true, pure_bind]
  exact ⟨_, rfl, rfl⟩
end Q

set_option Elab.async false
set_option linter.all false
set_option maxRecDepth 100000
set_option maxHeartbeats 0
namespace Q
open PySem L2 G
/-! the head -/
theorem facts {K : Fg} {h : Heap} {mg : Str → Option Value} (X : K.In h) (G : h.Ns mainGlobals mg) (c : He.SaysD fa fn K) (cx : (fx.all fun f => f K) = true) : Fx K mg where
  f__wall := c.def_ 0 (d := ⟨("_wall", none), "_wall", "_wall", defArgs (top 0), defBody (top 0), defScope (top 0), [], []⟩) rfl
  g__wall := He.glo_ok X G (c.fact 0 (f := .glo "_wall") rfl)
  f_is_name := c.def_ 1 (d := ⟨("is_name", none), "is_name", "is_name", defArgs (top 15), defBody (top 15), defScope (top 15), [], []⟩) rfl
  g_is_name := He.glo_ok X G (c.fact 1 (f := .glo "is_name") rfl)
  f_is_open := c.def_ 2 (d := ⟨("is_open", none), "is_open", "is_open", defArgs (top 16), defBody (top 16), defScope (top 16), [], []⟩) rfl
  g_is_open := He.glo_ok X G (c.fact 2 (f := .glo "is_open") rfl)
  f_is_kind := c.def_ 3 (d := ⟨("is_kind", none), "is_kind", "is_kind", defArgs (top 17), defBody (top 17), defScope (top 17), [], []⟩) rfl
  g_is_kind := He.glo_ok X G (c.fact 3 (f := .glo "is_kind") rfl)
  f_pieces := c.def_ 4 (d := ⟨("pieces", none), "pieces", "pieces", defArgs (top 18), defBody (top 18), defScope (top 18), [], []⟩) rfl
  g_pieces := He.glo_ok X G (c.fact 4 (f := .glo "pieces") rfl)
  f_piece_at := c.def_ 5 (d := ⟨("piece_at", none), "piece_at", "piece_at", defArgs (top 19), defBody (top 19), defScope (top 19), [], []⟩) rfl
  g_piece_at := He.glo_ok X G (c.fact 5 (f := .glo "piece_at") rfl)
  f_take_arguments := c.def_ 6 (d := ⟨("take_arguments", none), "take_arguments", "take_arguments", defArgs (top 20), defBody (top 20), defScope (top 20), [], []⟩) rfl
  g_take_arguments := He.glo_ok X G (c.fact 6 (f := .glo "take_arguments") rfl)
  f_take_fact := c.def_ 7 (d := ⟨("take_fact", none), "take_fact", "take_fact", defArgs (top 21), defBody (top 21), defScope (top 21), [], []⟩) rfl
  g_take_fact := He.glo_ok X G (c.fact 7 (f := .glo "take_fact") rfl)
  f_take_facts := c.def_ 8 (d := ⟨("take_facts", none), "take_facts", "take_facts", defArgs (top 22), defBody (top 22), defScope (top 22), [], []⟩) rfl
  g_take_facts := He.glo_ok X G (c.fact 8 (f := .glo "take_facts") rfl)
  f_fact_text := c.def_ 9 (d := ⟨("fact_text", none), "fact_text", "fact_text", defArgs (top 23), defBody (top 23), defScope (top 23), [], []⟩) rfl
  g_fact_text := He.glo_ok X G (c.fact 9 (f := .glo "fact_text") rfl)
  f_facts_text := c.def_ 10 (d := ⟨("facts_text", none), "facts_text", "facts_text", defArgs (top 24), defBody (top 24), defScope (top 24), [], []⟩) rfl
  g_facts_text := He.glo_ok X G (c.fact 10 (f := .glo "facts_text") rfl)
  f_kind_lasts := c.def_ 11 (d := ⟨("kind_lasts", none), "kind_lasts", "kind_lasts", defArgs (top 26), defBody (top 26), defScope (top 26), [], []⟩) rfl
  g_kind_lasts := He.glo_ok X G (c.fact 11 (f := .glo "kind_lasts") rfl)
  f_look_at_facts := c.def_ 12 (d := ⟨("look_at_facts", none), "look_at_facts", "look_at_facts", defArgs (top 27), defBody (top 27), defScope (top 27), [], []⟩) rfl
  g_look_at_facts := He.glo_ok X G (c.fact 12 (f := .glo "look_at_facts") rfl)
  f_look_at_taken := c.def_ 13 (d := ⟨("look_at_taken", none), "look_at_taken", "look_at_taken", defArgs (top 28), defBody (top 28), defScope (top 28), [], []⟩) rfl
  g_look_at_taken := He.glo_ok X G (c.fact 13 (f := .glo "look_at_taken") rfl)
  f_read_kind := c.def_ 14 (d := ⟨("read_kind", none), "read_kind", "read_kind", defArgs (top 36), defBody (top 36), defScope (top 36), [], []⟩) rfl
  g_read_kind := He.glo_ok X G (c.fact 14 (f := .glo "read_kind") rfl)
  f_take_looks := c.def_ 15 (d := ⟨("take_looks", none), "take_looks", "take_looks", defArgs (top 37), defBody (top 37), defScope (top 37), [], []⟩) rfl
  g_take_looks := He.glo_ok X G (c.fact 15 (f := .glo "take_looks") rfl)
  f_take_pairs := c.def_ 16 (d := ⟨("take_pairs", none), "take_pairs", "take_pairs", defArgs (top 38), defBody (top 38), defScope (top 38), [], []⟩) rfl
  g_take_pairs := He.glo_ok X G (c.fact 16 (f := .glo "take_pairs") rfl)
  f_take_part := c.def_ 17 (d := ⟨("take_part", none), "take_part", "take_part", defArgs (top 39), defBody (top 39), defScope (top 39), [], []⟩) rfl
  g_take_part := He.glo_ok X G (c.fact 17 (f := .glo "take_part") rfl)
  f_read_rule := c.def_ 18 (d := ⟨("read_rule", none), "read_rule", "read_rule", defArgs (top 40), defBody (top 40), defScope (top 40), [], []⟩) rfl
  g_read_rule := He.glo_ok X G (c.fact 18 (f := .glo "read_rule") rfl)
  f_left_out := c.def_ 19 (d := ⟨("left_out", none), "left_out", "left_out", defArgs (top 41), defBody (top 41), defScope (top 41), [], []⟩) rfl
  g_left_out := He.glo_ok X G (c.fact 19 (f := .glo "left_out") rfl)
  f_read_line := c.def_ 20 (d := ⟨("read_line", none), "read_line", "read_line", defArgs (top 42), defBody (top 42), defScope (top 42), [], []⟩) rfl
  g_read_line := He.glo_ok X G (c.fact 20 (f := .glo "read_line") rfl)
  f_open_names := c.def_ 21 (d := ⟨("open_names", none), "open_names", "open_names", defArgs (top 44), defBody (top 44), defScope (top 44), [], []⟩) rfl
  g_open_names := He.glo_ok X G (c.fact 21 (f := .glo "open_names") rfl)
  f_keep_line := c.def_ 22 (d := ⟨("keep_line", none), "keep_line", "keep_line", defArgs (top 47), defBody (top 47), defScope (top 47), [], []⟩) rfl
  g_keep_line := He.glo_ok X G (c.fact 22 (f := .glo "keep_line") rfl)
  f_look_at_rule := c.def_ 23 (d := ⟨("look_at_rule", none), "look_at_rule", "look_at_rule", defArgs (top 48), defBody (top 48), defScope (top 48), [], []⟩) rfl
  g_look_at_rule := He.glo_ok X G (c.fact 23 (f := .glo "look_at_rule") rfl)
  f_made_book := c.def_ 24 (d := ⟨("made_book", none), "made_book", "made_book", defArgs (top 49), defBody (top 49), defScope (top 49), [], []⟩) rfl
  g_made_book := He.glo_ok X G (c.fact 24 (f := .glo "made_book") rfl)
  f_read_book := c.def_ 25 (d := ⟨("read_book", none), "read_book", "read_book", defArgs (top 50), defBody (top 50), defScope (top 50), [], []⟩) rfl
  g_read_book := He.glo_ok X G (c.fact 25 (f := .glo "read_book") rfl)
  f_rule_text := c.def_ 26 (d := ⟨("rule_text", none), "rule_text", "rule_text", defArgs (top 51), defBody (top 51), defScope (top 51), [], []⟩) rfl
  g_rule_text := He.glo_ok X G (c.fact 26 (f := .glo "rule_text") rfl)
  f_book_text := c.def_ 27 (d := ⟨("book_text", none), "book_text", "book_text", defArgs (top 52), defBody (top 52), defScope (top 52), [], []⟩) rfl
  g_book_text := He.glo_ok X G (c.fact 27 (f := .glo "book_text") rfl)
  f__law_cell_at := c.def_ 28 (d := ⟨("_law_cell_at", none), "_law_cell_at", "_law_cell_at", defArgs (top 54), defBody (top 54), defScope (top 54), [], []⟩) rfl
  g__law_cell_at := He.glo_ok X G (c.fact 28 (f := .glo "_law_cell_at") rfl)
  f__law_mix := c.def_ 29 (d := ⟨("_law_mix", none), "_law_mix", "_law_mix", defArgs (top 55), defBody (top 55), defScope (top 55), [], []⟩) rfl
  g__law_mix := He.glo_ok X G (c.fact 29 (f := .glo "_law_mix") rfl)
  f__law_names := c.def_ 30 (d := ⟨("_law_names", none), "_law_names", "_law_names", defArgs (top 56), defBody (top 56), defScope (top 56), [], []⟩) rfl
  g__law_names := He.glo_ok X G (c.fact 30 (f := .glo "_law_names") rfl)
  f__law_titles := c.def_ 31 (d := ⟨("_law_titles", none), "_law_titles", "_law_titles", defArgs (top 57), defBody (top 57), defScope (top 57), [], []⟩) rfl
  g__law_titles := He.glo_ok X G (c.fact 31 (f := .glo "_law_titles") rfl)
  f__law_opens := c.def_ 32 (d := ⟨("_law_opens", none), "_law_opens", "_law_opens", defArgs (top 58), defBody (top 58), defScope (top 58), [], []⟩) rfl
  g__law_opens := He.glo_ok X G (c.fact 32 (f := .glo "_law_opens") rfl)
  f__law_words := c.def_ 33 (d := ⟨("_law_words", none), "_law_words", "_law_words", defArgs (top 59), defBody (top 59), defScope (top 59), [], []⟩) rfl
  g__law_words := He.glo_ok X G (c.fact 33 (f := .glo "_law_words") rfl)
  f__law_kinds := c.def_ 34 (d := ⟨("_law_kinds", none), "_law_kinds", "_law_kinds", defArgs (top 60), defBody (top 60), defScope (top 60), [], []⟩) rfl
  g__law_kinds := He.glo_ok X G (c.fact 34 (f := .glo "_law_kinds") rfl)
  f__law_fact := c.def_ 35 (d := ⟨("_law_fact", none), "_law_fact", "_law_fact", defArgs (top 61), defBody (top 61), defScope (top 61), [], []⟩) rfl
  g__law_fact := He.glo_ok X G (c.fact 35 (f := .glo "_law_fact") rfl)
  f__law_fact_text := c.def_ 36 (d := ⟨("_law_fact_text", none), "_law_fact_text", "_law_fact_text", defArgs (top 62), defBody (top 62), defScope (top 62), [], []⟩) rfl
  g__law_fact_text := He.glo_ok X G (c.fact 36 (f := .glo "_law_fact_text") rfl)
  f__law_counts := c.def_ 37 (d := ⟨("_law_counts", none), "_law_counts", "_law_counts", defArgs (top 63), defBody (top 63), defScope (top 63), [], []⟩) rfl
  g__law_counts := He.glo_ok X G (c.fact 37 (f := .glo "_law_counts") rfl)
  f__law_facts := c.def_ 38 (d := ⟨("_law_facts", none), "_law_facts", "_law_facts", defArgs (top 64), defBody (top 64), defScope (top 64), [], []⟩) rfl
  g__law_facts := He.glo_ok X G (c.fact 38 (f := .glo "_law_facts") rfl)
  f__law_heads := c.def_ 39 (d := ⟨("_law_heads", none), "_law_heads", "_law_heads", defArgs (top 65), defBody (top 65), defScope (top 65), [], []⟩) rfl
  g__law_heads := He.glo_ok X G (c.fact 39 (f := .glo "_law_heads") rfl)
  f__law_two := c.def_ 40 (d := ⟨("_law_two", none), "_law_two", "_law_two", defArgs (top 66), defBody (top 66), defScope (top 66), [], []⟩) rfl
  g__law_two := He.glo_ok X G (c.fact 40 (f := .glo "_law_two") rfl)
  f__law_rule := c.def_ 41 (d := ⟨("_law_rule", none), "_law_rule", "_law_rule", defArgs (top 67), defBody (top 67), defScope (top 67), [], []⟩) rfl
  g__law_rule := He.glo_ok X G (c.fact 41 (f := .glo "_law_rule") rfl)
  f__law_rule_text := c.def_ 42 (d := ⟨("_law_rule_text", none), "_law_rule_text", "_law_rule_text", defArgs (top 68), defBody (top 68), defScope (top 68), [], []⟩) rfl
  g__law_rule_text := He.glo_ok X G (c.fact 42 (f := .glo "_law_rule_text") rfl)
  f__law_kind_text := c.def_ 43 (d := ⟨("_law_kind_text", none), "_law_kind_text", "_law_kind_text", defArgs (top 69), defBody (top 69), defScope (top 69), [], []⟩) rfl
  g__law_kind_text := He.glo_ok X G (c.fact 43 (f := .glo "_law_kind_text") rfl)
  f__law_spread := c.def_ 44 (d := ⟨("_law_spread", none), "_law_spread", "_law_spread", defArgs (top 70), defBody (top 70), defScope (top 70), [], []⟩) rfl
  g__law_spread := He.glo_ok X G (c.fact 44 (f := .glo "_law_spread") rfl)
  f__law_closer := c.def_ 45 (d := ⟨("_law_closer", none), "_law_closer", "_law_closer", defArgs (top 71), defBody (top 71), defScope (top 71), [], []⟩) rfl
  g__law_closer := He.glo_ok X G (c.fact 45 (f := .glo "_law_closer") rfl)
  f__law_turned := c.def_ 46 (d := ⟨("_law_turned", none), "_law_turned", "_law_turned", defArgs (top 72), defBody (top 72), defScope (top 72), [], []⟩) rfl
  g__law_turned := He.glo_ok X G (c.fact 46 (f := .glo "_law_turned") rfl)
  f__law_rules := c.def_ 47 (d := ⟨("_law_rules", none), "_law_rules", "_law_rules", defArgs (top 73), defBody (top 73), defScope (top 73), [], []⟩) rfl
  g__law_rules := He.glo_ok X G (c.fact 47 (f := .glo "_law_rules") rfl)
  f__law_written := c.def_ 48 (d := ⟨("_law_written", none), "_law_written", "_law_written", defArgs (top 74), defBody (top 74), defScope (top 74), [], []⟩) rfl
  g__law_written := He.glo_ok X G (c.fact 48 (f := .glo "_law_written") rfl)
  f_law := c.def_ 49 (d := ⟨("law", none), "law", "law", defArgs (top 75), defBody (top 75), defScope (top 75), [], []⟩) rfl
  g_law := He.glo_ok X G (c.fact 49 (f := .glo "law") rfl)
  k_Look := ⟨(List.forall_mem_cons.mpr ⟨He.cls_ok (c.fact 50 (f := .cls "Look") rfl), (List.forall_mem_cons.mpr ⟨He.cls_ok (c.fact 53 (f := .cls "Same") rfl), (List.forall_mem_cons.mpr ⟨He.cls_ok (c.fact 56 (f := .cls "Unlike") rfl), (fun _ h => nomatch h)⟩)⟩)⟩), (List.forall_mem_cons.mpr ⟨(List.forall_mem_cons.mpr ⟨He.noat_ok (c.fact 51 (f := .noat "Look" "left") rfl), (List.forall_mem_cons.mpr ⟨He.noat_ok (c.fact 52 (f := .noat "Look" "right") rfl), (fun _ h => nomatch h)⟩)⟩), (List.forall_mem_cons.mpr ⟨(List.forall_mem_cons.mpr ⟨He.noat_ok (c.fact 54 (f := .noat "Same" "left") rfl), (List.forall_mem_cons.mpr ⟨He.noat_ok (c.fact 55 (f := .noat "Same" "right") rfl), (fun _ h => nomatch h)⟩)⟩), (List.forall_mem_cons.mpr ⟨(List.forall_mem_cons.mpr ⟨He.noat_ok (c.fact 57 (f := .noat "Unlike" "left") rfl), (List.forall_mem_cons.mpr ⟨He.noat_ok (c.fact 58 (f := .noat "Unlike" "right") rfl), (fun _ h => nomatch h)⟩)⟩), (fun _ h => nomatch h)⟩)⟩)⟩)⟩
  g_Look := He.glo_ok X G (c.fact 59 (f := .glo "Look") rfl)
  n_Look := He.mkr_ok (c.fact 60 (f := .mkr "Look") rfl)
  q_Look___init__ := c.def_ 50 (d := ⟨("Look", some "__init__"), "__init__", "Look.__init__", defArgs (inClass (top 30) 0), defBody (inClass (top 30) 0), defScope (inClass (top 30) 0), [], []⟩) rfl
  q_Look_holds := c.def_ 51 (d := ⟨("Look", some "holds"), "holds", "Look.holds", defArgs (inClass (top 30) 1), defBody (inClass (top 30) 1), defScope (inClass (top 30) 1), [], []⟩) rfl
  t_Look_holds := He.meth_ok (c.fact 61 (f := .meth "Look" "holds") rfl)
  q_Look_word := c.def_ 52 (d := ⟨("Look", some "word"), "word", "Look.word", defArgs (inClass (top 30) 2), defBody (inClass (top 30) 2), defScope (inClass (top 30) 2), [], []⟩) rfl
  t_Look_word := He.meth_ok (c.fact 62 (f := .meth "Look" "word") rfl)
  g_Same := He.glo_ok X G (c.fact 63 (f := .glo "Same") rfl)
  n_Same := He.mkr_ok (c.fact 64 (f := .mkr "Same") rfl)
  q_Same___init__ := c.def_ 53 (d := ⟨("Same", some "__init__"), "__init__", "Look.__init__", defArgs (inClass (top 30) 0), defBody (inClass (top 30) 0), defScope (inClass (top 30) 0), [], []⟩) rfl
  q_Same_holds := c.def_ 54 (d := ⟨("Same", some "holds"), "holds", "Same.holds", defArgs (inClass (top 31) 0), defBody (inClass (top 31) 0), defScope (inClass (top 31) 0), [], []⟩) rfl
  t_Same_holds := He.meth_ok (c.fact 65 (f := .meth "Same" "holds") rfl)
  q_Same_word := c.def_ 55 (d := ⟨("Same", some "word"), "word", "Same.word", defArgs (inClass (top 31) 1), defBody (inClass (top 31) 1), defScope (inClass (top 31) 1), [], []⟩) rfl
  t_Same_word := He.meth_ok (c.fact 66 (f := .meth "Same" "word") rfl)
  g_Unlike := He.glo_ok X G (c.fact 67 (f := .glo "Unlike") rfl)
  n_Unlike := He.mkr_ok (c.fact 68 (f := .mkr "Unlike") rfl)
  q_Unlike___init__ := c.def_ 56 (d := ⟨("Unlike", some "__init__"), "__init__", "Look.__init__", defArgs (inClass (top 30) 0), defBody (inClass (top 30) 0), defScope (inClass (top 30) 0), [], []⟩) rfl
  q_Unlike_holds := c.def_ 57 (d := ⟨("Unlike", some "holds"), "holds", "Unlike.holds", defArgs (inClass (top 32) 0), defBody (inClass (top 32) 0), defScope (inClass (top 32) 0), [], []⟩) rfl
  t_Unlike_holds := He.meth_ok (c.fact 69 (f := .meth "Unlike" "holds") rfl)
  q_Unlike_word := c.def_ 58 (d := ⟨("Unlike", some "word"), "word", "Unlike.word", defArgs (inClass (top 32) 1), defBody (inClass (top 32) 1), defScope (inClass (top 32) 1), [], []⟩) rfl
  t_Unlike_word := He.meth_ok (c.fact 70 (f := .meth "Unlike" "word") rfl)
  k_Rule := ⟨(List.forall_mem_cons.mpr ⟨He.cls_ok (c.fact 71 (f := .cls "Rule") rfl), (fun _ h => nomatch h)⟩), (List.forall_mem_cons.mpr ⟨(List.forall_mem_cons.mpr ⟨He.noat_ok (c.fact 72 (f := .noat "Rule" "title") rfl), (List.forall_mem_cons.mpr ⟨He.noat_ok (c.fact 73 (f := .noat "Rule" "taken") rfl), (List.forall_mem_cons.mpr ⟨He.noat_ok (c.fact 74 (f := .noat "Rule" "kept") rfl), (List.forall_mem_cons.mpr ⟨He.noat_ok (c.fact 75 (f := .noat "Rule" "looks") rfl), (List.forall_mem_cons.mpr ⟨He.noat_ok (c.fact 76 (f := .noat "Rule" "given") rfl), (List.forall_mem_cons.mpr ⟨He.noat_ok (c.fact 77 (f := .noat "Rule" "told") rfl), (List.forall_mem_cons.mpr ⟨He.noat_ok (c.fact 78 (f := .noat "Rule" "names") rfl), (fun _ h => nomatch h)⟩)⟩)⟩)⟩)⟩)⟩)⟩), (fun _ h => nomatch h)⟩)⟩
  g_Rule := He.glo_ok X G (c.fact 79 (f := .glo "Rule") rfl)
  n_Rule := He.mkr_ok (c.fact 80 (f := .mkr "Rule") rfl)
  q_Rule___init__ := c.def_ 59 (d := ⟨("Rule", some "__init__"), "__init__", "Rule.__init__", defArgs (inClass (top 45) 0), defBody (inClass (top 45) 0), defScope (inClass (top 45) 0), [], []⟩) rfl
  q_Rule_calls := c.def_ 60 (d := ⟨("Rule", some "calls"), "calls", "Rule.calls", defArgs (inClass (top 45) 1), defBody (inClass (top 45) 1), defScope (inClass (top 45) 1), [], []⟩) rfl
  t_Rule_calls := He.meth_ok (c.fact 81 (f := .meth "Rule" "calls") rfl)
  k_Book := ⟨(List.forall_mem_cons.mpr ⟨He.cls_ok (c.fact 82 (f := .cls "Book") rfl), (fun _ h => nomatch h)⟩), (List.forall_mem_cons.mpr ⟨(List.forall_mem_cons.mpr ⟨He.noat_ok (c.fact 83 (f := .noat "Book" "kinds") rfl), (List.forall_mem_cons.mpr ⟨He.noat_ok (c.fact 84 (f := .noat "Book" "rules") rfl), (fun _ h => nomatch h)⟩)⟩), (fun _ h => nomatch h)⟩)⟩
  g_Book := He.glo_ok X G (c.fact 85 (f := .glo "Book") rfl)
  n_Book := He.mkr_ok (c.fact 86 (f := .mkr "Book") rfl)
  q_Book___init__ := c.def_ 61 (d := ⟨("Book", some "__init__"), "__init__", "Book.__init__", defArgs (inClass (top 46) 0), defBody (inClass (top 46) 0), defScope (inClass (top 46) 0), [], []⟩) rfl
  g_PARTS := He.glo_ok X G (c.fact 87 (f := .glo "PARTS") rfl)
  u_PARTS := fx_at cx 0 (f := fun K => He.tupB K "PARTS" ((["take", "keep", "look", "put", "tell"] : List String).map fun s => He.Dv.str (Str.ofString s))) rfl
  v_PARTS := fx_at cx 1 (f := fun K => tupN K "PARTS") rfl
  g_SIZES := He.glo_ok X G (c.fact 88 (f := .glo "SIZES") rfl)
  u_SIZES := fx_at cx 2 (f := fun K => He.tupB K "SIZES" ((["0", "1", "2", "3", "4"] : List String).map fun s => He.Dv.str (Str.ofString s))) rfl
  n_int := He.free_ok X G (c.fact 89 (f := .free "int") rfl)
  n_isinstance := He.free_ok X G (c.fact 90 (f := .free "isinstance") rfl)
  n_len := He.free_ok X G (c.fact 91 (f := .free "len") rfl)
  n_list := He.free_ok X G (c.fact 92 (f := .free "list") rfl)
  n_max := He.free_ok X G (c.fact 93 (f := .free "max") rfl)
  n_range := He.free_ok X G (c.fact 94 (f := .free "range") rfl)
  n_str := He.free_ok X G (c.fact 95 (f := .free "str") rfl)
  n_tuple := He.free_ok X G (c.fact 96 (f := .free "tuple") rfl)
  s_FIGURES := He.str_ok X G (c.fact 97 (f := .str "FIGURES" "0123456789") rfl)
  s_GREAT := He.str_ok X G (c.fact 98 (f := .str "GREAT" "ABCDEFGHIJKLMNOPQRSTUVWXYZ") rfl)
  s_SIGNS := He.str_ok X G (c.fact 99 (f := .str "SIGNS" "(),;:=-") rfl)
  s_SMALL := He.str_ok X G (c.fact 100 (f := .str "SMALL" "abcdefghijklmnopqrstuvwxyz") rfl)
  g_BadArgs := He.glo_ok X G (c.fact 101 (f := .glo "BadArgs") rfl)
  x_BadArgs := c.fact 102 (f := .exc "BadArgs") rfl
  g_BadCall := He.glo_ok X G (c.fact 103 (f := .glo "BadCall") rfl)
  x_BadCall := c.fact 104 (f := .exc "BadCall") rfl
  g_BadTake := He.glo_ok X G (c.fact 105 (f := .glo "BadTake") rfl)
  x_BadTake := c.fact 106 (f := .exc "BadTake") rfl
  g_NoKind := He.glo_ok X G (c.fact 107 (f := .glo "NoKind") rfl)
  x_NoKind := c.fact 108 (f := .exc "NoKind") rfl
  g_NoLine := He.glo_ok X G (c.fact 109 (f := .glo "NoLine") rfl)
  x_NoLine := c.fact 110 (f := .exc "NoLine") rfl
  g_NoName := He.glo_ok X G (c.fact 111 (f := .glo "NoName") rfl)
  x_NoName := c.fact 112 (f := .exc "NoName") rfl
  g_Twice := He.glo_ok X G (c.fact 113 (f := .glo "Twice") rfl)
  x_Twice := c.fact 114 (f := .exc "Twice") rfl
theorem atlaw {l : PySem.W.OpenLaw} {w : World} {K : Fg} {h : Heap} {mg : Str → Option Value} {f : Addr} (X : K.In h) (G : h.Ns mainGlobals mg) (hfa : mg ("law" : Str) = some (.ref f)) (c : He.SaysD fa fn K) (cx : (fx.all fun f => f K) = true) :
    ∃ fd : FuncData, (∀ (s : Shared) (v : Value), BindsTo s fd ⟨[v], []⟩ [("_law_script", v)]) ∧ ∀ base : Heap, K.In base → base.Ns mainGlobals mg → FnOk l.prog w K mg base (L2.CX l.prog w) 10 f fd ["_law_script"] (sp1 K m_law) := by
  have T := facts X G c cx
  obtain ⟨fd, F⟩ := T.f_law
  have e := hfa.symm.trans T.g_law
  cases e
  have b := FunD.bindsA (ps := ["_law_script"]) F fun _ _ _ _ _ _ us hl => match us, hl with | [_], _ => rfl
  exact ⟨fd, fun s v => b s [v] rfl, fun base _ _ => ok_law T F⟩
theorem ends {K : Fg} (hl : ∀ ns : List Int, ns.length ≤ 63 → m_law ns = pure true) (H : Hp) (a : Addr) (ns : List Int) (hn : ns.length ≤ 63) (hS : SqL K H a (ns.map V.int)) : sp1 K m_law [.ref a] H (fun v _ => v = .bl true) fun _ _ _ => False :=
  ⟨ns, .ref a, H, rfl, Same.refl _, ⟨a, _, rfl, hS, rl_ints ns⟩, by rw [hl ns hn]; exact fun _ _ _ v r => r⟩
end Q
open PySem PySem.W PySem.Calls PyProof.Rows
theorem Q.done (hl : ∀ ns : List Int, ns.length ≤ 63 → Q.m_law ns = pure true) : PySem.Challenge.rw_poolrules_k11_books_written_and_read.Holds := by
  w_on; o_law
  refine HandSHeadRun.head_any (r := OpenLaw.row PySem.Challenge.rw_poolrules_k11_books_written_and_read) (q := view (OpenLaw.row PySem.Challenge.rw_poolrules_k11_books_written_and_read).prog [75]) (H := Q.hk) (ob := Q.ob) (M := 100000) (loose := Q.loose) (d := HandSHeadRun.topDef (OpenLaw.row PySem.Challenge.rw_poolrules_k11_books_written_and_read).prog 75) (kwd := []) Q.ob_eq
    (by kernel_rfl) (fun s => by kernel_rfl) Q.run (by kernel_rfl) (by kernel_rfl) (by kernel_rfl) (by rfl) (by first | assumption | decide +kernel) (by decide +kernel) ⟨rfl, rfl, rfl, rfl, rfl, by decide +kernel⟩ ?hw ?hc
  case hw => w_witness2
  case hc =>
    refine G.walkE (l := PySem.Challenge.rw_poolrules_k11_books_written_and_read) (n := 63) (k := 10) (x := "_law_script") (CX := fun w => L2.CX (PySem.Challenge.rw_poolrules_k11_books_written_and_read).prog w) rfl (by decide) (by kernel_rfl) ⟨rfl, by decide, by decide⟩ ?F (fun _ _ _ _ _ z => G.cx_false z)
    intro w mg fa h Y Gg hmg0
    obtain ⟨K, KX, c, cx⟩ := Y
    have hmg : mg ("law" : PySem.Str) = some (.ref fa) := by
      have e : (HandSHeadRun.topDef (OpenLaw.row PySem.Challenge.rw_poolrules_k11_books_written_and_read).prog 75).name = ("law" : PySem.Str) := by kernel_rfl
      rw [← e]
      exact hmg0
    obtain ⟨fd, hb, hF⟩ := Q.atlaw (l := PySem.Challenge.rw_poolrules_k11_books_written_and_read) (w := w) KX Gg hmg c cx
    exact ⟨K, fd, G.sp1 K Q.m_law, KX, hb, fun H a ns hl0 _ hS => Q.ends hl H a ns hl0 hS, hF⟩

set_option maxHeartbeats 4000000
theorem PySem.Challenge.cw_poolrules_k11_books_written_and_read_holds : PySem.Challenge.rw_poolrules_k11_books_written_and_read.Holds := by
  exact Q.done Q.law_ok
#print axioms PySem.Challenge.cw_poolrules_k11_books_written_and_read_holds
