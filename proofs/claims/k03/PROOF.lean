import PyProof.Rows.All
import Wide.All
import OpenK.AllK
import Wide.FinOn
import KE.KStateDown
import Lean
import HandS.ForMost
import HandS.ForExc
import HandS.IsInst
import HandS.Steps
import HandS.Defaults
import HandS.Head0
import HandS.Head1
import HandS.Head2
import HandS.HeadEnd
import HandS.HeadHook1
import HandS.HeadHook2
import HandS.StrMore
import HandS.ExcIs
import PySem.Challenge.RW_poolrules_k03_rows_of_facts_read
set_option Elab.async false
set_option linter.all false
set_option maxRecDepth 100000
set_option maxHeartbeats 2000000
namespace G
open PySem L2

/-! ### the monad of the mirrors: a raise by its class, or stuck -/
inductive Er where
  | rs (c : Str)
  | st
abbrev M := Except Er
abbrev Fg := PySem.W.Frag
abbrev Tx := List Nat
def S (l : Tx) : Str := ⟨l.toArray⟩
def Tup (α : Type) := List α
def raise {α : Type} (c : Str) : M α := .error (.rs c)
def stuck {α : Type} : M α := .error .st
def chk (p : Prop) [Decidable p] : M Unit := if p then pure () else .error .st
def ofO {α : Type} : Option α → M α
  | some a => pure a
  | none => .error .st
abbrev SZ : Nat := sizeLine

/-! ### data over the heap -/
class Py (α : Type) where
  rep : Fg → Hp → α → V → Prop
  mono : ∀ {K : Fg} {H H' : Hp} {a : α} {v : V}, Same H H' → rep K H a v → rep K H' a v
structure Pr where
  r : Hp → V → Prop
  m : ∀ {H H' : Hp} {v : V}, Same H H' → r H v → r H' v
def rp (K : Fg) {α : Type} [Py α] (a : α) : Pr := ⟨fun H v => Py.rep K H a v, fun e h => Py.mono e h⟩
structure Ct where
  r : Hp → HO → Prop
  m : ∀ {H H' : Hp} {o : HO}, Same H H' → r H o → r H' o
inductive En where
  | no
  | im (p : Pr)
  | mu (c : Ct)

theorem sqt_mono {K : Fg} {H H' : Hp} {a : Addr} {xs : List V} (e : Same H H') (h : SqT K H a xs) : SqT K H' a xs := by
  rcases h with (h | ⟨o, h⟩) | h
  · exact .inl (.inl (e _ _ h))
  · exact .inl (.inr ⟨o, e _ _ h⟩)
  · exact .inr h
def Rl (K : Fg) (H : Hp) {α : Type} [Py α] (xs : List α) (vs : List V) : Prop := Paired (fun a v => Py.rep K H a v) xs vs
theorem Rl.mono {K : Fg} {H H' : Hp} {α : Type} [Py α] {xs : List α} {vs : List V} (e : Same H H') (h : Rl K H xs vs) : Rl K H' xs vs := Paired.mapP h fun _ _ r => Py.mono e r

instance : Py Int := ⟨fun _ _ i v => v = .int i, fun _ h => h⟩
instance : Py Bool := ⟨fun _ _ i v => v = .bl i, fun _ h => h⟩
instance : Py Unit := ⟨fun _ _ _ v => v = .non, fun _ h => h⟩
instance instPyList {α : Type} [Py α] : Py (List α) := ⟨fun K H xs v => ∃ p vs, v = .ref p ∧ SqL K H p vs ∧ Rl K H xs vs, fun e ⟨p, vs, h1, h2, h3⟩ => ⟨p, vs, h1, Same.seq e h2, h3.mono e⟩⟩
instance instPyTx : Py Tx := ⟨fun _ _ l v => v = .str (S l), fun _ h => h⟩
instance instPyTup {α : Type} [Py α] : Py (Tup α) := ⟨fun K H xs v => ∃ p vs, v = .ref p ∧ SqT K H p vs ∧ Rl K H (α := α) xs vs, fun e ⟨p, vs, h1, h2, h3⟩ => ⟨p, vs, h1, sqt_mono e h2, h3.mono e⟩⟩
instance instPyProd {α β : Type} [Py α] [Py β] : Py (α × β) := ⟨fun K H x v => ∃ p v1 v2, v = .ref p ∧ SqT K H p [v1, v2] ∧ Py.rep K H x.1 v1 ∧ Py.rep K H x.2 v2,
  fun e ⟨p, v1, v2, h1, h2, h3, h4⟩ => ⟨p, v1, v2, h1, sqt_mono e h2, Py.mono e h3, Py.mono e h4⟩⟩
instance instPyOption {α : Type} [Py α] : Py (Option α) := ⟨fun K H x v => match x with
    | none => v = .non
    | some a => Py.rep K H a v, fun {K H H' a v} e h => by
  cases a with
  | none => exact h
  | some a => exact Py.mono (α := α) e h⟩
structure T3 (α β γ : Type) where
  a : α
  b : β
  c : γ
  deriving DecidableEq
instance instPyT3 {α β γ : Type} [Py α] [Py β] [Py γ] : Py (T3 α β γ) := ⟨fun K H x v => ∃ p v1 v2 v3, v = .ref p ∧ SqT K H p [v1, v2, v3] ∧ Py.rep K H x.a v1 ∧ Py.rep K H x.b v2 ∧ Py.rep K H x.c v3,
  fun e ⟨p, v1, v2, v3, h1, h2, h3, h4, h5⟩ => ⟨p, v1, v2, v3, h1, sqt_mono e h2, Py.mono e h3, Py.mono e h4, Py.mono e h5⟩⟩
structure T4 (α β γ δ : Type) where
  a : α
  b : β
  c : γ
  d : δ
  deriving DecidableEq
instance instPyT4 {α β γ δ : Type} [Py α] [Py β] [Py γ] [Py δ] : Py (T4 α β γ δ) := ⟨fun K H x v => ∃ p v1 v2 v3 v4, v = .ref p ∧ SqT K H p [v1, v2, v3, v4] ∧ Py.rep K H x.a v1 ∧ Py.rep K H x.b v2 ∧ Py.rep K H x.c v3 ∧ Py.rep K H x.d v4,
  fun e ⟨p, v1, v2, v3, v4, h1, h2, h3, h4, h5, h6⟩ => ⟨p, v1, v2, v3, v4, h1, sqt_mono e h2, Py.mono e h3, Py.mono e h4, Py.mono e h5, Py.mono e h6⟩⟩

/-! ### heaps: what is told for good (Hi) within what stands (H) -/
structure Bs where
  Hi : Hp
  H : Hp
  own : List Addr
structure Ok (b : Bs) (Hi H : Hp) : Prop where
  sub : Same Hi H
  base : Same b.Hi Hi
  fr : ∀ a o, a ∉ b.own → b.H a = some o → H a = some o
  keep : ∀ a, b.H a ≠ none → H a ≠ none
  cap : ∀ a, b.H a ≠ none → b.Hi a = none → Hi a = none
structure Nx (Hi H Hi' H' : Hp) : Prop where
  im : Same Hi Hi'
  al : Same H H'
  sub : Same Hi' H'
  cap : ∀ a, H a ≠ none → Hi a = none → Hi' a = none
theorem Nx.refl {Hi H : Hp} (s : Same Hi H) : Nx Hi H Hi H := ⟨Same.refl _, Same.refl _, s, fun _ _ h => h⟩
theorem some_ne {H H' : Hp} (e : Same H H') {a : Addr} (h : H a ≠ none) : H' a ≠ none := by
  cases q : H a with
  | none => exact absurd q h
  | some o => rw [e a o q]; exact fun z => nomatch z
theorem Nx.trans {Hi H Hi1 H1 Hi2 H2 : Hp} (x : Nx Hi H Hi1 H1) (y : Nx Hi1 H1 Hi2 H2) : Nx Hi H Hi2 H2 :=
  ⟨x.im.trans y.im, x.al.trans y.al, y.sub, fun a h n => y.cap a (some_ne x.al h) (x.cap a h n)⟩
theorem same_new {H : Hp} {p : Addr} {o : HO} (h : H p = none) : Same H (upd H p o) := fun a u e => by
  rw [upd_ne (ne_of_none e h)]
  exact e
theorem hi_none {Hi H : Hp} (s : Same Hi H) {p : Addr} (h : H p = none) : Hi p = none := by
  cases q : Hi p with
  | none => rfl
  | some o => rw [s p o q] at h; cases h
theorem same_upd {Hi H : Hp} (s : Same Hi H) {p : Addr} {o : HO} : Same (upd Hi p o) (upd H p o) := fun a u e => by
  by_cases h : a = p
  · subst h
    rw [upd_same] at e ⊢
    exact e
  · rw [upd_ne h] at e ⊢
    exact s a u e
theorem Nx.new {Hi H : Hp} (s : Same Hi H) {p : Addr} {o : HO} (h : H p = none) : Nx Hi H (upd Hi p o) (upd H p o) :=
  ⟨same_new (hi_none s h), same_new h, same_upd s, fun a ha hn => by
    rw [upd_ne (fun e => ha (by rw [e]; exact h))]
    exact hn⟩
/-- a new object that is not told for good -/
theorem Nx.temp {Hi H : Hp} (s : Same Hi H) {p : Addr} {o : HO} (h : H p = none) : Nx Hi H Hi (upd H p o) :=
  ⟨Same.refl _, same_new h, s.trans (same_new h), fun _ _ hn => hn⟩
theorem Ok.nx {b : Bs} {Hi H Hi' H' : Hp} (o : Ok b Hi H) (x : Nx Hi H Hi' H') : Ok b Hi' H' :=
  ⟨x.sub, o.base.trans x.im, fun a u n h => x.al a u (o.fr a u n h), fun a h => some_ne x.al (o.keep a h), fun a h n => x.cap a (o.keep a h) (o.cap a h n)⟩
/-- an own or a new object is changed -/
theorem Ok.mut {b : Bs} {Hi H : Hp} (o : Ok b Hi H) {a : Addr} {u : HO} (hn : Hi a = none) (hb : a ∈ b.own ∨ b.H a = none) : Ok b Hi (upd H a u) where
  sub := fun c w h => by
    rw [upd_ne (ne_of_none h hn)]
    exact o.sub c w h
  base := o.base
  fr := fun c w n h => by
    have hc : c ≠ a := by
      rintro rfl
      rcases hb with z | z
      · exact n z
      · rw [z] at h; cases h
    rw [upd_ne hc]
    exact o.fr c w n h
  keep := fun c h => by
    by_cases hc : c = a
    · subst hc; rw [upd_same]; exact fun z => nomatch z
    · rw [upd_ne hc]; exact o.keep c h
  cap := o.cap

structure EnvOk (b : Bs) (L : List En) (σ : L2.St) (Hi H : Hp) : Prop where
  ok : Ok b Hi H
  len : σ.length = L.length
  im : ∀ (i : Nat) (p : Pr), L[i]? = some (.im p) → ∃ v : V, σ[i]? = some (some v) ∧ p.r Hi v
  mu : ∀ (i : Nat) (c : Ct), L[i]? = some (.mu c) → ∃ (a : Addr) (o : HO), σ[i]? = some (some (V.ref a)) ∧ H a = some o ∧ Hi a = none ∧ (a ∈ b.own ∨ b.H a = none) ∧ c.r Hi o
  dis : ∀ (i j : Nat) (c d : Ct) (a : Addr), L[i]? = some (.mu c) → L[j]? = some (.mu d) → σ[i]? = some (some (.ref a)) → σ[j]? = some (some (.ref a)) → i = j
section
variable {b : Bs} {L L' : List En} {σ : L2.St} {Hi H Hi' H' : Hp}
theorem EnvOk.nx (e : EnvOk b L σ Hi H) (x : Nx Hi H Hi' H') : EnvOk b L σ Hi' H' where
  ok := e.ok.nx x
  len := e.len
  im := fun i p h => let ⟨v, h1, h2⟩ := e.im i p h; ⟨v, h1, p.m x.im h2⟩
  mu := fun i c h => let ⟨a, o, h1, h2, h3, h4, h5⟩ := e.mu i c h; ⟨a, o, h1, x.al _ _ h2, x.cap a (by rw [h2]; exact fun z => nomatch z) h3, h4, c.m x.im h5⟩
  dis := e.dis
theorem EnvOk.sub (e : EnvOk b L σ Hi H) : Same Hi H := e.ok.sub
theorem EnvOk.rf (e : EnvOk b L σ Hi H) : Nx Hi H Hi H := Nx.refl e.ok.sub

inductive Wk : List En → List En → Prop where
  | nil : Wk [] []
  | s {e : En} {L L' : List En} (h : Wk L L') : Wk (e :: L) (e :: L')
  | n {e : En} {L L' : List En} (h : Wk L L') : Wk (e :: L) (.no :: L')
theorem Wk.refl : ∀ L : List En, Wk L L
  | [] => .nil
  | _ :: r => .s (Wk.refl r)
theorem Wk.length {L L' : List En} (w : Wk L L') : L'.length = L.length := by
  induction w with
  | nil => rfl
  | s _ ih => simp [ih]
  | n _ ih => simp [ih]
theorem Wk.get {L L' : List En} (w : Wk L L') : ∀ {i : Nat} {e : En}, L'[i]? = some e → e = .no ∨ L[i]? = some e := by
  induction w with
  | nil => intro i e h; simp at h
  | s _ ih =>
    intro i e h
    cases i with
    | zero => exact .inr h
    | succ i => exact ih (i := i) (by simpa using h)
  | n _ ih =>
    intro i e h
    cases i with
    | zero =>
      have : En.no = e := by simpa using h
      exact .inl this.symm
    | succ i => exact ih (i := i) (by simpa using h)
theorem EnvOk.wk (e : EnvOk b L σ Hi H) (w : Wk L L') : EnvOk b L' σ Hi H where
  ok := e.ok
  len := e.len.trans w.length.symm
  im := fun i p h => (w.get h).elim (fun z => nomatch z) (e.im i p)
  mu := fun i c h => (w.get h).elim (fun z => nomatch z) (e.mu i c)
  dis := fun i j c d a h1 h2 h3 h4 => (w.get h1).elim (fun z => nomatch z) fun g1 => (w.get h2).elim (fun z => nomatch z) fun g2 => e.dis i j c d a g1 g2 h3 h4
theorem EnvOk.set {i : Nat} {p : Pr} {v : V} (e : EnvOk b L σ Hi H) (r : p.r Hi v) : EnvOk b (L.set i (.im p)) (σ.set i (some v)) Hi H where
  ok := e.ok
  len := by rw [List.length_set, List.length_set]; exact e.len
  im := fun j q h => by
    by_cases hj : i = j
    · subst hj
      have hl : i < (L.set i (En.im p)).length := (List.getElem?_eq_some_iff.mp h).1
      rw [List.length_set] at hl
      rw [List.getElem?_set_self hl] at h
      cases h
      exact ⟨v, List.getElem?_set_self (by rw [e.len]; exact hl), r⟩
    · rw [List.getElem?_set_ne hj] at h ⊢
      exact e.im j q h
  mu := fun j c h => by
    by_cases hj : i = j
    · subst hj
      have hl : i < (L.set i (En.im p)).length := (List.getElem?_eq_some_iff.mp h).1
      rw [List.length_set] at hl
      rw [List.getElem?_set_self hl] at h
      cases h
    · rw [List.getElem?_set_ne hj] at h ⊢
      exact e.mu j c h
  dis := fun j k c d a h1 h2 h3 h4 => by
    have ne : ∀ {j : Nat} {c : Ct}, (L.set i (En.im p))[j]? = some (.mu c) → i ≠ j := fun {j c} h z => by
      subst z
      have hl : i < (L.set i (En.im p)).length := (List.getElem?_eq_some_iff.mp h).1
      rw [List.length_set] at hl
      rw [List.getElem?_set_self hl] at h
      cases h
    have n1 := ne h1
    have n2 := ne h2
    rw [List.getElem?_set_ne n1] at h1 h3
    rw [List.getElem?_set_ne n2] at h2 h4
    exact e.dis j k c d a h1 h2 h3 h4
/-- a new object, held by the name alone -/
theorem EnvOk.setNew {i : Nat} {c : Ct} {p : Addr} {o : HO} (e : EnvOk b L σ Hi H) (hp : H p = none) (r : c.r Hi o) : EnvOk b (L.set i (.mu c)) (σ.set i (some (.ref p))) Hi (upd H p o) := by
  have x : Nx Hi H Hi (upd H p o) := Nx.temp e.sub hp
  have e1 := e.nx x
  have hpi : Hi p = none := hi_none e.sub hp
  have hpb : b.H p = none := by
    cases q : b.H p with
    | none => rfl
    | some u => exact absurd hp (e.ok.keep p (by rw [q]; exact fun z => nomatch z))
  have old : ∀ {j : Nat} {d : Ct} {a : Addr}, L[j]? = some (.mu d) → σ[j]? = some (some (.ref a)) → a ≠ p := fun {j d a} h1 h2 z => by
    obtain ⟨a', o', g1, g2, _⟩ := e.mu j d h1
    rw [h2] at g1
    cases g1
    rw [z, hp] at g2
    cases g2
  have hi : ∀ {j : Nat}, i = j → ∀ {en : En}, (L.set i (En.mu c))[j]? = some en → en = .mu c ∧ i < L.length := fun {j} hj {en} h => by
    subst hj
    have hl : i < (L.set i (En.mu c)).length := (List.getElem?_eq_some_iff.mp h).1
    rw [List.length_set] at hl
    rw [List.getElem?_set_self hl] at h
    cases h
    exact ⟨rfl, hl⟩
  refine ⟨e1.ok, by rw [List.length_set, List.length_set]; exact e.len, fun j q h => ?_, fun j d h => ?_, fun j k d f a h1 h2 h3 h4 => ?_⟩
  · by_cases hj : i = j
    · exact nomatch (hi hj h).1
    · rw [List.getElem?_set_ne hj] at h ⊢
      exact e1.im j q h
  · by_cases hj : i = j
    · obtain ⟨h5, h6⟩ := hi hj h
      cases h5
      subst hj
      exact ⟨p, o, List.getElem?_set_self (by rw [e.len]; exact h6), upd_same, hpi, .inr hpb, r⟩
    · rw [List.getElem?_set_ne hj] at h ⊢
      exact e1.mu j d h
  · by_cases hj : i = j
    · by_cases hk : i = k
      · exact hj.symm.trans hk
      · obtain ⟨_, h6⟩ := hi hj h1
        subst hj
        rw [List.getElem?_set_self (by rw [e.len]; exact h6)] at h3
        cases h3
        rw [List.getElem?_set_ne hk] at h2 h4
        exact absurd rfl (old h2 h4)
    · by_cases hk : i = k
      · obtain ⟨_, h6⟩ := hi hk h2
        subst hk
        rw [List.getElem?_set_self (by rw [e.len]; exact h6)] at h4
        cases h4
        rw [List.getElem?_set_ne hj] at h1 h3
        exact absurd rfl (old h1 h3)
      · rw [List.getElem?_set_ne hj] at h1 h3
        rw [List.getElem?_set_ne hk] at h2 h4
        exact e.dis j k d f a h1 h2 h3 h4
/-- the object that a name holds alone is changed -/
theorem EnvOk.mut {i : Nat} {c c' : Ct} {a : Addr} {o' : HO} (e : EnvOk b L σ Hi H) (hL : L[i]? = some (.mu c)) (hs : σ[i]? = some (some (.ref a))) (r : c'.r Hi o') : EnvOk b (L.set i (.mu c')) σ Hi (upd H a o') := by
  obtain ⟨a', o, g1, g2, g3, g4, g5⟩ := e.mu i c hL
  rw [hs] at g1
  cases g1
  have hl : i < L.length := (List.getElem?_eq_some_iff.mp hL).1
  have ne : ∀ {j : Nat} {d : Ct} {a' : Addr}, i ≠ j → L[j]? = some (.mu d) → σ[j]? = some (some (.ref a')) → a' ≠ a := fun {j d a'} hj h1 h2 z => by
    subst z
    exact hj (e.dis i j c d a' hL h1 hs h2)
  refine ⟨e.ok.mut g3 g4, by rw [List.length_set]; exact e.len, fun j q h => ?_, fun j d h => ?_, fun j k d f a' h1 h2 h3 h4 => ?_⟩
  · by_cases hj : i = j
    · subst hj
      rw [List.getElem?_set_self hl] at h
      cases h
    · rw [List.getElem?_set_ne hj] at h
      exact e.im j q h
  · by_cases hj : i = j
    · subst hj
      rw [List.getElem?_set_self hl] at h
      cases h
      exact ⟨a, o', hs, upd_same, g3, g4, r⟩
    · rw [List.getElem?_set_ne hj] at h
      obtain ⟨a2, o2, k1, k2, k3, k4, k5⟩ := e.mu j d h
      exact ⟨a2, o2, k1, by rw [upd_ne (ne hj h k1)]; exact k2, k3, k4, k5⟩
  · have back : ∀ {j : Nat} {d : Ct}, (L.set i (En.mu c'))[j]? = some (.mu d) → ∃ d', L[j]? = some (.mu d') := fun {j d} h => by
      by_cases hj : i = j
      · subst hj; exact ⟨c, hL⟩
      · rw [List.getElem?_set_ne hj] at h; exact ⟨d, h⟩
    obtain ⟨d1, q1⟩ := back h1
    obtain ⟨d2, q2⟩ := back h2
    exact e.dis j k d1 d2 a' q1 q2 h3 h4
/-- what a name holds alone is told for good -/
theorem EnvOk.frz {i : Nat} {c : Ct} {p : Pr} (e : EnvOk b L σ Hi H) (hL : L[i]? = some (.mu c)) (hn : b.own = []) (r : ∀ (a : Addr) (Hi' : Hp) (o : HO), Same Hi Hi' → c.r Hi o → Hi' a = some o → p.r Hi' (.ref a)) : ∃ Hi', EnvOk b (L.set i (.im p)) σ Hi' H := by
  obtain ⟨a, o, g1, g2, g3, g4, g5⟩ := e.mu i c hL
  have hl : i < L.length := (List.getElem?_eq_some_iff.mp hL).1
  have g6 : b.H a = none := by
    rcases g4 with z | z
    · rw [hn] at z; cases z
    · exact z
  have sm : Same Hi (upd Hi a o) := same_new g3
  refine ⟨upd Hi a o, ⟨⟨fun d u h => ?_, e.ok.base.trans sm, e.ok.fr, e.ok.keep, fun d h n => ?_⟩, by rw [List.length_set]; exact e.len, fun j q h => ?_, fun j d h => ?_, fun j k d f a' h1 h2 h3 h4 => ?_⟩⟩
  · by_cases hd : d = a
    · subst hd; rw [upd_same] at h; cases h; exact g2
    · rw [upd_ne hd] at h; exact e.ok.sub d u h
  · have hd : d ≠ a := fun z => h (by rw [z]; exact g6)
    rw [upd_ne hd]; exact e.ok.cap d h n
  · by_cases hj : i = j
    · subst hj
      rw [List.getElem?_set_self hl] at h
      cases h
      exact ⟨_, g1, r a _ o sm g5 upd_same⟩
    · rw [List.getElem?_set_ne hj] at h
      obtain ⟨v, k1, k2⟩ := e.im j q h
      exact ⟨v, k1, q.m sm k2⟩
  · by_cases hj : i = j
    · subst hj
      rw [List.getElem?_set_self hl] at h
      cases h
    · rw [List.getElem?_set_ne hj] at h
      obtain ⟨a2, o2, k1, k2, k3, k4, k5⟩ := e.mu j d h
      have hne : a2 ≠ a := fun z => by
        subst z
        exact hj (e.dis i j c d a2 hL h g1 k1)
      exact ⟨a2, o2, k1, k2, by rw [upd_ne hne]; exact k3, k4, d.m sm k5⟩
  · have back : ∀ {j : Nat} {d : Ct}, (L.set i (En.im p))[j]? = some (.mu d) → L[j]? = some (.mu d) := fun {j d} h => by
      by_cases hj : i = j
      · subst hj
        rw [List.getElem?_set_self hl] at h
        cases h
      · rw [List.getElem?_set_ne hj] at h; exact h
    exact e.dis j k d f a' (back h1) (back h2) h3 h4
end

/-! ### what is wanted behind a computation -/
def PX (K : Fg) (E : XK) {α : Type} (m : M α) (Hi H : Hp) (k : α → Hp → Hp → Prop) : Prop := match m with
  | .ok a => ∀ Hi' H', Nx Hi H Hi' H' → k a Hi' H'
  | .error (.rs c) => ∀ Hi' H', Nx Hi H Hi' H' → E (.ref (He.ga K c)) none H'
  | .error .st => False
section
variable {K : Fg} {E : XK} {α β : Type} {m : M α} {f : α → M β} {Hi H Hi' H' : Hp}
theorem PX.nx {k : α → Hp → Hp → Prop} (x : Nx Hi H Hi' H') (h : PX K E m Hi H k) : PX K E m Hi' H' k := by
  cases m with
  | ok a => exact fun _ _ y => h _ _ (x.trans y)
  | error e =>
    cases e with
    | rs c => exact fun _ _ y => h _ _ (x.trans y)
    | st => exact h
theorem PX.bind {k : β → Hp → Hp → Prop} (h : PX K E (m >>= f) Hi H k) : PX K E m Hi H fun a Hi' H' => PX K E (f a) Hi' H' k := by
  cases m with
  | ok a => exact fun _ _ y => PX.nx (m := f a) y h
  | error e =>
    cases e with
    | rs c => exact h
    | st => exact h
theorem PX.imp {k k' : α → Hp → Hp → Prop} (h : PX K E m Hi H k) (i : ∀ a Hi' H', Nx Hi H Hi' H' → k a Hi' H' → k' a Hi' H') : PX K E m Hi H k' := by
  cases m with
  | ok a => exact fun _ _ y => i a _ _ y (h _ _ y)
  | error e =>
    cases e with
    | rs c => exact h
    | st => exact h
theorem PX.chk {p : Prop} [Decidable p] {g : Unit → M β} {k : β → Hp → Hp → Prop} (h : PX K E (chk p >>= g) Hi H k) : p ∧ PX K E (g ()) Hi H k := by
  unfold G.chk at h
  by_cases hp : p
  · rw [if_pos hp] at h; exact ⟨hp, h⟩
  · rw [if_neg hp] at h; exact h.elim
theorem PX.ofO {o : Option α} {g : α → M β} {k : β → Hp → Hp → Prop} (h : PX K E (ofO o >>= g) Hi H k) : ∃ a, o = some a ∧ PX K E (g a) Hi H k := by
  cases o with
  | none => exact h.elim
  | some a => exact ⟨a, rfl, h⟩
theorem PX.ofO1 {o : Option α} {k : α → Hp → Hp → Prop} (h : PX K E (G.ofO o) Hi H k) : ∃ a, o = some a ∧ PX K E (pure a) Hi H k := by
  cases o with
  | none => exact h.elim
  | some a => exact ⟨a, rfl, h⟩
end
/-- behind an expression -/
abbrev PV (K : Fg) (E : XK) {α : Type} [Py α] (m : M α) (Hi H : Hp) (Q : VK) : Prop := PX K E m Hi H fun a Hi' H' => ∀ v, Py.rep K Hi' a v → Q v H'

/-- the weakest readings -/
def wpE (X : Cx) (e : Expr) : TE := fun σ H Q => ∀ (pins : List (Addr × Obj)) (s : Shared), Inv X pins σ H s → wpAny (model X.prog X.w) X.A (eval e X.env) (EP X pins σ Q) X.xe s
def wpT (X : Cx) (e : Expr) : TT := fun σ H Q => ∀ (pins : List (Addr × Obj)) (s : Shared), Inv X pins σ H s → wpAny (model X.prog X.w) X.A (isTrue e X.env (eval e X.env)) (TP X pins σ Q) X.xe s
def wpW (X : Cx) (e : Expr) : TT := fun σ H Q => ∀ (whole : Sem Value) (pins : List (Addr × Obj)) (s : Shared), Inv X pins σ H s → wpAny (model X.prog X.w) X.A (isTrue e X.env whole) (TP X pins σ Q) X.xe s
def wpA (X : Cx) (es : List Expr) : TA := fun σ H Q => ∀ (pos : Pos) (pins : List (Addr × Obj)) (s : Shared), Inv X pins σ H s → wpAny (model X.prog X.w) X.A (spliced (backTo pos (starEach es X.env))) (AP X pins σ Q) X.xe s
def wpI (X : Cx) (tg iter : Expr) : TI := fun σ H R => ∀ (pins : List (Addr × Obj)) (s : Shared), Inv X pins σ H s → wpAny (model X.prog X.w) X.A (eval iter X.env) (fun v s1 => wpAny (model X.prog X.w) X.A (pyIter v) (PIE X pins σ tg R) X.xe s1) X.xe s
def wpS (X : Cx) (st : Stmt) : TS := fun D σ H => ∀ (pins : List (Addr × Obj)) (s : Shared), Inv X pins σ H s → wpAny (model X.prog X.w) X.A (exec st X.env) (SP X pins D) X.xe s
def wpB (X : Cx) (st : List Stmt) : TS := fun D σ H => ∀ (pins : List (Addr × Obj)) (s : Shared), Inv X pins σ H s → wpAny (model X.prog X.w) X.A (execs st X.env) (SP X pins D) X.xe s
def wpO (X : Cx) (e : Option Expr) : TO := fun σ H Q => ∀ (pins : List (Addr × Obj)) (s : Shared), Inv X pins σ H s → wpAny (model X.prog X.w) X.A (evalPart e X.env) (fun u s' => ∃ o H', Inv X pins σ H' s' ∧ IsPart u o ∧ Q o H') X.xe s
section
variable {X : Cx}
theorem pe_wp {e : Expr} : PE X e (wpE X e) := ⟨fun pins s _ _ _ I h => h pins s I⟩
theorem pt_wp {e : Expr} : PT X e (wpT X e) := ⟨fun pins s _ _ _ I h => h pins s I⟩
theorem pw_wp {e : Expr} : PW X e (wpW X e) := ⟨fun whole pins s _ _ _ I h => h whole pins s I⟩
theorem pa_wp {es : List Expr} : PA X es (wpA X es) := ⟨fun pos pins s _ _ _ I h => h pos pins s I⟩
theorem pi_wp {tg iter : Expr} : PI X tg iter (wpI X tg iter) := ⟨fun pins s _ _ _ I h => h pins s I⟩
theorem ps_wp {st : Stmt} : PS X st (wpS X st) := ⟨fun pins s _ _ _ I h => h pins s I⟩
theorem pss_wp {st : List Stmt} : PSs X st (wpB X st) := ⟨fun pins s _ _ _ I h => h pins s I⟩
theorem po_wp {e : Option Expr} : PO X e (wpO X e) := ⟨fun pins s _ _ _ I h => h pins s I⟩
theorem PE.wp {e : Expr} {t : TE} {σ : L2.St} {H : Hp} {Q : VK} (d : PE X e t) (h : t σ H Q) : wpE X e σ H Q := fun pins s I => d.run pins s σ H Q I h
theorem PT.wp {e : Expr} {t : TT} {σ : L2.St} {H : Hp} {Q : Bool → Hp → Prop} (d : PT X e t) (h : t σ H Q) : wpT X e σ H Q := fun pins s I => d.run pins s σ H Q I h
theorem PW.wp {e : Expr} {t : TT} {σ : L2.St} {H : Hp} {Q : Bool → Hp → Prop} (d : PW X e t) (h : t σ H Q) : wpW X e σ H Q := fun whole pins s I => d.run whole pins s σ H Q I h
theorem PA.wp {es : List Expr} {t : TA} {σ : L2.St} {H : Hp} {Q : List V → Hp → Prop} (d : PA X es t) (h : t σ H Q) : wpA X es σ H Q := fun pos pins s I => d.run pos pins s σ H Q I h
theorem PI.wp {tg iter : Expr} {t : TI} {σ : L2.St} {H : Hp} {R : It → Hp → Prop} (d : PI X tg iter t) (h : t σ H R) : wpI X tg iter σ H R := fun pins s I => d.run pins s σ H R I h
theorem PS.wp {st : Stmt} {t : TS} {σ : L2.St} {H : Hp} {D : Ends} (d : PS X st t) (h : t D σ H) : wpS X st D σ H := fun pins s I => d.run pins s σ H D I h
theorem PSs.wp {st : List Stmt} {t : TS} {σ : L2.St} {H : Hp} {D : Ends} (d : PSs X st t) (h : t D σ H) : wpB X st D σ H := fun pins s I => d.run pins s σ H D I h
theorem PO.wp {e : Option Expr} {t : TO} {σ : L2.St} {H : Hp} {Q : Option Int → Hp → Prop} (d : PO X e t) (h : t σ H Q) : wpO X e σ H Q := fun pins s I => d.run pins s σ H Q I h
end

structure JE (X : Cx) (K : Fg) (b : Bs) (L : List En) (E : XK) (e : Expr) {α : Type} [Py α] (m : M α) : Prop where
  go : ∀ σ Hi H, EnvOk b L σ Hi H → ∀ Q : VK, PV K E m Hi H Q → wpE X e σ H Q
structure JT (X : Cx) (K : Fg) (b : Bs) (L : List En) (E : XK) (e : Expr) (m : M Bool) : Prop where
  go : ∀ σ Hi H, EnvOk b L σ Hi H → ∀ Q : Bool → Hp → Prop, PX K E m Hi H (fun a _ H' => Q a H') → wpT X e σ H Q
structure JW (X : Cx) (K : Fg) (b : Bs) (L : List En) (E : XK) (e : Expr) (m : M Bool) : Prop where
  go : ∀ σ Hi H, EnvOk b L σ Hi H → ∀ Q : Bool → Hp → Prop, PX K E m Hi H (fun a _ H' => Q a H') → wpW X e σ H Q
/-- an argument list, item by item of one type -/
structure JL (X : Cx) (K : Fg) (b : Bs) (L : List En) (E : XK) (es : List Expr) {α : Type} [Py α] (m : M (List α)) : Prop where
  go : ∀ σ Hi H, EnvOk b L σ Hi H → ∀ Q : List V → Hp → Prop, PX K E m Hi H (fun xs Hi' H' => ∀ vs, Rl K Hi' xs vs → Q vs H') → wpA X es σ H Q
  len : ∀ xs, m = .ok xs → xs.length = es.length
/-- what is walked -/
structure ItOk (K : Fg) {α : Type} [Py α] (J : It) (Hi0 : Hp) (xs : List α) : Prop where
  go : ∀ (i : Nat) (y : α) (Hi H : Hp), Same Hi0 Hi → Same Hi H → xs[i]? = some y → J.go i H ∧ ∀ (x : V) (H' : Hp), J.yld i H x H' → ∃ Hi', Nx Hi H Hi' H' ∧ Py.rep K Hi' y x
  stop : ∀ (i : Nat) (Hi H : Hp), Same Hi0 Hi → Same Hi H → xs.length ≤ i → J.stop i H
structure JI (X : Cx) (K : Fg) (b : Bs) (L : List En) (E : XK) (tg iter : Expr) {α : Type} [Py α] (m : M (List α)) : Prop where
  go : ∀ σ Hi H, EnvOk b L σ Hi H → ∀ R : It → Hp → Prop, PX K E m Hi H (fun xs Hi' H' => ∀ J, ItOk K J Hi' xs → R J H') → wpI X tg iter σ H R
/-- a target: the same rule in each of these contexts -/
structure JG {ι : Type} (X : ι → Cx) (K : Fg) (tg : Expr) (sl : List Nat) {α : Type} [Py α] (u : α → List En → List En) : Prop where
  ex : ∃ g : TG, (∀ i, PG (X i) tg g) ∧ ∀ (b : Bs) (L : List En) (σ : L2.St) (Hi H : Hp) (y : α) (x : V) (Q : L2.St → Hp → Prop), EnvOk b L σ Hi H → Py.rep K Hi y x → (∀ σ', EnvOk b (u y L) σ' Hi H → wipe σ' sl = wipe σ sl → Q σ' H) → g x σ H Q
structure JO (X : Cx) (K : Fg) (b : Bs) (L : List En) (E : XK) (e : Option Expr) (m : M (Option Int)) : Prop where
  go : ∀ σ Hi H, EnvOk b L σ Hi H → ∀ Q : Option Int → Hp → Prop, PX K E m Hi H (fun o _ H' => Q o H') → wpO X e σ H Q
section
variable {X : Cx} {K : Fg} {b : Bs} {L : List En} {E : XK} {e tg : Expr} {es : List Expr} {α : Type} [Py α]
theorem JE.of {m : M α} (h : ∃ t : TE, PE X e t ∧ ∀ σ Hi H, EnvOk b L σ Hi H → ∀ Q : VK, PV K E m Hi H Q → t σ H Q) : JE X K b L E e m := let ⟨_, d, p⟩ := h; ⟨fun σ Hi H en Q z => PE.wp d (p σ Hi H en Q z)⟩
theorem JE.ex {m : M α} (h : JE X K b L E e m) : ∃ t : TE, PE X e t ∧ ∀ σ Hi H, EnvOk b L σ Hi H → ∀ Q : VK, PV K E m Hi H Q → t σ H Q := ⟨_, pe_wp, h.go⟩
theorem JT.of {m : M Bool} (h : ∃ t : TT, PT X e t ∧ ∀ σ Hi H, EnvOk b L σ Hi H → ∀ Q : Bool → Hp → Prop, PX K E m Hi H (fun a _ H' => Q a H') → t σ H Q) : JT X K b L E e m := let ⟨_, d, p⟩ := h; ⟨fun σ Hi H en Q z => PT.wp d (p σ Hi H en Q z)⟩
theorem JT.ex {m : M Bool} (h : JT X K b L E e m) : ∃ t : TT, PT X e t ∧ ∀ σ Hi H, EnvOk b L σ Hi H → ∀ Q : Bool → Hp → Prop, PX K E m Hi H (fun a _ H' => Q a H') → t σ H Q := ⟨_, pt_wp, h.go⟩
theorem JW.of {m : M Bool} (h : ∃ t : TT, PW X e t ∧ ∀ σ Hi H, EnvOk b L σ Hi H → ∀ Q : Bool → Hp → Prop, PX K E m Hi H (fun a _ H' => Q a H') → t σ H Q) : JW X K b L E e m := let ⟨_, d, p⟩ := h; ⟨fun σ Hi H en Q z => PW.wp d (p σ Hi H en Q z)⟩
theorem JW.ex {m : M Bool} (h : JW X K b L E e m) : ∃ t : TT, PW X e t ∧ ∀ σ Hi H, EnvOk b L σ Hi H → ∀ Q : Bool → Hp → Prop, PX K E m Hi H (fun a _ H' => Q a H') → t σ H Q := ⟨_, pw_wp, h.go⟩
theorem JO.of {o : Option Expr} {m : M (Option Int)} (h : ∃ t : TO, PO X o t ∧ ∀ σ Hi H, EnvOk b L σ Hi H → ∀ Q : Option Int → Hp → Prop, PX K E m Hi H (fun a _ H' => Q a H') → t σ H Q) : JO X K b L E o m := let ⟨_, d, p⟩ := h; ⟨fun σ Hi H en Q z => PO.wp d (p σ Hi H en Q z)⟩
theorem JO.ex {o : Option Expr} {m : M (Option Int)} (h : JO X K b L E o m) : ∃ t : TO, PO X o t ∧ ∀ σ Hi H, EnvOk b L σ Hi H → ∀ Q : Option Int → Hp → Prop, PX K E m Hi H (fun a _ H' => Q a H') → t σ H Q := ⟨_, po_wp, h.go⟩
theorem JL.of {m : M (List α)} (h : ∃ t : TA, PA X es t ∧ ∀ σ Hi H, EnvOk b L σ Hi H → ∀ Q : List V → Hp → Prop, PX K E m Hi H (fun xs Hi' H' => ∀ vs, Rl K Hi' xs vs → Q vs H') → t σ H Q) (l : ∀ xs, m = .ok xs → xs.length = es.length) : JL X K b L E es m := let ⟨_, d, p⟩ := h; ⟨fun σ Hi H en Q z => PA.wp d (p σ Hi H en Q z), l⟩
theorem JL.ex {m : M (List α)} (h : JL X K b L E es m) : ∃ t : TA, PA X es t ∧ ∀ σ Hi H, EnvOk b L σ Hi H → ∀ Q : List V → Hp → Prop, PX K E m Hi H (fun xs Hi' H' => ∀ vs, Rl K Hi' xs vs → Q vs H') → t σ H Q := ⟨_, pa_wp, h.go⟩
theorem JI.of {m : M (List α)} (h : ∃ t : TI, PI X tg e t ∧ ∀ σ Hi H, EnvOk b L σ Hi H → ∀ R : It → Hp → Prop, PX K E m Hi H (fun xs Hi' H' => ∀ J, ItOk K J Hi' xs → R J H') → t σ H R) : JI X K b L E tg e m := let ⟨_, d, p⟩ := h; ⟨fun σ Hi H en Q z => PI.wp d (p σ Hi H en Q z)⟩
end
/-- an operation on two values, on one -/
def RO (K : Fg) (E : XK) {α β γ : Type} [Py α] [Py β] [Py γ] (r : R2) (f : α → β → M γ) : Prop :=
  ∀ (x : α) (y : β) (v w : V) (Hi H : Hp) (Q : VK), Same Hi H → Py.rep K Hi x v → Py.rep K Hi y w → PV K E (f x y) Hi H Q → r v w H Q
def RU1 (K : Fg) (E : XK) {α β : Type} [Py α] [Py β] (r : V → Hp → VK → Prop) (f : α → M β) : Prop :=
  ∀ (x : α) (v : V) (Hi H : Hp) (Q : VK), Same Hi H → Py.rep K Hi x v → PV K E (f x) Hi H Q → r v H Q
def RA1 (K : Fg) (E : XK) {α β : Type} [Py α] [Py β] (r : List V → Hp → VK → Prop) (f : α → M β) : Prop :=
  ∀ (x : α) (v : V) (Hi H : Hp) (Q : VK), Same Hi H → Py.rep K Hi x v → PV K E (f x) Hi H Q → r [v] H Q
def RA2 (K : Fg) (E : XK) {α β γ : Type} [Py α] [Py β] [Py γ] (r : List V → Hp → VK → Prop) (f : α → β → M γ) : Prop :=
  ∀ (x : α) (y : β) (v w : V) (Hi H : Hp) (Q : VK), Same Hi H → Py.rep K Hi x v → Py.rep K Hi y w → PV K E (f x y) Hi H Q → r [v, w] H Q
end G

set_option Elab.async false
set_option linter.all false
set_option maxRecDepth 100000
set_option maxHeartbeats 2000000
namespace G
open PySem L2 TL

/-! ### the operations of the mirrors -/
def tx (s : String) : Tx := s.toList.map Char.toNat
theorem S_tx (s : String) : S (tx s) = Str.ofString s := ext_tl (by rw [tl_ofString] <;> rfl)
theorem tl_S (l : Tx) : tl (S l) = l := rfl
theorem S_inj {a b : Tx} (h : S a = S b) : a = b := by
  have := congrArg tl h
  rwa [tl_S, tl_S] at this
theorem S_length (l : Tx) : (S l).length = l.length := by rw [len_tl, tl_S]
theorem dec_S (a b : Tx) : decide (V.str (S a) = V.str (S b)) = decide (a = b) := by
  by_cases h : a = b
  · subst h; simp
  · rw [decide_eq_false h, decide_eq_false (fun z => h (S_inj (V.str.inj z)))]
instance {i j : Int} : Decidable (CMul i j) := by unfold CMul; infer_instance
instance {i j : Int} : Decidable (CDiv i j) := by unfold CDiv; infer_instance
instance {i j : Int} : Decidable (CPow i j) := by unfold CPow; infer_instance
def mulI (i j : Int) : M Int := chk (CMul i j) >>= fun _ => pure (i * j)
def modI (i j : Int) : M Int := chk (0 < j) >>= fun _ => pure (i % j)
def divI (i j : Int) : M Int := chk (CDiv i j) >>= fun _ => pure (i / j)
def powI (i j : Int) : M Int := chk (CPow i j) >>= fun _ => pure (i ^ j.toNat)
def addT (a c : Tx) : M Tx := chk (a.length + c.length ≤ SZ) >>= fun _ => pure (a ++ c)
def inS (x t : Tx) : M Bool := match x with
  | [c] => pure (decide (c ∈ t))
  | _ => stuck
def cut {α : Type} (xs : List α) (lo hi : Option Int) : List α := (xs.drop (HT.sIx xs.length 0 lo)).take (HT.sIx xs.length xs.length hi - HT.sIx xs.length 0 lo)
def cutT (x : Tx) (lo hi : Option Int) : M Tx := chk (x.length ≤ SZ) >>= fun _ => pure (cut x lo hi)
def lenT (x : Tx) : M Int := chk (x.length ≤ SZ) >>= fun _ => pure (x.length : Int)
def atT (x : Tx) (i : Int) : M Tx := chk (x.length ≤ SZ) >>= fun _ => ofO (atI x i) >>= fun c => pure [c]
def atL {α : Type} (xs : List α) (i : Int) : M α := ofO (atI xs i)
def joinM (s : Tx) (xs : List Tx) : M Tx := chk ((xs.map (·.length)).sum + xs.length * s.length ≤ 16777216) >>= fun _ => pure (joinL s xs)
/-- no raise is let out -/
def nr {α : Type} : M α → M α
  | .ok a => .ok a
  | .error _ => .error .st
def lcM {α β : Type} (xs : List α) (f : α → M β) : M (List β) := chk (xs.length ≤ SZ) >>= fun _ => nr (xs.mapM f)
/-- with a test -/
def lcF {α β : Type} (xs : List α) (t : α → M Bool) (f : α → M β) : M (List β) := chk (xs.length ≤ SZ) >>= fun _ => nr (xs.foldlM (fun acc x => t x >>= fun c => if c = true then f x >>= fun y => pure (acc ++ [y]) else pure acc) [])

section
variable {K : Fg} {E : XK} {α β γ δ : Type} {a : α} {Hi H Hi' H' : Hp} {k : α → Hp → Hp → Prop}
theorem PX.here (h : PX K E (pure a) Hi H k) (s : Same Hi H) : k a Hi H := (show ∀ Hi' H', Nx Hi H Hi' H' → k a Hi' H' from h) Hi H (Nx.refl s)
theorem PX.go (h : PX K E (pure a) Hi H k) (x : Nx Hi H Hi' H') : k a Hi' H' := (show ∀ Hi' H', Nx Hi H Hi' H' → k a Hi' H' from h) Hi' H' x
end

section
variable {K : Fg} {E : XK}
theorem ro_add : RO K E (rI0 fun i j => .int (i + j)) (fun i j : Int => (pure (i + j) : M Int)) := by
  rintro i j v w Hi H Q s rfl rfl h
  exact ⟨i, j, rfl, rfl, h.here s _ rfl⟩
theorem ro_sub : RO K E (rI0 fun i j => .int (i - j)) (fun i j : Int => (pure (i - j) : M Int)) := by
  rintro i j v w Hi H Q s rfl rfl h
  exact ⟨i, j, rfl, rfl, h.here s _ rfl⟩
theorem ro_mul : RO K E (rI CMul fun i j => .int (i * j)) mulI := by
  rintro i j v w Hi H Q s rfl rfl h
  obtain ⟨c, h⟩ := PX.chk h
  exact ⟨i, j, rfl, rfl, c, h.here s _ rfl⟩
theorem ro_mod : RO K E (rI (fun _ j => 0 < j) fun i j => .int (i % j)) modI := by
  rintro i j v w Hi H Q s rfl rfl h
  obtain ⟨c, h⟩ := PX.chk h
  exact ⟨i, j, rfl, rfl, c, h.here s _ rfl⟩
theorem ro_div : RO K E (rI CDiv fun i j => .int (i / j)) divI := by
  rintro i j v w Hi H Q s rfl rfl h
  obtain ⟨c, h⟩ := PX.chk h
  exact ⟨i, j, rfl, rfl, c, h.here s _ rfl⟩
theorem ro_pow : RO K E (rI CPow fun i j => .int (i ^ j.toNat)) powI := by
  rintro i j v w Hi H Q s rfl rfl h
  obtain ⟨c, h⟩ := PX.chk h
  exact ⟨i, j, rfl, rfl, c, h.here s _ rfl⟩
theorem ro_lt : RO K E (rI0 fun i j => .bl (decide (i < j))) (fun i j : Int => (pure (decide (i < j)) : M Bool)) := by
  rintro i j v w Hi H Q s rfl rfl h
  exact ⟨i, j, rfl, rfl, h.here s _ rfl⟩
theorem ro_le : RO K E (rI0 fun i j => .bl (decide (i ≤ j))) (fun i j : Int => (pure (decide (i ≤ j)) : M Bool)) := by
  rintro i j v w Hi H Q s rfl rfl h
  exact ⟨i, j, rfl, rfl, h.here s _ rfl⟩
theorem ro_gt : RO K E (rI0 fun i j => .bl (decide (j < i))) (fun i j : Int => (pure (decide (j < i)) : M Bool)) := by
  rintro i j v w Hi H Q s rfl rfl h
  exact ⟨i, j, rfl, rfl, h.here s _ rfl⟩
theorem ro_ge : RO K E (rI0 fun i j => .bl (decide (j ≤ i))) (fun i j : Int => (pure (decide (j ≤ i)) : M Bool)) := by
  rintro i j v w Hi H Q s rfl rfl h
  exact ⟨i, j, rfl, rfl, h.here s _ rfl⟩
theorem dec_i {i j : Int} : decide (V.int i = V.int j) = decide (i = j) := by
  by_cases h : i = j
  · subst h; simp
  · rw [decide_eq_false h, decide_eq_false (fun z => h (V.int.inj z))]
theorem dec_b {i j : Bool} : decide (V.bl i = V.bl j) = decide (i = j) := by
  by_cases h : i = j
  · subst h; simp
  · rw [decide_eq_false h, decide_eq_false (fun z => h (V.bl.inj z))]
theorem ro_eqI : RO K E rEq (fun i j : Int => (pure (decide (i = j)) : M Bool)) := by
  rintro i j v w Hi H Q s rfl rfl h
  exact ⟨rfl, h.here s _ (congrArg V.bl dec_i)⟩
theorem ro_neI : RO K E rNe (fun i j : Int => (pure (!decide (i = j)) : M Bool)) := by
  rintro i j v w Hi H Q s rfl rfl h
  exact ⟨rfl, h.here s _ (congrArg (fun z => V.bl (!z)) dec_i)⟩
theorem ro_eqB : RO K E rEq (fun i j : Bool => (pure (decide (i = j)) : M Bool)) := by
  rintro i j v w Hi H Q s rfl rfl h
  exact ⟨rfl, h.here s _ (congrArg V.bl dec_b)⟩
theorem ro_neB : RO K E rNe (fun i j : Bool => (pure (!decide (i = j)) : M Bool)) := by
  rintro i j v w Hi H Q s rfl rfl h
  exact ⟨rfl, h.here s _ (congrArg (fun z => V.bl (!z)) dec_b)⟩
theorem ro_eqT : RO K E rEq (fun i j : Tx => (pure (decide (i = j)) : M Bool)) := by
  rintro i j v w Hi H Q s rfl rfl h
  exact ⟨rfl, h.here s _ (congrArg V.bl (dec_S i j))⟩
theorem ro_neT : RO K E rNe (fun i j : Tx => (pure (!decide (i = j)) : M Bool)) := by
  rintro i j v w Hi H Q s rfl rfl h
  exact ⟨rfl, h.here s _ (congrArg (fun z => V.bl (!z)) (dec_S i j))⟩
theorem ro_addT : RO K E (fun x y H Q => ∃ i j, x = .str i ∧ y = .str j ∧ i.length + j.length ≤ sizeLine ∧ Q (.str (i ++ j)) H) addT := by
  rintro i j v w Hi H Q s rfl rfl h
  obtain ⟨c, h⟩ := PX.chk h
  refine ⟨S i, S j, rfl, rfl, by rw [S_length, S_length]; exact c, h.here s _ ?_⟩
  exact congrArg V.str (ext_tl (by rw [tl_append] <;> rfl))
theorem ro_in : RO K E rInS inS := by
  rintro i j v w Hi H Q s rfl rfl h
  match i, h with
  | [], h => exact h.elim
  | [c], h => exact ⟨c, S j, rfl, rfl, PX.here h s _ rfl⟩
  | _ :: _ :: _, h => exact h.elim
theorem ro_notIn : RO K E rNotInS (fun x y => inS x y >>= fun c => pure (!c)) := by
  rintro i j v w Hi H Q s rfl rfl h
  match i, h with
  | [], h => exact h.elim
  | [c], h => exact ⟨c, S j, rfl, rfl, PX.here (show PX K E (pure (!(decide (c ∈ j)))) Hi H _ from h) s _ rfl⟩
  | _ :: _ :: _, h => exact h.elim
theorem Rl.at {α : Type} [Py α] {H : Hp} : ∀ {xs : List α} {vs : List V} (_ : Rl K H xs vs) {j : Nat} {a : α}, xs[j]? = some a → ∃ v, vs[j]? = some v ∧ Py.rep K H a v
  | _, _, .nil, j, a, e => by simp at e
  | _, _, .cons r _, 0, a, e => by
    simp at e; subst e
    exact ⟨_, rfl, r⟩
  | _, _, .cons _ t, j + 1, a, e => by
    obtain ⟨v, h1, h2⟩ := Rl.at (xs := _) (vs := _) t (j := j) (by simpa using e)
    exact ⟨v, by simpa using h1, h2⟩
theorem Rl.length {α : Type} [Py α] {H : Hp} {xs : List α} {vs : List V} (h : Rl K H xs vs) : xs.length = vs.length := Paired.length h
theorem Rl.atI {α : Type} [Py α] {H : Hp} {xs : List α} {vs : List V} (h : Rl K H xs vs) {i : Int} {a : α} (e : atI xs i = some a) : ∃ v, L2.atI vs i = some v ∧ Py.rep K H a v := by
  unfold L2.atI at e ⊢
  rw [h.length] at e
  cases q : ixN vs.length i with
  | none => rw [q] at e; cases e
  | some j =>
    rw [q] at e
    exact h.at (j := j) e
theorem Rl.app {α : Type} [Py α] {H : Hp} : ∀ {xs ys : List α} {vs ws : List V}, Rl K H xs vs → Rl K H ys ws → Rl K H (xs ++ ys) (vs ++ ws)
  | _, _, _, _, .nil, s => s
  | _, _, _, _, .cons r t, s => .cons r (Rl.app t s)
theorem Rl.take {α : Type} [Py α] {H : Hp} : ∀ {xs : List α} {vs : List V} (n : Nat), Rl K H xs vs → Rl K H (xs.take n) (vs.take n)
  | _, _, 0, _ => .nil
  | _, _, _ + 1, .nil => .nil
  | _, _, n + 1, .cons r t => .cons r (Rl.take n t)
theorem Rl.drop {α : Type} [Py α] {H : Hp} : ∀ {xs : List α} {vs : List V} (n : Nat), Rl K H xs vs → Rl K H (xs.drop n) (vs.drop n)
  | _, _, 0, r => r
  | _, _, _ + 1, .nil => .nil
  | _, _, n + 1, .cons _ t => Rl.drop n t
theorem Rl.set {α : Type} [Py α] {H : Hp} {a : α} {v : V} (r : Py.rep K H a v) : ∀ {xs : List α} {vs : List V} (n : Nat), Rl K H xs vs → Rl K H (xs.set n a) (vs.set n v)
  | _, _, _, .nil => .nil
  | _, _, 0, .cons _ t => .cons r t
  | _, _, n + 1, .cons q t => .cons q (Rl.set r n t)
theorem Rl.cut {α : Type} [Py α] {H : Hp} {xs : List α} {vs : List V} (h : Rl K H xs vs) (lo hi : Option Int) : Rl K H (G.cut xs lo hi) (cutV vs lo hi) := by
  unfold G.cut cutV
  rw [h.length]
  exact (h.drop _).take _
theorem Rl.tx : ∀ {xs : List Tx} {vs : List V} {H : Hp}, Rl K H xs vs → vs = (xs.map S).map V.str
  | _, _, _, .nil => rfl
  | x :: xs, v :: vs, H, .cons r t => by
    have r' : v = V.str (S x) := r
    rw [r', List.map_cons, List.map_cons, Rl.tx t]
theorem Rl.ints : ∀ {xs : List Int} {vs : List V} {H : Hp}, Rl K H xs vs → vs = xs.map V.int
  | _, _, _, .nil => rfl
  | x :: xs, v :: vs, H, .cons r t => by
    have r' : v = V.int x := r
    rw [r', List.map_cons, Rl.ints t]
theorem rl_ints {H : Hp} : ∀ xs : List Int, Rl K H xs (xs.map V.int)
  | [] => .nil
  | _ :: r => .cons rfl (rl_ints r)
theorem ro_ixL {α : Type} [Py α] : RO K E (rIxL K) (fun (xs : List α) (i : Int) => atL xs i) := by
  rintro xs i v w Hi H Q s ⟨p, vs, rfl, h1, h2⟩ rfl h
  obtain ⟨a, e, h⟩ := PX.ofO1 h
  obtain ⟨u, e1, r⟩ := h2.atI e
  exact ⟨p, vs, i, u, rfl, rfl, Same.seq s h1, e1, h.here s _ r⟩
theorem ro_ixU {α : Type} [Py α] : RO K E (rIxT K) (fun (xs : Tup α) (i : Int) => atL (α := α) xs i) := by
  rintro xs i v w Hi H Q s ⟨p, vs, rfl, h1, h2⟩ rfl h
  obtain ⟨a, e, h⟩ := PX.ofO1 h
  obtain ⟨u, e1, r⟩ := h2.atI e
  exact ⟨p, vs, i, u, rfl, rfl, sqt_mono s h1, e1, h.here s _ r⟩
theorem ro_ixS : RO K E rIxS atT := by
  rintro x i v w Hi H Q s rfl rfl h
  obtain ⟨c, h⟩ := PX.chk h
  obtain ⟨a, e, h⟩ := PX.ofO h
  exact ⟨S x, i, a, rfl, rfl, by rw [S_length]; exact c, e, h.here s _ rfl⟩
theorem join_S (s : Tx) (xs : List Tx) : Txt.join (S s) (xs.map S) = S (joinL s xs) := by
  refine ext_tl ?_
  have e : (xs.map S).map tl = xs := by rw [List.map_map]; exact List.map_id' xs
  rw [join_eq, tl_join, tl_S, tl_S, e]
theorem lens_S (xs : List Tx) : ((xs.map S).map fun y : Str => y.length) = xs.map fun y : Tx => List.length y := by
  rw [List.map_map]
  exact List.map_congr_left fun a _ => S_length a
abbrev rJoin (K : Fg) : V → List V → Hp → VK → Prop := fun x xs H Q => ∃ a p, ∃ ys : List Str, x = .str a ∧ xs = [.ref p] ∧ (SqL K H p (ys.map V.str) ∨ SqT K H p (ys.map V.str)) ∧
    (ys.map (·.length)).sum + ys.length * a.length ≤ 16777216 ∧ Q (.str (Txt.join a ys)) H
def RM1 (K : Fg) (E : XK) {α β γ : Type} [Py α] [Py β] [Py γ] (r : V → List V → Hp → VK → Prop) (f : α → β → M γ) : Prop :=
  ∀ (x : α) (y : β) (v w : V) (Hi H : Hp) (Q : VK), Same Hi H → Py.rep K Hi x v → Py.rep K Hi y w → PV K E (f x y) Hi H Q → r v [w] H Q
def RM0 (K : Fg) (E : XK) {α β : Type} [Py α] [Py β] (r : V → List V → Hp → VK → Prop) (f : α → M β) : Prop :=
  ∀ (x : α) (v : V) (Hi H : Hp) (Q : VK), Same Hi H → Py.rep K Hi x v → PV K E (f x) Hi H Q → r v [] H Q
theorem join_core {x : Tx} {xs : List Tx} {p : Addr} {vs : List V} {Hi0 Hi H : Hp} {Q : VK} (s : Same Hi H) (h2 : Rl K Hi0 xs vs) (h : PV K E (joinM x xs) Hi H Q) (hs : SqL K H p vs ∨ SqT K H p vs) : rJoin K (.str (S x)) [.ref p] H Q := by
  obtain ⟨c, h⟩ := PX.chk h
  rw [h2.tx] at hs
  refine ⟨S x, p, xs.map S, rfl, rfl, hs, ?_, ?_⟩
  · show (List.map (fun y : Str => y.length) (List.map S xs)).sum + (List.map S xs).length * (S x).length ≤ 16777216
    rw [lens_S, List.length_map, S_length]; exact c
  · rw [join_S]; exact h.here s _ rfl
theorem rm_join : RM1 K E (rJoin K) joinM := by
  rintro x xs v w Hi H Q s rfl ⟨p, vs, rfl, h1, h2⟩ h
  exact join_core s h2 h (.inl (Same.seq s h1))
theorem rm_joinU : RM1 K E (rJoin K) (fun (s : Tx) (xs : Tup Tx) => joinM s xs) := by
  rintro x xs v w Hi H Q s rfl ⟨p, vs, rfl, h1, h2⟩ h
  exact join_core s h2 h (.inr (sqt_mono s h1))
theorem ra_lenL {α : Type} [Py α] : RA1 K E (fun xs H Q => ∃ p ys, xs = [.ref p] ∧ (SqL K H p ys ∨ SqT K H p ys) ∧ Q (.int ys.length) H) (fun xs : List α => (pure (xs.length : Int) : M Int)) := by
  rintro xs v Hi H Q s ⟨p, vs, rfl, h1, h2⟩ h
  exact ⟨p, vs, rfl, .inl (Same.seq s h1), h.here s _ (by rw [h2.length]; rfl)⟩
theorem ra_lenU {α : Type} [Py α] : RA1 K E (fun xs H Q => ∃ p ys, xs = [.ref p] ∧ (SqL K H p ys ∨ SqT K H p ys) ∧ Q (.int ys.length) H) (fun xs : Tup α => (pure ((List.length (α := α) xs : Nat) : Int) : M Int)) := by
  rintro xs v Hi H Q s ⟨p, vs, rfl, h1, h2⟩ h
  exact ⟨p, vs, rfl, .inr (sqt_mono s h1), h.here s _ (by rw [h2.length]; rfl)⟩
theorem ra_lenS : RA1 K E (fun xs H Q => ∃ z, xs = [.str z] ∧ z.length ≤ sizeLine ∧ Q (.int z.length) H) lenT := by
  rintro xs v Hi H Q s rfl h
  obtain ⟨c, h⟩ := PX.chk h
  exact ⟨S xs, rfl, by rw [S_length]; exact c, h.here s _ (by rw [S_length]; rfl)⟩
end

section
variable {X : Cx} {K : Fg} {mg : Str → Option Value} {b : Bs} {L : List En} {E : XK} {e e1 e2 e3 : Expr} {es : List Expr} {α β γ δ : Type} [Py α] [Py β] [Py γ] [Py δ] {m1 : M α} {m2 : M β} {m3 : M γ} {pos : Pos}
theorem je_var (i : Nat) {x : Str} {a : α} (hL : L[i]? = some (.im (rp K a))) (hN : X.N[i]? = some x := by rfl)
    (hv : Vis X.env.scope x := by first | exact Or.inl rfl | exact Or.inr (Or.inl rfl) | exact Or.inr (Or.inr rfl)) (hd : (x == ("__debug__" : Str)) = false := by decide)
    (hcd : (x == ("__classdict__" : Str)) = false := by decide) : JE X K b L E (.Name x pos) (pure a : M α) :=
  .of ⟨tVar i, pe_var hN hv hd hcd, fun σ Hi H en Q h => by
    obtain ⟨v, h1, h2⟩ := en.im i _ hL
    exact ⟨v, h1, h.here en.sub v h2⟩⟩
theorem je_int {i : Int} {j : Nat} : JE X K b L E (.Constant (.int i) j pos) (pure i : M Int) := .of ⟨tC (.int i), pe_int, fun σ Hi H en Q h => h.here en.sub _ rfl⟩
theorem je_bl {i : Bool} {j : Nat} : JE X K b L E (.Constant (.bool i) j pos) (pure i : M Bool) := .of ⟨tC (.bl i), pe_bl, fun σ Hi H en Q h => h.here en.sub _ rfl⟩
theorem je_non {j : Nat} : JE X K b L E (.Constant .none j pos) (pure none : M (Option α)) := .of ⟨tC .non, pe_non, fun σ Hi H en Q h => h.here en.sub _ rfl⟩
theorem je_unit {j : Nat} : JE X K b L E (.Constant .none j pos) (pure () : M Unit) := .of ⟨tC .non, pe_non, fun σ Hi H en Q h => h.here en.sub _ rfl⟩
theorem je_str {s : String} {j : Nat} : JE X K b L E (.Constant (.str (Str.ofString s)) j pos) (pure (tx s) : M Tx) := .of ⟨tC (.str (Str.ofString s)), pe_str, fun σ Hi H en Q h => h.here en.sub _ (by rw [← S_tx] <;> rfl)⟩
/-- a text of the module -/
theorem je_gstr {x : Str} {s : String} (hm : ∃ t, mg x = some (.str (Str.ofString s) t)) (hM : X.mg = mg := by rfl) (hg : Gl X x := by rfl) (hd : (x == ("__debug__" : Str)) = false := by decide) :
    JE X K b L E (.Name x pos) (pure (tx s) : M Tx) := by
  obtain ⟨t, hm⟩ := hm
  exact .of ⟨tC (.str (Str.ofString s)), pe_glob hg (by rw [hM]; exact hm) ⟨t, rfl⟩ hd, fun σ Hi H en Q h => h.here en.sub _ (by rw [← S_tx] <;> rfl)⟩
theorem je_gint {x : Str} {n : Int} (hm : ∃ t, mg x = some (.int n t)) (hM : X.mg = mg := by rfl) (hg : Gl X x := by rfl) (hd : (x == ("__debug__" : Str)) = false := by decide) :
    JE X K b L E (.Name x pos) (pure n : M Int) := by
  obtain ⟨t, hm⟩ := hm
  exact .of ⟨tC (.int n), pe_glob hg (by rw [hM]; exact hm) ⟨t, rfl⟩ hd, fun σ Hi H en Q h => h.here en.sub _ rfl⟩
/-- an object of the module -/
theorem je_gref {x : Str} {a : α} (hm : mg x = some (.ref (He.ga K x))) (hr : ∀ H, Py.rep K H a (.ref (He.ga K x))) (hM : X.mg = mg := by rfl) (hg : Gl X x := by rfl) (hd : (x == ("__debug__" : Str)) = false := by decide) :
    JE X K b L E (.Name x pos) (pure a : M α) :=
  .of ⟨tC (.ref (He.ga K x)), pe_glob hg (by rw [hM]; exact hm) rfl hd, fun σ Hi H en Q h => h.here en.sub _ (hr _)⟩

theorem tOp_ok {r : R2} {f : α → β → M γ} {ta tb : TE} (hr : RO K E r f) (p1 : ∀ σ Hi H, EnvOk b L σ Hi H → ∀ Q : VK, PV K E m1 Hi H Q → ta σ H Q) (p2 : ∀ σ Hi H, EnvOk b L σ Hi H → ∀ Q : VK, PV K E m2 Hi H Q → tb σ H Q) :
    ∀ σ Hi H, EnvOk b L σ Hi H → ∀ Q : VK, PV K E (m1 >>= fun x => m2 >>= fun y => f x y) Hi H Q → tOp r ta tb σ H Q := fun σ Hi H en Q h =>
  p1 σ Hi H en _ (h.bind.imp fun x Hi1 H1 n1 k v rv => p2 σ Hi1 H1 (en.nx n1) _ (k.bind.imp fun y Hi2 H2 n2 k2 w rw => hr x y v w Hi2 H2 Q n2.sub (Py.mono n2.im rv) rw k2))
theorem je_bin {op : Operator} {r : R2} {f : α → β → M γ} (ho : OpR X (binaryOp op) r) (hr : RO K E r f) (h1 : JE X K b L E e1 m1) (h2 : JE X K b L E e2 m2) : JE X K b L E (.BinOp e1 op e2 pos) (m1 >>= fun x => m2 >>= fun y => f x y) := by
  obtain ⟨t1, d1, p1⟩ := h1.ex
  obtain ⟨t2, d2, p2⟩ := h2.ex
  exact .of ⟨tOp r t1 t2, pe_op ho d1 d2, tOp_ok hr p1 p2⟩
theorem je_cmp {op : CmpOp} {r : R2} {f : α → β → M γ} (ho : OpR X (compareOp op) r) (hr : RO K E r f) (h1 : JE X K b L E e1 m1) (h2 : JE X K b L E e2 m2) (hm : behindInMarks op e2 = false := by first | exact nomark _ | rfl) :
    JE X K b L E (.Compare e1 [op] [e2] pos) (m1 >>= fun x => m2 >>= fun y => f x y) := by
  obtain ⟨t1, d1, p1⟩ := h1.ex
  obtain ⟨t2, d2, p2⟩ := h2.ex
  exact .of ⟨tOp r t1 t2, pe_cmpR ho d1 d2 hm, tOp_ok hr p1 p2⟩
theorem jt_cmp {op : CmpOp} {r : R2} {f : α → β → M Bool} (ho : OpR X (compareOp op) r) (hr : RO K E r f) (h1 : JE X K b L E e1 m1) (h2 : JE X K b L E e2 m2) (hm : behindInMarks op e2 = false := by first | exact nomark _ | rfl) :
    JT X K b L E (.Compare e1 [op] [e2] pos) (m1 >>= fun x => m2 >>= fun y => f x y) := by
  obtain ⟨t1, d1, p1⟩ := h1.ex
  obtain ⟨t2, d2, p2⟩ := h2.ex
  refine .of ⟨tTest (tOp r t1 t2), pt_cmpR ho d1 d2 hm, fun σ Hi H en Q h => tOp_ok hr p1 p2 σ Hi H en _ (h.imp fun c Hi' H' _ q v rv => ?_)⟩
  exact ⟨c, rv, q⟩
theorem je_ix {r : R2} {f : α → β → M γ} (ho : IxR X r) (hr : RO K E r f) (h1 : JE X K b L E e1 m1) (h2 : JE X K b L E e2 m2) (hs : PlainIx e2 := by exact fun _ _ => rfl) :
    JE X K b L E (.Subscript e1 e2 pos) (m1 >>= fun x => m2 >>= fun y => f x y) := by
  obtain ⟨t1, d1, p1⟩ := h1.ex
  obtain ⟨t2, d2, p2⟩ := h2.ex
  exact .of ⟨tOp r t1 t2, pe_ix ho d1 d2 hs, tOp_ok hr p1 p2⟩
theorem tChain_ok {r r' : R2} {f : α → β → M Bool} {f' : β → γ → M Bool} {ta tb tc : TE} (hr : RO K E r f) (hr' : RO K E r' f') (p1 : ∀ σ Hi H, EnvOk b L σ Hi H → ∀ Q : VK, PV K E m1 Hi H Q → ta σ H Q)
    (p2 : ∀ σ Hi H, EnvOk b L σ Hi H → ∀ Q : VK, PV K E m2 Hi H Q → tb σ H Q) (p3 : ∀ σ Hi H, EnvOk b L σ Hi H → ∀ Q : VK, PV K E m3 Hi H Q → tc σ H Q) :
    ∀ σ Hi H, EnvOk b L σ Hi H → ∀ Q : VK, PV K E (m1 >>= fun x => m2 >>= fun y => f x y >>= fun c => if c = true then m3 >>= fun z => f' y z else pure false) Hi H Q → tChain r r' ta tb tc σ H Q := fun σ Hi H en Q h =>
  p1 σ Hi H en _ (h.bind.imp fun x Hi1 H1 n1 k v rv => p2 σ Hi1 H1 (en.nx n1) _ (k.bind.imp fun y Hi2 H2 n2 k2 w rw => hr x y v w Hi2 H2 _ n2.sub (Py.mono n2.im rv) rw (k2.bind.imp fun c Hi3 H3 n3 k3 u ru => by
    refine ⟨c, ru, ?_⟩
    cases c with
    | true =>
      rw [if_pos rfl] at k3 ⊢
      exact p3 σ Hi3 H3 (((en.nx n1).nx n2).nx n3) _ (k3.bind.imp fun z Hi4 H4 n4 k4 u2 ru2 => hr' y z w u2 Hi4 H4 Q n4.sub (Py.mono (n3.im.trans n4.im) rw) ru2 k4)
    | false =>
      rw [if_neg Bool.false_ne_true] at k3 ⊢
      exact k3.here n3.sub _ rfl)))
theorem je_chain {op op' : CmpOp} {r r' : R2} {f : α → β → M Bool} {f' : β → γ → M Bool} (ho : OpR X (compareOp op) r) (hr : RO K E r f) (ho' : OpR X (compareOp op') r') (hr' : RO K E r' f') (h1 : JE X K b L E e1 m1) (h2 : JE X K b L E e2 m2) (h3 : JE X K b L E e3 m3)
    (hm : lastMarks [op, op'] [e2, e3] = false := by with_unfolding_all rfl) : JE X K b L E (.Compare e1 [op, op'] [e2, e3] pos) (m1 >>= fun x => m2 >>= fun y => f x y >>= fun c => if c = true then m3 >>= fun z => f' y z else pure false) := by
  obtain ⟨t1, d1, p1⟩ := h1.ex
  obtain ⟨t2, d2, p2⟩ := h2.ex
  obtain ⟨t3, d3, p3⟩ := h3.ex
  exact .of ⟨tChain r r' t1 t2 t3, pe_chain ho ho' d1 d2 d3 hm, tChain_ok hr hr' p1 p2 p3⟩
theorem jt_chain {op op' : CmpOp} {r r' : R2} {f : α → β → M Bool} {f' : β → γ → M Bool} (ho : OpR X (compareOp op) r) (hr : RO K E r f) (ho' : OpR X (compareOp op') r') (hr' : RO K E r' f') (h1 : JE X K b L E e1 m1) (h2 : JE X K b L E e2 m2) (h3 : JE X K b L E e3 m3)
    (hm : lastMarks [op, op'] [e2, e3] = false := by with_unfolding_all rfl) : JT X K b L E (.Compare e1 [op, op'] [e2, e3] pos) (m1 >>= fun x => m2 >>= fun y => f x y >>= fun c => if c = true then m3 >>= fun z => f' y z else pure false) := by
  obtain ⟨t1, d1, p1⟩ := h1.ex
  obtain ⟨t2, d2, p2⟩ := h2.ex
  obtain ⟨t3, d3, p3⟩ := h3.ex
  refine .of ⟨tTest (tChain r r' t1 t2 t3), pt_chain ho ho' d1 d2 d3 hm, fun σ Hi H en Q h => tChain_ok hr hr' p1 p2 p3 σ Hi H en _ (h.imp fun c Hi' H' _ q v rv => ?_)⟩
  exact ⟨c, rv, q⟩

/-! tests, and, or, not -/
theorem jt_val {m : M Bool} (h : JE X K b L E e m) (he : ∀ whole, isTrue e X.env whole = (do let v ← whole; standAt e.pos; holding [v] (truthy v)) := by intro _; rfl) : JT X K b L E e m := by
  obtain ⟨t, d, p⟩ := h.ex
  refine .of ⟨tB t, pt_val d he, fun σ Hi H en Q h => p σ Hi H en _ (h.imp fun c Hi' H' _ q v rv => ⟨c, rv, q⟩)⟩
theorem jw_jt {m : M Bool} (h : JW X K b L E e m) : JT X K b L E e m := by
  obtain ⟨t, d, p⟩ := h.ex
  exact .of ⟨t, d.pt, p⟩
variable {ma mb : M Bool} {rest : List Expr}
theorem jt_not (h : JT X K b L E e ma) : JT X K b L E (.UnaryOp .Not e pos) (ma >>= fun c => pure (!c)) := by
  obtain ⟨t, d, p⟩ := h.ex
  exact .of ⟨tNot t, pt_not d, fun σ Hi H en Q h => p σ Hi H en _ (h.bind.imp fun c Hi' H' n q => q.here n.sub)⟩
theorem jw_and1 (h : JT X K b L E e ma) : JW X K b L E (.BoolOp .And [e] pos) ma := by
  obtain ⟨t, d, p⟩ := h.ex
  exact .of ⟨t, pw_and1 d, p⟩
theorem jw_or1 (h : JT X K b L E e ma) : JW X K b L E (.BoolOp .Or [e] pos) ma := by
  obtain ⟨t, d, p⟩ := h.ex
  exact .of ⟨t, pw_or1 d, p⟩
theorem jw_and (h : JT X K b L E e1 ma) (h2 : JW X K b L E (.BoolOp .And (e2 :: rest) pos) mb) : JW X K b L E (.BoolOp .And (e1 :: e2 :: rest) pos) (ma >>= fun c => if c = true then mb else pure false) := by
  obtain ⟨t, d, p⟩ := h.ex
  obtain ⟨t2, d2, p2⟩ := h2.ex
  refine .of ⟨tAnd t t2, pw_and d d2, fun σ Hi H en Q h => p σ Hi H en _ (h.bind.imp fun c Hi' H' n q => ?_)⟩
  cases c with
  | true =>
    rw [if_pos rfl] at q ⊢
    exact p2 σ Hi' H' (en.nx n) Q q
  | false =>
    rw [if_neg Bool.false_ne_true] at q ⊢
    exact q.here n.sub
theorem jw_or (h : JT X K b L E e1 ma) (h2 : JW X K b L E (.BoolOp .Or (e2 :: rest) pos) mb) : JW X K b L E (.BoolOp .Or (e1 :: e2 :: rest) pos) (ma >>= fun c => if c = true then pure true else mb) := by
  obtain ⟨t, d, p⟩ := h.ex
  obtain ⟨t2, d2, p2⟩ := h2.ex
  refine .of ⟨tOr t t2, pw_or d d2, fun σ Hi H en Q h => p σ Hi H en _ (h.bind.imp fun c Hi' H' n q => ?_)⟩
  cases c with
  | true =>
    rw [if_pos rfl] at q ⊢
    exact q.here n.sub
  | false =>
    rw [if_neg Bool.false_ne_true] at q ⊢
    exact p2 σ Hi' H' (en.nx n) Q q
theorem je_one {op : BoolOp} (h : JE X K b L E e ma) : JE X K b L E (.BoolOp op [e] pos) ma := by
  obtain ⟨t, d, p⟩ := h.ex
  exact .of ⟨t, pe_one d, p⟩
theorem je_and (h : JE X K b L E e1 ma) (h2 : JE X K b L E (.BoolOp .And (e2 :: rest) pos) mb) : JE X K b L E (.BoolOp .And (e1 :: e2 :: rest) pos) (ma >>= fun c => if c = true then mb else pure false) := by
  obtain ⟨t, d, p⟩ := h.ex
  obtain ⟨t2, d2, p2⟩ := h2.ex
  refine .of ⟨tAndV t t2, pe_and d d2, fun σ Hi H en Q h => p σ Hi H en _ (h.bind.imp fun c Hi' H' n q v rv => ⟨c, rv, ?_⟩)⟩
  cases c with
  | true =>
    rw [if_pos rfl] at q ⊢
    exact p2 σ Hi' H' (en.nx n) Q q
  | false =>
    rw [if_neg Bool.false_ne_true] at q ⊢
    exact q.here n.sub _ rfl
theorem je_or (h : JE X K b L E e1 ma) (h2 : JE X K b L E (.BoolOp .Or (e2 :: rest) pos) mb) : JE X K b L E (.BoolOp .Or (e1 :: e2 :: rest) pos) (ma >>= fun c => if c = true then pure true else mb) := by
  obtain ⟨t, d, p⟩ := h.ex
  obtain ⟨t2, d2, p2⟩ := h2.ex
  refine .of ⟨tOrV t t2, pe_or d d2, fun σ Hi H en Q h => p σ Hi H en _ (h.bind.imp fun c Hi' H' n q v rv => ⟨c, rv, ?_⟩)⟩
  cases c with
  | true =>
    rw [if_pos rfl] at q ⊢
    exact q.here n.sub _ rfl
  | false =>
    rw [if_neg Bool.false_ne_true] at q ⊢
    exact p2 σ Hi' H' (en.nx n) Q q
theorem je_not (h : JE X K b L E e ma) : JE X K b L E (.UnaryOp .Not e pos) (ma >>= fun c => pure (!c)) := by
  obtain ⟨t, d, p⟩ := h.ex
  exact .of ⟨tNotV t, pe_not d, fun σ Hi H en Q h => p σ Hi H en _ (h.bind.imp fun c Hi' H' n q v rv => ⟨c, rv, q.here n.sub _ rfl⟩)⟩
theorem je_neg {m : M Int} (h : JE X K b L E e m) : JE X K b L E (.UnaryOp .USub e pos) (m >>= fun i => pure (-i)) := by
  obtain ⟨t, d, p⟩ := h.ex
  exact .of ⟨tUn (rU fun i => .int (-i)) t, pe_un un_neg d, fun σ Hi H en Q h => p σ Hi H en _ (h.bind.imp fun c Hi' H' n q v rv => ⟨c, rv, q.here n.sub _ rfl⟩)⟩
theorem je_if {mc : M Bool} {m n : M α} (h : JT X K b L E e mc) (h1 : JE X K b L E e1 m) (h2 : JE X K b L E e2 n) : JE X K b L E (.IfExp e e1 e2 pos) (mc >>= fun c => if c = true then m else n) := by
  obtain ⟨t, d, p⟩ := h.ex
  obtain ⟨t1, d1, p1⟩ := h1.ex
  obtain ⟨t2, d2, p2⟩ := h2.ex
  refine .of ⟨tIf t t1 t2, pe_ifExp d d1 d2, fun σ Hi H en Q h => p σ Hi H en _ (h.bind.imp fun c Hi' H' n q => ?_)⟩
  cases c with
  | true =>
    rw [if_pos rfl] at q ⊢
    exact p1 σ Hi' H' (en.nx n) Q q
  | false =>
    rw [if_neg Bool.false_ne_true] at q ⊢
    exact p2 σ Hi' H' (en.nx n) Q q

/-! displays -/
theorem jl_nil : JL X K b L E [] (pure [] : M (List α)) := .of ⟨tNil, pa_nil, fun σ Hi H en Q h => h.here en.sub [] .nil⟩ fun xs h => by cases h; rfl
theorem jl_cons {m : M α} {mr : M (List α)} (h : JE X K b L E e m) (hr : JL X K b L E es mr) (hs : starEach (e :: es) X.env = (false, eval e X.env) :: starEach es X.env := by rfl) :
    JL X K b L E (e :: es) (m >>= fun x => mr >>= fun r => pure (x :: r)) := by
  obtain ⟨t, d, p⟩ := h.ex
  obtain ⟨t2, d2, p2⟩ := hr.ex
  have l2 := hr.len
  refine .of ⟨tCons t t2, pa_cons d d2 hs, fun σ Hi H en Q h => p σ Hi H en _ (h.bind.imp fun x Hi1 H1 n1 k v rv => p2 σ Hi1 H1 (en.nx n1) _ (k.bind.imp fun r Hi2 H2 n2 k2 vs rvs => ?_))⟩ fun xs h => ?_
  · exact k2.here n2.sub _ (.cons (Py.mono n2.im rv) rvs)
  · cases m with
    | error z => cases h
    | ok x =>
      cases mr with
      | error z => cases h
      | ok r =>
        have e : x :: r = xs := by cases h; rfl
        rw [← e, List.length_cons, List.length_cons, l2 r rfl]
theorem je_lst {m : M (List α)} (h : JL X K b L E es m) (hl : es.length ≤ 1000 := by decide) : JE X K b L E (.List es pos) m := by
  obtain ⟨t, d, p⟩ := h.ex
  have l := h.len
  refine .of ⟨tLst t, pe_lst d, fun σ Hi H en Q h => p σ Hi H en _ (?_)⟩
  cases m with
  | error z => cases z with
    | rs c => exact h
    | st => exact h
  | ok xs =>
    refine fun Hi1 H1 n1 vs rvs => ⟨?_, fun q hq => (PX.go (a := xs) h (n1.trans (Nx.new n1.sub hq))) _ ⟨q, vs, rfl, .of upd_same, rvs.mono (same_new (hi_none n1.sub hq))⟩⟩
    rw [← rvs.length, l xs rfl]
    exact Nat.le_trans hl (by decide)
theorem je_tupU {m : M (List α)} (h : JL X K b L E es m) (hl : es.length ≤ 1000 := by decide) : JE X K b L E (.Tuple es x1 pos) (m >>= fun xs => (pure xs : M (Tup α))) := by
  obtain ⟨t, d, p⟩ := h.ex
  have l := h.len
  refine .of ⟨tTup t, pe_tup d, fun σ Hi H en Q h => p σ Hi H en _ (?_)⟩
  cases m with
  | error z => cases z with
    | rs c => exact h
    | st => exact h
  | ok xs =>
    refine fun Hi1 H1 n1 vs rvs => ⟨?_, fun q hq => (PX.go (α := Tup α) (a := xs) h (n1.trans (Nx.new n1.sub hq))) _ ⟨q, vs, rfl, .of upd_same, rvs.mono (same_new (hi_none n1.sub hq))⟩⟩
    rw [← rvs.length, l xs rfl]
    exact Nat.le_trans hl (by decide)
theorem je_pair (h1 : JE X K b L E e1 m1) (h2 : JE X K b L E e2 m2) (hs : starEach [e1, e2] X.env = (false, eval e1 X.env) :: starEach [e2] X.env := by rfl) (hs2 : starEach [e2] X.env = (false, eval e2 X.env) :: starEach [] X.env := by rfl) :
    JE X K b L E (.Tuple [e1, e2] x1 pos) (m1 >>= fun x => m2 >>= fun y => pure (x, y)) := by
  obtain ⟨t1, d1, p1⟩ := h1.ex
  obtain ⟨t2, d2, p2⟩ := h2.ex
  refine .of ⟨tTup (tCons t1 (tCons t2 tNil)), pe_tup (pa_cons d1 (pa_cons d2 pa_nil hs2) hs), fun σ Hi H en Q h => p1 σ Hi H en _ (h.bind.imp fun x Hi1 H1 n1 k v rv => p2 σ Hi1 H1 (en.nx n1) _ (k.bind.imp fun y Hi2 H2 n2 k2 w rw => ⟨by show 2 ≤ sizeLine; decide, fun q hq => ?_⟩))⟩
  have sm := same_new (o := .tup [v, w]) (hi_none n2.sub hq)
  exact k2.go (Nx.new n2.sub hq) _ ⟨q, v, w, rfl, .of upd_same, Py.mono (n2.im.trans sm) rv, Py.mono sm rw⟩
theorem je_tri (h1 : JE X K b L E e1 m1) (h2 : JE X K b L E e2 m2) (h3 : JE X K b L E e3 m3) (hs : starEach [e1, e2, e3] X.env = (false, eval e1 X.env) :: starEach [e2, e3] X.env := by rfl)
    (hs2 : starEach [e2, e3] X.env = (false, eval e2 X.env) :: starEach [e3] X.env := by rfl) (hs3 : starEach [e3] X.env = (false, eval e3 X.env) :: starEach [] X.env := by rfl) :
    JE X K b L E (.Tuple [e1, e2, e3] x1 pos) (m1 >>= fun x => m2 >>= fun y => m3 >>= fun z => pure (T3.mk x y z)) := by
  obtain ⟨t1, d1, p1⟩ := h1.ex
  obtain ⟨t2, d2, p2⟩ := h2.ex
  obtain ⟨t3, d3, p3⟩ := h3.ex
  refine .of ⟨tTup (tCons t1 (tCons t2 (tCons t3 tNil))), pe_tup (pa_cons d1 (pa_cons d2 (pa_cons d3 pa_nil hs3) hs2) hs), fun σ Hi H en Q h => p1 σ Hi H en _ (h.bind.imp fun x Hi1 H1 n1 k v rv => p2 σ Hi1 H1 (en.nx n1) _
    (k.bind.imp fun y Hi2 H2 n2 k2 w rw => p3 σ Hi2 H2 ((en.nx n1).nx n2) _ (k2.bind.imp fun z Hi3 H3 n3 k3 u ru => ⟨by show 3 ≤ sizeLine; decide, fun q hq => ?_⟩)))⟩
  have sm := same_new (o := .tup [v, w, u]) (hi_none n3.sub hq)
  exact k3.go (Nx.new n3.sub hq) _ ⟨q, v, w, u, rfl, .of upd_same, Py.mono ((n2.im.trans n3.im).trans sm) rv, Py.mono (n3.im.trans sm) rw, Py.mono sm ru⟩
/-! places of a pair, a triple -/
theorem at2 {v w : V} : atI [v, w] 0 = some v ∧ atI [v, w] 1 = some w := ⟨rfl, rfl⟩
theorem je_p0 {m : M (α × β)} {j : Nat} {p2 : Pos} (h : JE X K b L E e m) (hK : X.K = K := by rfl) : JE X K b L E (.Subscript e (.Constant (.int 0) j p2) pos) (m >>= fun x => pure x.1) := by
  obtain ⟨t, d, p⟩ := h.ex
  refine .of ⟨tOp (rIxT K) t (tC (.int 0)), pe_ix (by rw [← hK]; exact ix_tup) d pe_int (fun _ _ => rfl), fun σ Hi H en Q h => p σ Hi H en _ (h.bind.imp fun x Hi1 H1 n1 k v rv => ?_)⟩
  obtain ⟨q, v1, v2, rfl, g1, g2, g3⟩ := rv
  exact ⟨q, _, 0, v1, rfl, rfl, sqt_mono n1.sub g1, rfl, k.here n1.sub _ g2⟩
theorem je_p1 {m : M (α × β)} {j : Nat} {p2 : Pos} (h : JE X K b L E e m) (hK : X.K = K := by rfl) : JE X K b L E (.Subscript e (.Constant (.int 1) j p2) pos) (m >>= fun x => pure x.2) := by
  obtain ⟨t, d, p⟩ := h.ex
  refine .of ⟨tOp (rIxT K) t (tC (.int 1)), pe_ix (by rw [← hK]; exact ix_tup) d pe_int (fun _ _ => rfl), fun σ Hi H en Q h => p σ Hi H en _ (h.bind.imp fun x Hi1 H1 n1 k v rv => ?_)⟩
  obtain ⟨q, v1, v2, rfl, g1, g2, g3⟩ := rv
  exact ⟨q, _, 1, v2, rfl, rfl, sqt_mono n1.sub g1, rfl, k.here n1.sub _ g3⟩
theorem je_t0 {m : M (T3 α β γ)} {j : Nat} {p2 : Pos} (h : JE X K b L E e m) (hK : X.K = K := by rfl) : JE X K b L E (.Subscript e (.Constant (.int 0) j p2) pos) (m >>= fun x => pure x.a) := by
  obtain ⟨t, d, p⟩ := h.ex
  refine .of ⟨tOp (rIxT K) t (tC (.int 0)), pe_ix (by rw [← hK]; exact ix_tup) d pe_int (fun _ _ => rfl), fun σ Hi H en Q h => p σ Hi H en _ (h.bind.imp fun x Hi1 H1 n1 k v rv => ?_)⟩
  obtain ⟨q, v1, v2, v3, rfl, g1, g2, g3, g4⟩ := rv
  exact ⟨q, _, 0, v1, rfl, rfl, sqt_mono n1.sub g1, rfl, k.here n1.sub _ g2⟩
theorem je_t1 {m : M (T3 α β γ)} {j : Nat} {p2 : Pos} (h : JE X K b L E e m) (hK : X.K = K := by rfl) : JE X K b L E (.Subscript e (.Constant (.int 1) j p2) pos) (m >>= fun x => pure x.b) := by
  obtain ⟨t, d, p⟩ := h.ex
  refine .of ⟨tOp (rIxT K) t (tC (.int 1)), pe_ix (by rw [← hK]; exact ix_tup) d pe_int (fun _ _ => rfl), fun σ Hi H en Q h => p σ Hi H en _ (h.bind.imp fun x Hi1 H1 n1 k v rv => ?_)⟩
  obtain ⟨q, v1, v2, v3, rfl, g1, g2, g3, g4⟩ := rv
  exact ⟨q, _, 1, v2, rfl, rfl, sqt_mono n1.sub g1, rfl, k.here n1.sub _ g3⟩
theorem je_t2 {m : M (T3 α β γ)} {j : Nat} {p2 : Pos} (h : JE X K b L E e m) (hK : X.K = K := by rfl) : JE X K b L E (.Subscript e (.Constant (.int 2) j p2) pos) (m >>= fun x => pure x.c) := by
  obtain ⟨t, d, p⟩ := h.ex
  refine .of ⟨tOp (rIxT K) t (tC (.int 2)), pe_ix (by rw [← hK]; exact ix_tup) d pe_int (fun _ _ => rfl), fun σ Hi H en Q h => p σ Hi H en _ (h.bind.imp fun x Hi1 H1 n1 k v rv => ?_)⟩
  obtain ⟨q, v1, v2, v3, rfl, g1, g2, g3, g4⟩ := rv
  exact ⟨q, _, 2, v3, rfl, rfl, sqt_mono n1.sub g1, rfl, k.here n1.sub _ g4⟩

/-! slices -/
theorem jo_no : JO X K b L E none (pure none) := .of ⟨tNoPart, po_none, fun σ Hi H en Q h => h.here en.sub⟩
theorem jo_at {m : M Int} (h : JE X K b L E e m) : JO X K b L E (some e) (m >>= fun i => pure (some i)) := by
  obtain ⟨t, d, p⟩ := h.ex
  exact .of ⟨tPart t, po_some d, fun σ Hi H en Q h => p σ Hi H en _ (h.bind.imp fun i Hi' H' n q v rv => ⟨i, rv, q.here n.sub⟩)⟩
variable {lo hi : Option Expr} {ml mh : M (Option Int)} {p2 : Pos}
theorem je_slL {m : M (List α)} (h : JE X K b L E e m) (hl : JO X K b L E lo ml) (hh : JO X K b L E hi mh) (hK : X.K = K := by rfl) :
    JE X K b L E (.Subscript e (.Slice lo hi none p2) pos) (m >>= fun xs => ml >>= fun l => mh >>= fun u => pure (cut xs l u)) := by
  obtain ⟨t, d, p⟩ := h.ex
  obtain ⟨t1, d1, p1⟩ := hl.ex
  obtain ⟨t2, d2, p2⟩ := hh.ex
  refine .of ⟨tSl (rSlL K) t t1 t2, pe_slice (by rw [← hK]; exact sl_list) d d1 d2, fun σ Hi H en Q h => p σ Hi H en _ (h.bind.imp fun xs Hi1 H1 n1 k v rv => p1 σ Hi1 H1 (en.nx n1) _ (k.bind.imp fun l Hi2 H2 n2 k2 => p2 σ Hi2 H2 ((en.nx n1).nx n2) _ (k2.bind.imp fun u Hi3 H3 n3 k3 => ?_)))⟩
  obtain ⟨q, vs, rfl, g1, g2⟩ := rv
  have s3 := (n2.im.trans n3.im)
  refine ⟨q, vs, rfl, Same.seq (s3.trans n3.sub) g1, fun r hr => k3.go (Nx.new n3.sub hr) _ ⟨r, _, rfl, .of upd_same, ?_⟩⟩
  exact ((g2.mono s3).cut l u).mono (same_new (hi_none n3.sub hr))
theorem je_slS {m : M Tx} (h : JE X K b L E e m) (hl : JO X K b L E lo ml) (hh : JO X K b L E hi mh) :
    JE X K b L E (.Subscript e (.Slice lo hi none p2) pos) (m >>= fun xs => ml >>= fun l => mh >>= fun u => cutT xs l u) := by
  obtain ⟨t, d, p⟩ := h.ex
  obtain ⟨t1, d1, p1⟩ := hl.ex
  obtain ⟨t2, d2, p2⟩ := hh.ex
  refine .of ⟨tSl rSlS t t1 t2, pe_slice sl_str d d1 d2, fun σ Hi H en Q h => p σ Hi H en _ (h.bind.imp fun xs Hi1 H1 n1 k v rv => p1 σ Hi1 H1 (en.nx n1) _ (k.bind.imp fun l Hi2 H2 n2 k2 => p2 σ Hi2 H2 ((en.nx n1).nx n2) _ (k2.bind.imp fun u Hi3 H3 n3 k3 => ?_)))⟩
  obtain ⟨c, k4⟩ := PX.chk k3
  refine ⟨S xs, rv, by rw [S_length]; exact c, k4.here n3.sub _ ?_⟩
  refine congrArg V.str ?_
  unfold cutS
  rw [S_length]
  rfl

/-! calls of built-ins, methods of texts -/
theorem je_callB {id : String} {x : Str} {r : List V → Hp → VK → Prop} {f : α → M β} {p : Pos} (hc : CallR X (.builtin id) r) (hr : RA1 K E r f) (hm : mg x = none) (hv : bootBuiltins x = some (.builtin id)) (h : JE X K b L E e m1) (hM : X.mg = mg := by rfl)
    (hg : Gl X x := by rfl) (hn : x ≠ "__name__" := by decide) (hdb : (x == ("__debug__" : Str)) = false := by decide)
    (he : starEach [e] X.env = (false, eval e X.env) :: starEach [] X.env := by rfl) (hpl : (backTo pos (starEach [] X.env)).any (·.1) = false := by rfl) : JE X K b L E (.Call (.Name x p) [e] [] pos) (m1 >>= fun a => f a) := by
  obtain ⟨t, d, q⟩ := h.ex
  refine .of ⟨tCB r (tCons t tNil), pe_callB hc hg (by rw [hM]; exact hm) hv (pa_cons d pa_nil he) hn hdb he hpl, fun σ Hi H en Q h => q σ Hi H en _ (h.bind.imp fun a Hi1 H1 n1 k v rv => ?_)⟩
  exact hr a v Hi1 H1 Q n1.sub rv k
theorem je_callB2 {id : String} {x : Str} {r : List V → Hp → VK → Prop} {f : α → β → M γ} {p : Pos} (hc : CallR X (.builtin id) r) (hr : RA2 K E r f) (hm : mg x = none) (hv : bootBuiltins x = some (.builtin id)) (h1 : JE X K b L E e1 m1) (h2 : JE X K b L E e2 m2) (hM : X.mg = mg := by rfl)
    (hg : Gl X x := by rfl) (hn : x ≠ "__name__" := by decide) (hdb : (x == ("__debug__" : Str)) = false := by decide)
    (he : starEach [e1, e2] X.env = (false, eval e1 X.env) :: starEach [e2] X.env := by rfl) (he2 : starEach [e2] X.env = (false, eval e2 X.env) :: starEach [] X.env := by rfl)
    (hpl : (backTo pos (starEach [e2] X.env)).any (·.1) = false := by rfl) : JE X K b L E (.Call (.Name x p) [e1, e2] [] pos) (m1 >>= fun a => m2 >>= fun c => f a c) := by
  obtain ⟨t, d, q⟩ := h1.ex
  obtain ⟨t2, d2, q2⟩ := h2.ex
  refine .of ⟨tCB r (tCons t (tCons t2 tNil)), pe_callB hc hg (by rw [hM]; exact hm) hv (pa_cons d (pa_cons d2 pa_nil he2) he) hn hdb he hpl, fun σ Hi H en Q h => q σ Hi H en _ (h.bind.imp fun a Hi1 H1 n1 k v rv => q2 σ Hi1 H1 (en.nx n1) _ (k.bind.imp fun c Hi2 H2 n2 k2 w rw => ?_))⟩
  exact hr a c v w Hi2 H2 Q n2.sub (Py.mono n2.im rv) rw k2
theorem je_callTy {T : String} {x : Str} {r : List V → Hp → VK → Prop} {f : α → M β} {p : Pos} (hc : CallR X (.type T) r) (hr : RA1 K E r f) (hm : mg x = none) (hv : bootBuiltins x = some (.type T)) (h : JE X K b L E e m1) (hM : X.mg = mg := by rfl)
    (hg : Gl X x := by rfl) (hn : x ≠ "__name__" := by decide) (hdb : (x == ("__debug__" : Str)) = false := by decide)
    (he : starEach [e] X.env = (false, eval e X.env) :: starEach [] X.env := by rfl) (hpl : (backTo pos (starEach [] X.env)).any (·.1) = false := by rfl) : JE X K b L E (.Call (.Name x p) [e] [] pos) (m1 >>= fun a => f a) := by
  obtain ⟨t, d, q⟩ := h.ex
  refine .of ⟨tCB r (tCons t tNil), pe_callTy hc hg (by rw [hM]; exact hm) hv (pa_cons d pa_nil he) hn hdb he hpl, fun σ Hi H en Q h => q σ Hi H en _ (h.bind.imp fun a Hi1 H1 n1 k v rv => ?_)⟩
  exact hr a v Hi1 H1 Q n1.sub rv k
theorem je_m1 {id : String} {name : Str} {apos : Pos} {r : V → List V → Hp → VK → Prop} {f : Tx → β → M γ} {m : M Tx} (slot : Slot "str" name id) (ty : typeOf (.builtin id) = pure (.type "method_descriptor")) (rule : MtR X id r) (hr : RM1 K E r f) (ho : JE X K b L E e1 m) (he : JE X K b L E e2 m2)
    (hs : starEach [e2] X.env = [(false, eval e2 X.env)] := by rfl) (hbase : attributeBase e1 name X.env (eval e1 X.env) = eval e1 X.env := by rfl) (hline : (apos.endLine == pos.line) = true := by rfl) :
    JE X K b L E (.Call (.Attribute e1 name apos) [e2] [] pos) (m >>= fun x => m2 >>= fun y => f x y) := by
  obtain ⟨t, d, q⟩ := ho.ex
  obtain ⟨t2, d2, q2⟩ := he.ex
  refine .of ⟨tM1 r t t2, pe_m1 slot ty rule d d2 hs hbase hline, fun σ Hi H en Q h => q σ Hi H en _ (h.bind.imp fun a Hi1 H1 n1 k v rv => ⟨⟨_, rv⟩, q2 σ Hi1 H1 (en.nx n1) _ (k.bind.imp fun c Hi2 H2 n2 k2 w rw => ?_)⟩)⟩
  exact hr a c v w Hi2 H2 Q n2.sub (Py.mono n2.im rv) rw k2
theorem je_m0 {id : String} {name : Str} {apos : Pos} {r : V → List V → Hp → VK → Prop} {f : Tx → M γ} {m : M Tx} (slot : Slot "str" name id) (ty : typeOf (.builtin id) = pure (.type "method_descriptor")) (rule : MtR X id r) (hr : RM0 K E r f) (ho : JE X K b L E e1 m)
    (hbase : attributeBase e1 name X.env (eval e1 X.env) = eval e1 X.env := by rfl) (hline : (apos.endLine == pos.line) = true := by rfl) :
    JE X K b L E (.Call (.Attribute e1 name apos) [] [] pos) (m >>= fun x => f x) := by
  obtain ⟨t, d, q⟩ := ho.ex
  refine .of ⟨tM0 r t, pe_m0 slot ty rule d hbase hline, fun σ Hi H en Q h => q σ Hi H en _ (h.bind.imp fun a Hi1 H1 n1 k v rv => ⟨⟨_, rv⟩, ?_⟩)⟩
  exact hr a v Hi1 H1 Q n1.sub rv k
end
end G

set_option Elab.async false
set_option linter.all false
set_option maxRecDepth 100000
set_option maxHeartbeats 2000000
namespace G
open PySem L2 TL

/-! ### statements -/
def PZ (K : Fg) (E : XK) (b : Bs) {α : Type} (m : M α) (post : α → Prop) : Prop := match m with
  | .ok a => post a
  | .error (.rs c) => ∀ Hi' H', Ok b Hi' H' → E (.ref (He.ga K c)) none H'
  | .error .st => False
section
variable {K : Fg} {E : XK} {b : Bs} {L : List En} {σ : L2.St} {Hi H : Hp} {α β : Type} {m : M α} {f : α → M β}
theorem PZ.bind {post : β → Prop} (en : EnvOk b L σ Hi H) (h : PZ K E b (m >>= f) post) : PX K E m Hi H fun a _ _ => PZ K E b (f a) post := by
  cases m with
  | ok a => exact fun _ _ _ => h
  | error e =>
    cases e with
    | rs c => exact fun _ _ y => h _ _ (en.nx y).ok
    | st => exact h
theorem PZ.bindz {post : β → Prop} (h : PZ K E b (m >>= f) post) : PZ K E b m fun a => PZ K E b (f a) post := by
  cases m with
  | ok a => exact h
  | error e => cases e <;> exact h
theorem PZ.imp {post post' : α → Prop} (h : PZ K E b m post) (i : ∀ a, post a → post' a) : PZ K E b m post' := by
  cases m with
  | ok a => exact i a h
  | error e => cases e <;> exact h
theorem PZ.px {post : α → Prop} (en : EnvOk b L σ Hi H) (h : PZ K E b m post) : PX K E m Hi H fun a _ _ => post a := by
  cases m with
  | ok a => exact fun _ _ _ => h
  | error e =>
    cases e with
    | rs c => exact fun _ _ y => h _ _ (en.nx y).ok
    | st => exact h
theorem PZ.chk {p : Prop} [Decidable p] {g : Unit → M β} {post : β → Prop} (h : PZ K E b (G.chk p >>= g) post) : p ∧ PZ K E b (g ()) post := by
  unfold G.chk at h
  by_cases hp : p
  · rw [if_pos hp] at h; exact ⟨hp, h⟩
  · rw [if_neg hp] at h; exact h.elim
end
structure J1 (X : Cx) (K : Fg) (b : Bs) (L : List En) (E : XK) (st : Stmt) {S : Type} (m : M S) (Lf : S → List En) : Prop where
  go : ∀ σ Hi H, EnvOk b L σ Hi H → ∀ D : Ends, PZ K E b m (fun s => ∀ σ' Hi' H', EnvOk b (Lf s) σ' Hi' H' → D.nx σ' H') → wpS X st D σ H
structure JS (X : Cx) (K : Fg) (b : Bs) (L : List En) (E : XK) (ss : List Stmt) (tl : Ends → Prop) {α : Type} (m : M α) (post : α → Ends → Prop) : Prop where
  go : ∀ σ Hi H, EnvOk b L σ Hi H → ∀ D : Ends, tl D → PZ K E b m (fun a => post a D) → wpB X ss D σ H
/-- what ends a loop's turn -/
inductive Tl (S R : Type) where
  | ct (s : S)
  | bk (s : S)
  | rt (r : R)
abbrev tlAny : Ends → Prop := fun _ => True
abbrev tlFn : Ends → Prop := fun D => ∀ σ H, D.rt .non H → D.nx σ H
abbrev tlLp : Ends → Prop := fun D => ∀ σ H, D.ct σ H → D.nx σ H
def pRt (K : Fg) (b : Bs) {R : Type} [Py R] (r : R) (D : Ends) : Prop := ∀ v Hi' H', Ok b Hi' H' → Py.rep K Hi' r v → D.rt v H'
def pNx (b : Bs) {S : Type} (Lf : S → List En) (s : S) (D : Ends) : Prop := ∀ σ' Hi' H', EnvOk b (Lf s) σ' Hi' H' → D.nx σ' H'
def pTl (K : Fg) (b : Bs) {S R : Type} [Py R] (Lf : S → List En) (t : Tl S R) (D : Ends) : Prop := match t with
  | .ct s => ∀ σ' Hi' H', EnvOk b (Lf s) σ' Hi' H' → D.ct σ' H'
  | .bk s => ∀ σ' Hi' H', EnvOk b (Lf s) σ' Hi' H' → D.bk σ' H'
  | .rt r => pRt K b r D
/-- a post that does not ask what follows -/
def PiOk {α : Type} (post : α → Ends → Prop) : Prop := ∀ a D f, post a D → post a { D with nx := f }
theorem pi_rt {K : Fg} {b : Bs} {R : Type} [Py R] : PiOk (pRt K b (R := R)) := fun _ _ _ h => h
theorem pi_tl {K : Fg} {b : Bs} {S R : Type} [Py R] {Lf : S → List En} : PiOk (pTl K b (R := R) Lf) := fun a _ _ h => by
  cases a <;> exact h

/-- a def of the module -/
structure OkF (P : Program) (w : World) (K : Fg) (mg : Str → Option Value) (base : Heap) (x : Str) (k : Nat) (sp : Sp) : Prop where
  ex : ∃ f fd ps, mg x = some (.ref f) ∧ PySem.W.keepIn K (.ref f) = true ∧ FnOk P w K mg base (L2.CX P w) k f fd ps sp ∧ Binds K fd ps []
theorem EnvOk.start {Hi H : Hp} {ps : List Pr} {vs : List V} {k : Nat} {N : List Str} (sm : Same Hi H) (hk : N.length - vs.length = k) (r : Paired (fun (p : Pr) v => p.r Hi v) ps vs) :
    EnvOk ⟨Hi, H, []⟩ (ps.map En.im ++ List.replicate k En.no) (start N vs) Hi H := by
  have hl : ps.length = vs.length := Paired.length r
  have nomu : ∀ (i : Nat) (c : Ct), (ps.map En.im ++ List.replicate k En.no)[i]? ≠ some (.mu c) := fun i c h => by
    rcases List.mem_append.mp (List.mem_of_getElem? h) with q | q
    · obtain ⟨_, _, z⟩ := List.mem_map.mp q
      cases z
    · cases (List.mem_replicate.mp q).2
  refine ⟨⟨sm, Same.refl _, fun _ _ _ h => h, fun _ h => h, fun _ _ h => h⟩, ?_, fun i p h => ?_, fun i c h => absurd h (nomu i c), fun i _ c _ _ h => absurd h (nomu i c)⟩
  · unfold L2.start
    rw [List.length_append, List.length_append, List.length_map, List.length_map, List.length_replicate, List.length_replicate, hl, hk]
  · by_cases hi : i < ps.length
    · rw [List.getElem?_append_left (by rw [List.length_map]; exact hi), List.getElem?_map] at h
      cases q : ps[i]? with
      | none => rw [q] at h; cases h
      | some p' =>
        rw [q] at h
        cases h
        have key : ∀ {ps : List Pr} {vs : List V} (_ : Paired (fun (p : Pr) v => p.r Hi v) ps vs) {i : Nat} {p : Pr}, ps[i]? = some p → ∃ v, vs[i]? = some v ∧ p.r Hi v := by
          intro ps vs r
          induction r with
          | nil => intro i p h; simp at h
          | cons r t ih =>
            intro i p h
            cases i with
            | zero => simp at h; subst h; exact ⟨_, rfl, r⟩
            | succ i => exact ih (by simpa using h)
        obtain ⟨v, h1, h2⟩ := key r q
        refine ⟨v, ?_, h2⟩
        unfold L2.start
        rw [List.getElem?_append_left (by rw [List.length_map]; exact (List.getElem?_eq_some_iff.mp h1).1), List.getElem?_map, h1]
        rfl
    · rw [List.getElem?_append_right (by rw [List.length_map]; omega)] at h
      have := List.mem_of_getElem? h
      cases (List.mem_replicate.mp this).2
theorem PZ.of_fn {K : Fg} {E : XK} {R : Type} [Py R] {m : M R} {Hi H : Hp} {Q : VK} {bkk ctt : L2.St → Hp → Prop} (h : PV K E m Hi H Q) : PZ K E ⟨Hi, H, []⟩ m (fun a => pRt K ⟨Hi, H, []⟩ a { nx := fun _ H' => Q .non H', rt := Q, bk := bkk, ct := ctt }) := by
  have key : ∀ {Hi' H' : Hp}, Ok ⟨Hi, H, []⟩ Hi' H' → Nx Hi H Hi' H' := fun {Hi' H'} o => ⟨o.base, fun a u e => o.fr a u (by simp) e, o.sub, o.cap⟩
  cases m with
  | ok a => exact fun v Hi' H' o r => h Hi' H' (key o) v r
  | error e =>
    cases e with
    | rs c => exact fun Hi' H' o => h Hi' H' (key o)
    | st => exact h
def sp1 (K : Fg) {α0 ρ : Type} [Py α0] [Py ρ] (f : α0 → M ρ) : Sp := fun vs H Q E => ∃ (a0 : α0) (v0 : V) (Hi : Hp), vs = [v0] ∧ Same Hi H ∧ Py.rep K Hi a0 v0 ∧ PV K E (f a0) Hi H Q
theorem je_call1 {α0 ρ : Type} [Py α0] [Py ρ] {X : Cx} {K : Fg} {b : Bs} {L : List En} {E : XK} {e0 : Expr} {m0 : M α0} {f : α0 → M ρ} {x : Str} {p pos : Pos} {k : Nat} (F : OkF X.prog X.w X.K X.mg X.base x k (sp1 K f)) (hr : Room k X.A) (hx : Passes (L2.CX X.prog X.w) X E) (h0 : JE X K b L E e0 m0) (hg : Gl X x := by rfl) (hdb : (x == ("__debug__" : Str)) = false := by decide) (s0 : starEach [e0] X.env = (false, eval e0 X.env) :: starEach [] X.env := by rfl) (hpl : (backTo pos (starEach [] X.env)).any (·.1) = false := by rfl) : JE X K b L E (.Call (.Name x p) [e0] [] pos) (m0 >>= fun a0 => f a0) := by
  obtain ⟨fa, fd, ps, F1, F2, F3, F4⟩ := F.ex
  obtain ⟨t0, d0, q0⟩ := h0.ex
  refine .of ⟨tCall (sp1 K f) [] E (tCons t0 tNil), pe_call F3 hr hg F1 F2 F4 .nil hx (pa_cons d0 pa_nil s0) hdb s0 hpl, fun σ Hi H en Q h => ?_⟩
  refine q0 σ Hi H en _ ((h).bind.imp fun a0 Hi1 H1 n1 k1 v0 r0 => ?_)
  exact ⟨a0, v0, _, rfl, n1.sub, r0, k1⟩
theorem mkC1 {α0 ρ : Type} [Py α0] [Py ρ] {P : Program} {w : World} {K : Fg} {mg : Str → Option Value} {base : Heap} {x : Str} {N : List Str} {p0 : Str} {args : Arguments} {body : List Stmt} {sc : Scope} {k : Nat} {f : α0 → M ρ} {fd : FuncData} (F : FunD K x x args body sc [] [] (He.ga K x) fd) (S : FnScope N [p0] sc)
    (h : ∀ (cdv : Value) (A : Around) (outer : List Env) (s : Shared) (H : Hp) (E : XK), Room k (cxOf (L2.CX P w) P w K mg base N x sc (He.ga K x) cdv A outer s H E).A → ∀ (a0 : α0) (b : Bs), b.own = [] → JS (cxOf (L2.CX P w) P w K mg base N x sc (He.ga K x) cdv A outer s H E) K b ([.im (rp K a0)] ++ List.replicate (N.length - 1) .no) E body tlFn (f a0) (pRt K b)) : FnOk P w K mg base (L2.CX P w) (k + 1) (He.ga K x) fd [p0] (sp1 K f) := by
  refine F.ok S (fun vs H Q E hh => ?_) (fun cdv A outer s H vs Q E hr hh => ?_)
  · obtain ⟨a0, v0, Hi, rfl, _⟩ := hh
    rfl
  · obtain ⟨a0, v0, Hi, rfl, sm, r0, q⟩ := hh
    refine ⟨_, pss_wp, (h cdv A outer s H E hr a0 ⟨Hi, H, []⟩ rfl).go _ Hi H ?_ _ (fun σ' H' z => z) ?_⟩
    · exact EnvOk.start (ps := [rp K a0]) sm rfl (Paired.cons r0 Paired.nil)
    · exact PZ.of_fn q
theorem mkF1 {α0 ρ : Type} [Py α0] [Py ρ] {P : Program} {w : World} {K : Fg} {mg : Str → Option Value} {base : Heap} {x : Str} {N : List Str} {p0 : Str} {args : Arguments} {body : List Stmt} {sc : Scope} {k : Nat} {f : α0 → M ρ} (F : ∃ fd, FunD K x x args body sc [] [] (He.ga K x) fd) (g : mg x = some (.ref (He.ga K x))) (S : FnScope N [p0] sc)
    (hb : ∀ (kV doc pm : Value) (an : Option Addr) (cdv ct : Value) (us : List Value), us.length = [p0].length → bindArgs (PySem.W.fnOf x x args body sc .none kV doc pm an cdv ct) ⟨us, []⟩ = pure ([p0].zip us))
    (h : ∀ (cdv : Value) (A : Around) (outer : List Env) (s : Shared) (H : Hp) (E : XK), Room k (cxOf (L2.CX P w) P w K mg base N x sc (He.ga K x) cdv A outer s H E).A → ∀ (a0 : α0) (b : Bs), b.own = [] → JS (cxOf (L2.CX P w) P w K mg base N x sc (He.ga K x) cdv A outer s H E) K b ([.im (rp K a0)] ++ List.replicate (N.length - 1) .no) E body tlFn (f a0) (pRt K b)) : OkF P w K mg base x (k + 1) (sp1 K f) := by
  obtain ⟨fd, F⟩ := F
  exact ⟨_, fd, [p0], g, F.kp, mkC1 F S h, F.bindsN hb⟩
def sp2 (K : Fg) {α0 α1 ρ : Type} [Py α0] [Py α1] [Py ρ] (f : α0 → α1 → M ρ) : Sp := fun vs H Q E => ∃ (a0 : α0) (a1 : α1) (v0 v1 : V) (Hi : Hp), vs = [v0, v1] ∧ Same Hi H ∧ Py.rep K Hi a0 v0 ∧ Py.rep K Hi a1 v1 ∧ PV K E (f a0 a1) Hi H Q
theorem je_call2 {α0 α1 ρ : Type} [Py α0] [Py α1] [Py ρ] {X : Cx} {K : Fg} {b : Bs} {L : List En} {E : XK} {e0 e1 : Expr} {m0 : M α0} {m1 : M α1} {f : α0 → α1 → M ρ} {x : Str} {p pos : Pos} {k : Nat} (F : OkF X.prog X.w X.K X.mg X.base x k (sp2 K f)) (hr : Room k X.A) (hx : Passes (L2.CX X.prog X.w) X E) (h0 : JE X K b L E e0 m0) (h1 : JE X K b L E e1 m1) (hg : Gl X x := by rfl) (hdb : (x == ("__debug__" : Str)) = false := by decide) (s0 : starEach [e0, e1] X.env = (false, eval e0 X.env) :: starEach [e1] X.env := by rfl) (s1 : starEach [e1] X.env = (false, eval e1 X.env) :: starEach [] X.env := by rfl) (hpl : (backTo pos (starEach [e1] X.env)).any (·.1) = false := by rfl) : JE X K b L E (.Call (.Name x p) [e0, e1] [] pos) (m0 >>= fun a0 => m1 >>= fun a1 => f a0 a1) := by
  obtain ⟨fa, fd, ps, F1, F2, F3, F4⟩ := F.ex
  obtain ⟨t0, d0, q0⟩ := h0.ex
  obtain ⟨t1, d1, q1⟩ := h1.ex
  refine .of ⟨tCall (sp2 K f) [] E (tCons t0 (tCons t1 tNil)), pe_call F3 hr hg F1 F2 F4 .nil hx (pa_cons d0 (pa_cons d1 pa_nil s1) s0) hdb s0 hpl, fun σ Hi H en Q h => ?_⟩
  refine q0 σ Hi H en _ ((h).bind.imp fun a0 Hi1 H1 n1 k1 v0 r0 => ?_)
  refine q1 σ Hi1 H1 (en.nx n1) _ ((k1).bind.imp fun a1 Hi2 H2 n2 k2 v1 r1 => ?_)
  exact ⟨a0, a1, v0, v1, _, rfl, n2.sub, (Py.mono n2.im r0), r1, k2⟩
theorem mkC2 {α0 α1 ρ : Type} [Py α0] [Py α1] [Py ρ] {P : Program} {w : World} {K : Fg} {mg : Str → Option Value} {base : Heap} {x : Str} {N : List Str} {p0 p1 : Str} {args : Arguments} {body : List Stmt} {sc : Scope} {k : Nat} {f : α0 → α1 → M ρ} {fd : FuncData} (F : FunD K x x args body sc [] [] (He.ga K x) fd) (S : FnScope N [p0, p1] sc)
    (h : ∀ (cdv : Value) (A : Around) (outer : List Env) (s : Shared) (H : Hp) (E : XK), Room k (cxOf (L2.CX P w) P w K mg base N x sc (He.ga K x) cdv A outer s H E).A → ∀ (a0 : α0) (a1 : α1) (b : Bs), b.own = [] → JS (cxOf (L2.CX P w) P w K mg base N x sc (He.ga K x) cdv A outer s H E) K b ([.im (rp K a0), .im (rp K a1)] ++ List.replicate (N.length - 2) .no) E body tlFn (f a0 a1) (pRt K b)) : FnOk P w K mg base (L2.CX P w) (k + 1) (He.ga K x) fd [p0, p1] (sp2 K f) := by
  refine F.ok S (fun vs H Q E hh => ?_) (fun cdv A outer s H vs Q E hr hh => ?_)
  · obtain ⟨a0, a1, v0, v1, Hi, rfl, _⟩ := hh
    rfl
  · obtain ⟨a0, a1, v0, v1, Hi, rfl, sm, r0, r1, q⟩ := hh
    refine ⟨_, pss_wp, (h cdv A outer s H E hr a0 a1 ⟨Hi, H, []⟩ rfl).go _ Hi H ?_ _ (fun σ' H' z => z) ?_⟩
    · exact EnvOk.start (ps := [rp K a0, rp K a1]) sm rfl (Paired.cons r0 (Paired.cons r1 Paired.nil))
    · exact PZ.of_fn q
theorem mkF2 {α0 α1 ρ : Type} [Py α0] [Py α1] [Py ρ] {P : Program} {w : World} {K : Fg} {mg : Str → Option Value} {base : Heap} {x : Str} {N : List Str} {p0 p1 : Str} {args : Arguments} {body : List Stmt} {sc : Scope} {k : Nat} {f : α0 → α1 → M ρ} (F : ∃ fd, FunD K x x args body sc [] [] (He.ga K x) fd) (g : mg x = some (.ref (He.ga K x))) (S : FnScope N [p0, p1] sc)
    (hb : ∀ (kV doc pm : Value) (an : Option Addr) (cdv ct : Value) (us : List Value), us.length = [p0, p1].length → bindArgs (PySem.W.fnOf x x args body sc .none kV doc pm an cdv ct) ⟨us, []⟩ = pure ([p0, p1].zip us))
    (h : ∀ (cdv : Value) (A : Around) (outer : List Env) (s : Shared) (H : Hp) (E : XK), Room k (cxOf (L2.CX P w) P w K mg base N x sc (He.ga K x) cdv A outer s H E).A → ∀ (a0 : α0) (a1 : α1) (b : Bs), b.own = [] → JS (cxOf (L2.CX P w) P w K mg base N x sc (He.ga K x) cdv A outer s H E) K b ([.im (rp K a0), .im (rp K a1)] ++ List.replicate (N.length - 2) .no) E body tlFn (f a0 a1) (pRt K b)) : OkF P w K mg base x (k + 1) (sp2 K f) := by
  obtain ⟨fd, F⟩ := F
  exact ⟨_, fd, [p0, p1], g, F.kp, mkC2 F S h, F.bindsN hb⟩
def sp3 (K : Fg) {α0 α1 α2 ρ : Type} [Py α0] [Py α1] [Py α2] [Py ρ] (f : α0 → α1 → α2 → M ρ) : Sp := fun vs H Q E => ∃ (a0 : α0) (a1 : α1) (a2 : α2) (v0 v1 v2 : V) (Hi : Hp), vs = [v0, v1, v2] ∧ Same Hi H ∧ Py.rep K Hi a0 v0 ∧ Py.rep K Hi a1 v1 ∧ Py.rep K Hi a2 v2 ∧ PV K E (f a0 a1 a2) Hi H Q
theorem je_call3 {α0 α1 α2 ρ : Type} [Py α0] [Py α1] [Py α2] [Py ρ] {X : Cx} {K : Fg} {b : Bs} {L : List En} {E : XK} {e0 e1 e2 : Expr} {m0 : M α0} {m1 : M α1} {m2 : M α2} {f : α0 → α1 → α2 → M ρ} {x : Str} {p pos : Pos} {k : Nat} (F : OkF X.prog X.w X.K X.mg X.base x k (sp3 K f)) (hr : Room k X.A) (hx : Passes (L2.CX X.prog X.w) X E) (h0 : JE X K b L E e0 m0) (h1 : JE X K b L E e1 m1) (h2 : JE X K b L E e2 m2) (hg : Gl X x := by rfl) (hdb : (x == ("__debug__" : Str)) = false := by decide) (s0 : starEach [e0, e1, e2] X.env = (false, eval e0 X.env) :: starEach [e1, e2] X.env := by rfl) (s1 : starEach [e1, e2] X.env = (false, eval e1 X.env) :: starEach [e2] X.env := by rfl) (s2 : starEach [e2] X.env = (false, eval e2 X.env) :: starEach [] X.env := by rfl) (hpl : (backTo pos (starEach [e1, e2] X.env)).any (·.1) = false := by rfl) : JE X K b L E (.Call (.Name x p) [e0, e1, e2] [] pos) (m0 >>= fun a0 => m1 >>= fun a1 => m2 >>= fun a2 => f a0 a1 a2) := by
  obtain ⟨fa, fd, ps, F1, F2, F3, F4⟩ := F.ex
  obtain ⟨t0, d0, q0⟩ := h0.ex
  obtain ⟨t1, d1, q1⟩ := h1.ex
  obtain ⟨t2, d2, q2⟩ := h2.ex
  refine .of ⟨tCall (sp3 K f) [] E (tCons t0 (tCons t1 (tCons t2 tNil))), pe_call F3 hr hg F1 F2 F4 .nil hx (pa_cons d0 (pa_cons d1 (pa_cons d2 pa_nil s2) s1) s0) hdb s0 hpl, fun σ Hi H en Q h => ?_⟩
  refine q0 σ Hi H en _ ((h).bind.imp fun a0 Hi1 H1 n1 k1 v0 r0 => ?_)
  refine q1 σ Hi1 H1 (en.nx n1) _ ((k1).bind.imp fun a1 Hi2 H2 n2 k2 v1 r1 => ?_)
  refine q2 σ Hi2 H2 ((en.nx n1).nx n2) _ ((k2).bind.imp fun a2 Hi3 H3 n3 k3 v2 r2 => ?_)
  exact ⟨a0, a1, a2, v0, v1, v2, _, rfl, n3.sub, (Py.mono n3.im (Py.mono n2.im r0)), (Py.mono n3.im r1), r2, k3⟩
theorem mkC3 {α0 α1 α2 ρ : Type} [Py α0] [Py α1] [Py α2] [Py ρ] {P : Program} {w : World} {K : Fg} {mg : Str → Option Value} {base : Heap} {x : Str} {N : List Str} {p0 p1 p2 : Str} {args : Arguments} {body : List Stmt} {sc : Scope} {k : Nat} {f : α0 → α1 → α2 → M ρ} {fd : FuncData} (F : FunD K x x args body sc [] [] (He.ga K x) fd) (S : FnScope N [p0, p1, p2] sc)
    (h : ∀ (cdv : Value) (A : Around) (outer : List Env) (s : Shared) (H : Hp) (E : XK), Room k (cxOf (L2.CX P w) P w K mg base N x sc (He.ga K x) cdv A outer s H E).A → ∀ (a0 : α0) (a1 : α1) (a2 : α2) (b : Bs), b.own = [] → JS (cxOf (L2.CX P w) P w K mg base N x sc (He.ga K x) cdv A outer s H E) K b ([.im (rp K a0), .im (rp K a1), .im (rp K a2)] ++ List.replicate (N.length - 3) .no) E body tlFn (f a0 a1 a2) (pRt K b)) : FnOk P w K mg base (L2.CX P w) (k + 1) (He.ga K x) fd [p0, p1, p2] (sp3 K f) := by
  refine F.ok S (fun vs H Q E hh => ?_) (fun cdv A outer s H vs Q E hr hh => ?_)
  · obtain ⟨a0, a1, a2, v0, v1, v2, Hi, rfl, _⟩ := hh
    rfl
  · obtain ⟨a0, a1, a2, v0, v1, v2, Hi, rfl, sm, r0, r1, r2, q⟩ := hh
    refine ⟨_, pss_wp, (h cdv A outer s H E hr a0 a1 a2 ⟨Hi, H, []⟩ rfl).go _ Hi H ?_ _ (fun σ' H' z => z) ?_⟩
    · exact EnvOk.start (ps := [rp K a0, rp K a1, rp K a2]) sm rfl (Paired.cons r0 (Paired.cons r1 (Paired.cons r2 Paired.nil)))
    · exact PZ.of_fn q
theorem mkF3 {α0 α1 α2 ρ : Type} [Py α0] [Py α1] [Py α2] [Py ρ] {P : Program} {w : World} {K : Fg} {mg : Str → Option Value} {base : Heap} {x : Str} {N : List Str} {p0 p1 p2 : Str} {args : Arguments} {body : List Stmt} {sc : Scope} {k : Nat} {f : α0 → α1 → α2 → M ρ} (F : ∃ fd, FunD K x x args body sc [] [] (He.ga K x) fd) (g : mg x = some (.ref (He.ga K x))) (S : FnScope N [p0, p1, p2] sc)
    (hb : ∀ (kV doc pm : Value) (an : Option Addr) (cdv ct : Value) (us : List Value), us.length = [p0, p1, p2].length → bindArgs (PySem.W.fnOf x x args body sc .none kV doc pm an cdv ct) ⟨us, []⟩ = pure ([p0, p1, p2].zip us))
    (h : ∀ (cdv : Value) (A : Around) (outer : List Env) (s : Shared) (H : Hp) (E : XK), Room k (cxOf (L2.CX P w) P w K mg base N x sc (He.ga K x) cdv A outer s H E).A → ∀ (a0 : α0) (a1 : α1) (a2 : α2) (b : Bs), b.own = [] → JS (cxOf (L2.CX P w) P w K mg base N x sc (He.ga K x) cdv A outer s H E) K b ([.im (rp K a0), .im (rp K a1), .im (rp K a2)] ++ List.replicate (N.length - 3) .no) E body tlFn (f a0 a1 a2) (pRt K b)) : OkF P w K mg base x (k + 1) (sp3 K f) := by
  obtain ⟨fd, F⟩ := F
  exact ⟨_, fd, [p0, p1, p2], g, F.kp, mkC3 F S h, F.bindsN hb⟩
def sp4 (K : Fg) {α0 α1 α2 α3 ρ : Type} [Py α0] [Py α1] [Py α2] [Py α3] [Py ρ] (f : α0 → α1 → α2 → α3 → M ρ) : Sp := fun vs H Q E => ∃ (a0 : α0) (a1 : α1) (a2 : α2) (a3 : α3) (v0 v1 v2 v3 : V) (Hi : Hp), vs = [v0, v1, v2, v3] ∧ Same Hi H ∧ Py.rep K Hi a0 v0 ∧ Py.rep K Hi a1 v1 ∧ Py.rep K Hi a2 v2 ∧ Py.rep K Hi a3 v3 ∧ PV K E (f a0 a1 a2 a3) Hi H Q
theorem je_call4 {α0 α1 α2 α3 ρ : Type} [Py α0] [Py α1] [Py α2] [Py α3] [Py ρ] {X : Cx} {K : Fg} {b : Bs} {L : List En} {E : XK} {e0 e1 e2 e3 : Expr} {m0 : M α0} {m1 : M α1} {m2 : M α2} {m3 : M α3} {f : α0 → α1 → α2 → α3 → M ρ} {x : Str} {p pos : Pos} {k : Nat} (F : OkF X.prog X.w X.K X.mg X.base x k (sp4 K f)) (hr : Room k X.A) (hx : Passes (L2.CX X.prog X.w) X E) (h0 : JE X K b L E e0 m0) (h1 : JE X K b L E e1 m1) (h2 : JE X K b L E e2 m2) (h3 : JE X K b L E e3 m3) (hg : Gl X x := by rfl) (hdb : (x == ("__debug__" : Str)) = false := by decide) (s0 : starEach [e0, e1, e2, e3] X.env = (false, eval e0 X.env) :: starEach [e1, e2, e3] X.env := by rfl) (s1 : starEach [e1, e2, e3] X.env = (false, eval e1 X.env) :: starEach [e2, e3] X.env := by rfl) (s2 : starEach [e2, e3] X.env = (false, eval e2 X.env) :: starEach [e3] X.env := by rfl) (s3 : starEach [e3] X.env = (false, eval e3 X.env) :: starEach [] X.env := by rfl) (hpl : (backTo pos (starEach [e1, e2, e3] X.env)).any (·.1) = false := by rfl) : JE X K b L E (.Call (.Name x p) [e0, e1, e2, e3] [] pos) (m0 >>= fun a0 => m1 >>= fun a1 => m2 >>= fun a2 => m3 >>= fun a3 => f a0 a1 a2 a3) := by
  obtain ⟨fa, fd, ps, F1, F2, F3, F4⟩ := F.ex
  obtain ⟨t0, d0, q0⟩ := h0.ex
  obtain ⟨t1, d1, q1⟩ := h1.ex
  obtain ⟨t2, d2, q2⟩ := h2.ex
  obtain ⟨t3, d3, q3⟩ := h3.ex
  refine .of ⟨tCall (sp4 K f) [] E (tCons t0 (tCons t1 (tCons t2 (tCons t3 tNil)))), pe_call F3 hr hg F1 F2 F4 .nil hx (pa_cons d0 (pa_cons d1 (pa_cons d2 (pa_cons d3 pa_nil s3) s2) s1) s0) hdb s0 hpl, fun σ Hi H en Q h => ?_⟩
  refine q0 σ Hi H en _ ((h).bind.imp fun a0 Hi1 H1 n1 k1 v0 r0 => ?_)
  refine q1 σ Hi1 H1 (en.nx n1) _ ((k1).bind.imp fun a1 Hi2 H2 n2 k2 v1 r1 => ?_)
  refine q2 σ Hi2 H2 ((en.nx n1).nx n2) _ ((k2).bind.imp fun a2 Hi3 H3 n3 k3 v2 r2 => ?_)
  refine q3 σ Hi3 H3 (((en.nx n1).nx n2).nx n3) _ ((k3).bind.imp fun a3 Hi4 H4 n4 k4 v3 r3 => ?_)
  exact ⟨a0, a1, a2, a3, v0, v1, v2, v3, _, rfl, n4.sub, (Py.mono n4.im (Py.mono n3.im (Py.mono n2.im r0))), (Py.mono n4.im (Py.mono n3.im r1)), (Py.mono n4.im r2), r3, k4⟩
theorem mkC4 {α0 α1 α2 α3 ρ : Type} [Py α0] [Py α1] [Py α2] [Py α3] [Py ρ] {P : Program} {w : World} {K : Fg} {mg : Str → Option Value} {base : Heap} {x : Str} {N : List Str} {p0 p1 p2 p3 : Str} {args : Arguments} {body : List Stmt} {sc : Scope} {k : Nat} {f : α0 → α1 → α2 → α3 → M ρ} {fd : FuncData} (F : FunD K x x args body sc [] [] (He.ga K x) fd) (S : FnScope N [p0, p1, p2, p3] sc)
    (h : ∀ (cdv : Value) (A : Around) (outer : List Env) (s : Shared) (H : Hp) (E : XK), Room k (cxOf (L2.CX P w) P w K mg base N x sc (He.ga K x) cdv A outer s H E).A → ∀ (a0 : α0) (a1 : α1) (a2 : α2) (a3 : α3) (b : Bs), b.own = [] → JS (cxOf (L2.CX P w) P w K mg base N x sc (He.ga K x) cdv A outer s H E) K b ([.im (rp K a0), .im (rp K a1), .im (rp K a2), .im (rp K a3)] ++ List.replicate (N.length - 4) .no) E body tlFn (f a0 a1 a2 a3) (pRt K b)) : FnOk P w K mg base (L2.CX P w) (k + 1) (He.ga K x) fd [p0, p1, p2, p3] (sp4 K f) := by
  refine F.ok S (fun vs H Q E hh => ?_) (fun cdv A outer s H vs Q E hr hh => ?_)
  · obtain ⟨a0, a1, a2, a3, v0, v1, v2, v3, Hi, rfl, _⟩ := hh
    rfl
  · obtain ⟨a0, a1, a2, a3, v0, v1, v2, v3, Hi, rfl, sm, r0, r1, r2, r3, q⟩ := hh
    refine ⟨_, pss_wp, (h cdv A outer s H E hr a0 a1 a2 a3 ⟨Hi, H, []⟩ rfl).go _ Hi H ?_ _ (fun σ' H' z => z) ?_⟩
    · exact EnvOk.start (ps := [rp K a0, rp K a1, rp K a2, rp K a3]) sm rfl (Paired.cons r0 (Paired.cons r1 (Paired.cons r2 (Paired.cons r3 Paired.nil))))
    · exact PZ.of_fn q
theorem mkF4 {α0 α1 α2 α3 ρ : Type} [Py α0] [Py α1] [Py α2] [Py α3] [Py ρ] {P : Program} {w : World} {K : Fg} {mg : Str → Option Value} {base : Heap} {x : Str} {N : List Str} {p0 p1 p2 p3 : Str} {args : Arguments} {body : List Stmt} {sc : Scope} {k : Nat} {f : α0 → α1 → α2 → α3 → M ρ} (F : ∃ fd, FunD K x x args body sc [] [] (He.ga K x) fd) (g : mg x = some (.ref (He.ga K x))) (S : FnScope N [p0, p1, p2, p3] sc)
    (hb : ∀ (kV doc pm : Value) (an : Option Addr) (cdv ct : Value) (us : List Value), us.length = [p0, p1, p2, p3].length → bindArgs (PySem.W.fnOf x x args body sc .none kV doc pm an cdv ct) ⟨us, []⟩ = pure ([p0, p1, p2, p3].zip us))
    (h : ∀ (cdv : Value) (A : Around) (outer : List Env) (s : Shared) (H : Hp) (E : XK), Room k (cxOf (L2.CX P w) P w K mg base N x sc (He.ga K x) cdv A outer s H E).A → ∀ (a0 : α0) (a1 : α1) (a2 : α2) (a3 : α3) (b : Bs), b.own = [] → JS (cxOf (L2.CX P w) P w K mg base N x sc (He.ga K x) cdv A outer s H E) K b ([.im (rp K a0), .im (rp K a1), .im (rp K a2), .im (rp K a3)] ++ List.replicate (N.length - 4) .no) E body tlFn (f a0 a1 a2 a3) (pRt K b)) : OkF P w K mg base x (k + 1) (sp4 K f) := by
  obtain ⟨fd, F⟩ := F
  exact ⟨_, fd, [p0, p1, p2, p3], g, F.kp, mkC4 F S h, F.bindsN hb⟩
def sp5 (K : Fg) {α0 α1 α2 α3 α4 ρ : Type} [Py α0] [Py α1] [Py α2] [Py α3] [Py α4] [Py ρ] (f : α0 → α1 → α2 → α3 → α4 → M ρ) : Sp := fun vs H Q E => ∃ (a0 : α0) (a1 : α1) (a2 : α2) (a3 : α3) (a4 : α4) (v0 v1 v2 v3 v4 : V) (Hi : Hp), vs = [v0, v1, v2, v3, v4] ∧ Same Hi H ∧ Py.rep K Hi a0 v0 ∧ Py.rep K Hi a1 v1 ∧ Py.rep K Hi a2 v2 ∧ Py.rep K Hi a3 v3 ∧ Py.rep K Hi a4 v4 ∧ PV K E (f a0 a1 a2 a3 a4) Hi H Q
theorem je_call5 {α0 α1 α2 α3 α4 ρ : Type} [Py α0] [Py α1] [Py α2] [Py α3] [Py α4] [Py ρ] {X : Cx} {K : Fg} {b : Bs} {L : List En} {E : XK} {e0 e1 e2 e3 e4 : Expr} {m0 : M α0} {m1 : M α1} {m2 : M α2} {m3 : M α3} {m4 : M α4} {f : α0 → α1 → α2 → α3 → α4 → M ρ} {x : Str} {p pos : Pos} {k : Nat} (F : OkF X.prog X.w X.K X.mg X.base x k (sp5 K f)) (hr : Room k X.A) (hx : Passes (L2.CX X.prog X.w) X E) (h0 : JE X K b L E e0 m0) (h1 : JE X K b L E e1 m1) (h2 : JE X K b L E e2 m2) (h3 : JE X K b L E e3 m3) (h4 : JE X K b L E e4 m4) (hg : Gl X x := by rfl) (hdb : (x == ("__debug__" : Str)) = false := by decide) (s0 : starEach [e0, e1, e2, e3, e4] X.env = (false, eval e0 X.env) :: starEach [e1, e2, e3, e4] X.env := by rfl) (s1 : starEach [e1, e2, e3, e4] X.env = (false, eval e1 X.env) :: starEach [e2, e3, e4] X.env := by rfl) (s2 : starEach [e2, e3, e4] X.env = (false, eval e2 X.env) :: starEach [e3, e4] X.env := by rfl) (s3 : starEach [e3, e4] X.env = (false, eval e3 X.env) :: starEach [e4] X.env := by rfl) (s4 : starEach [e4] X.env = (false, eval e4 X.env) :: starEach [] X.env := by rfl) (hpl : (backTo pos (starEach [e1, e2, e3, e4] X.env)).any (·.1) = false := by rfl) : JE X K b L E (.Call (.Name x p) [e0, e1, e2, e3, e4] [] pos) (m0 >>= fun a0 => m1 >>= fun a1 => m2 >>= fun a2 => m3 >>= fun a3 => m4 >>= fun a4 => f a0 a1 a2 a3 a4) := by
  obtain ⟨fa, fd, ps, F1, F2, F3, F4⟩ := F.ex
  obtain ⟨t0, d0, q0⟩ := h0.ex
  obtain ⟨t1, d1, q1⟩ := h1.ex
  obtain ⟨t2, d2, q2⟩ := h2.ex
  obtain ⟨t3, d3, q3⟩ := h3.ex
  obtain ⟨t4, d4, q4⟩ := h4.ex
  refine .of ⟨tCall (sp5 K f) [] E (tCons t0 (tCons t1 (tCons t2 (tCons t3 (tCons t4 tNil))))), pe_call F3 hr hg F1 F2 F4 .nil hx (pa_cons d0 (pa_cons d1 (pa_cons d2 (pa_cons d3 (pa_cons d4 pa_nil s4) s3) s2) s1) s0) hdb s0 hpl, fun σ Hi H en Q h => ?_⟩
  refine q0 σ Hi H en _ ((h).bind.imp fun a0 Hi1 H1 n1 k1 v0 r0 => ?_)
  refine q1 σ Hi1 H1 (en.nx n1) _ ((k1).bind.imp fun a1 Hi2 H2 n2 k2 v1 r1 => ?_)
  refine q2 σ Hi2 H2 ((en.nx n1).nx n2) _ ((k2).bind.imp fun a2 Hi3 H3 n3 k3 v2 r2 => ?_)
  refine q3 σ Hi3 H3 (((en.nx n1).nx n2).nx n3) _ ((k3).bind.imp fun a3 Hi4 H4 n4 k4 v3 r3 => ?_)
  refine q4 σ Hi4 H4 ((((en.nx n1).nx n2).nx n3).nx n4) _ ((k4).bind.imp fun a4 Hi5 H5 n5 k5 v4 r4 => ?_)
  exact ⟨a0, a1, a2, a3, a4, v0, v1, v2, v3, v4, _, rfl, n5.sub, (Py.mono n5.im (Py.mono n4.im (Py.mono n3.im (Py.mono n2.im r0)))), (Py.mono n5.im (Py.mono n4.im (Py.mono n3.im r1))), (Py.mono n5.im (Py.mono n4.im r2)), (Py.mono n5.im r3), r4, k5⟩
theorem mkC5 {α0 α1 α2 α3 α4 ρ : Type} [Py α0] [Py α1] [Py α2] [Py α3] [Py α4] [Py ρ] {P : Program} {w : World} {K : Fg} {mg : Str → Option Value} {base : Heap} {x : Str} {N : List Str} {p0 p1 p2 p3 p4 : Str} {args : Arguments} {body : List Stmt} {sc : Scope} {k : Nat} {f : α0 → α1 → α2 → α3 → α4 → M ρ} {fd : FuncData} (F : FunD K x x args body sc [] [] (He.ga K x) fd) (S : FnScope N [p0, p1, p2, p3, p4] sc)
    (h : ∀ (cdv : Value) (A : Around) (outer : List Env) (s : Shared) (H : Hp) (E : XK), Room k (cxOf (L2.CX P w) P w K mg base N x sc (He.ga K x) cdv A outer s H E).A → ∀ (a0 : α0) (a1 : α1) (a2 : α2) (a3 : α3) (a4 : α4) (b : Bs), b.own = [] → JS (cxOf (L2.CX P w) P w K mg base N x sc (He.ga K x) cdv A outer s H E) K b ([.im (rp K a0), .im (rp K a1), .im (rp K a2), .im (rp K a3), .im (rp K a4)] ++ List.replicate (N.length - 5) .no) E body tlFn (f a0 a1 a2 a3 a4) (pRt K b)) : FnOk P w K mg base (L2.CX P w) (k + 1) (He.ga K x) fd [p0, p1, p2, p3, p4] (sp5 K f) := by
  refine F.ok S (fun vs H Q E hh => ?_) (fun cdv A outer s H vs Q E hr hh => ?_)
  · obtain ⟨a0, a1, a2, a3, a4, v0, v1, v2, v3, v4, Hi, rfl, _⟩ := hh
    rfl
  · obtain ⟨a0, a1, a2, a3, a4, v0, v1, v2, v3, v4, Hi, rfl, sm, r0, r1, r2, r3, r4, q⟩ := hh
    refine ⟨_, pss_wp, (h cdv A outer s H E hr a0 a1 a2 a3 a4 ⟨Hi, H, []⟩ rfl).go _ Hi H ?_ _ (fun σ' H' z => z) ?_⟩
    · exact EnvOk.start (ps := [rp K a0, rp K a1, rp K a2, rp K a3, rp K a4]) sm rfl (Paired.cons r0 (Paired.cons r1 (Paired.cons r2 (Paired.cons r3 (Paired.cons r4 Paired.nil)))))
    · exact PZ.of_fn q
theorem mkF5 {α0 α1 α2 α3 α4 ρ : Type} [Py α0] [Py α1] [Py α2] [Py α3] [Py α4] [Py ρ] {P : Program} {w : World} {K : Fg} {mg : Str → Option Value} {base : Heap} {x : Str} {N : List Str} {p0 p1 p2 p3 p4 : Str} {args : Arguments} {body : List Stmt} {sc : Scope} {k : Nat} {f : α0 → α1 → α2 → α3 → α4 → M ρ} (F : ∃ fd, FunD K x x args body sc [] [] (He.ga K x) fd) (g : mg x = some (.ref (He.ga K x))) (S : FnScope N [p0, p1, p2, p3, p4] sc)
    (hb : ∀ (kV doc pm : Value) (an : Option Addr) (cdv ct : Value) (us : List Value), us.length = [p0, p1, p2, p3, p4].length → bindArgs (PySem.W.fnOf x x args body sc .none kV doc pm an cdv ct) ⟨us, []⟩ = pure ([p0, p1, p2, p3, p4].zip us))
    (h : ∀ (cdv : Value) (A : Around) (outer : List Env) (s : Shared) (H : Hp) (E : XK), Room k (cxOf (L2.CX P w) P w K mg base N x sc (He.ga K x) cdv A outer s H E).A → ∀ (a0 : α0) (a1 : α1) (a2 : α2) (a3 : α3) (a4 : α4) (b : Bs), b.own = [] → JS (cxOf (L2.CX P w) P w K mg base N x sc (He.ga K x) cdv A outer s H E) K b ([.im (rp K a0), .im (rp K a1), .im (rp K a2), .im (rp K a3), .im (rp K a4)] ++ List.replicate (N.length - 5) .no) E body tlFn (f a0 a1 a2 a3 a4) (pRt K b)) : OkF P w K mg base x (k + 1) (sp5 K f) := by
  obtain ⟨fd, F⟩ := F
  exact ⟨_, fd, [p0, p1, p2, p3, p4], g, F.kp, mkC5 F S h, F.bindsN hb⟩
def sp6 (K : Fg) {α0 α1 α2 α3 α4 α5 ρ : Type} [Py α0] [Py α1] [Py α2] [Py α3] [Py α4] [Py α5] [Py ρ] (f : α0 → α1 → α2 → α3 → α4 → α5 → M ρ) : Sp := fun vs H Q E => ∃ (a0 : α0) (a1 : α1) (a2 : α2) (a3 : α3) (a4 : α4) (a5 : α5) (v0 v1 v2 v3 v4 v5 : V) (Hi : Hp), vs = [v0, v1, v2, v3, v4, v5] ∧ Same Hi H ∧ Py.rep K Hi a0 v0 ∧ Py.rep K Hi a1 v1 ∧ Py.rep K Hi a2 v2 ∧ Py.rep K Hi a3 v3 ∧ Py.rep K Hi a4 v4 ∧ Py.rep K Hi a5 v5 ∧ PV K E (f a0 a1 a2 a3 a4 a5) Hi H Q
theorem je_call6 {α0 α1 α2 α3 α4 α5 ρ : Type} [Py α0] [Py α1] [Py α2] [Py α3] [Py α4] [Py α5] [Py ρ] {X : Cx} {K : Fg} {b : Bs} {L : List En} {E : XK} {e0 e1 e2 e3 e4 e5 : Expr} {m0 : M α0} {m1 : M α1} {m2 : M α2} {m3 : M α3} {m4 : M α4} {m5 : M α5} {f : α0 → α1 → α2 → α3 → α4 → α5 → M ρ} {x : Str} {p pos : Pos} {k : Nat} (F : OkF X.prog X.w X.K X.mg X.base x k (sp6 K f)) (hr : Room k X.A) (hx : Passes (L2.CX X.prog X.w) X E) (h0 : JE X K b L E e0 m0) (h1 : JE X K b L E e1 m1) (h2 : JE X K b L E e2 m2) (h3 : JE X K b L E e3 m3) (h4 : JE X K b L E e4 m4) (h5 : JE X K b L E e5 m5) (hg : Gl X x := by rfl) (hdb : (x == ("__debug__" : Str)) = false := by decide) (s0 : starEach [e0, e1, e2, e3, e4, e5] X.env = (false, eval e0 X.env) :: starEach [e1, e2, e3, e4, e5] X.env := by rfl) (s1 : starEach [e1, e2, e3, e4, e5] X.env = (false, eval e1 X.env) :: starEach [e2, e3, e4, e5] X.env := by rfl) (s2 : starEach [e2, e3, e4, e5] X.env = (false, eval e2 X.env) :: starEach [e3, e4, e5] X.env := by rfl) (s3 : starEach [e3, e4, e5] X.env = (false, eval e3 X.env) :: starEach [e4, e5] X.env := by rfl) (s4 : starEach [e4, e5] X.env = (false, eval e4 X.env) :: starEach [e5] X.env := by rfl) (s5 : starEach [e5] X.env = (false, eval e5 X.env) :: starEach [] X.env := by rfl) (hpl : (backTo pos (starEach [e1, e2, e3, e4, e5] X.env)).any (·.1) = false := by rfl) : JE X K b L E (.Call (.Name x p) [e0, e1, e2, e3, e4, e5] [] pos) (m0 >>= fun a0 => m1 >>= fun a1 => m2 >>= fun a2 => m3 >>= fun a3 => m4 >>= fun a4 => m5 >>= fun a5 => f a0 a1 a2 a3 a4 a5) := by
  obtain ⟨fa, fd, ps, F1, F2, F3, F4⟩ := F.ex
  obtain ⟨t0, d0, q0⟩ := h0.ex
  obtain ⟨t1, d1, q1⟩ := h1.ex
  obtain ⟨t2, d2, q2⟩ := h2.ex
  obtain ⟨t3, d3, q3⟩ := h3.ex
  obtain ⟨t4, d4, q4⟩ := h4.ex
  obtain ⟨t5, d5, q5⟩ := h5.ex
  refine .of ⟨tCall (sp6 K f) [] E (tCons t0 (tCons t1 (tCons t2 (tCons t3 (tCons t4 (tCons t5 tNil)))))), pe_call F3 hr hg F1 F2 F4 .nil hx (pa_cons d0 (pa_cons d1 (pa_cons d2 (pa_cons d3 (pa_cons d4 (pa_cons d5 pa_nil s5) s4) s3) s2) s1) s0) hdb s0 hpl, fun σ Hi H en Q h => ?_⟩
  refine q0 σ Hi H en _ ((h).bind.imp fun a0 Hi1 H1 n1 k1 v0 r0 => ?_)
  refine q1 σ Hi1 H1 (en.nx n1) _ ((k1).bind.imp fun a1 Hi2 H2 n2 k2 v1 r1 => ?_)
  refine q2 σ Hi2 H2 ((en.nx n1).nx n2) _ ((k2).bind.imp fun a2 Hi3 H3 n3 k3 v2 r2 => ?_)
  refine q3 σ Hi3 H3 (((en.nx n1).nx n2).nx n3) _ ((k3).bind.imp fun a3 Hi4 H4 n4 k4 v3 r3 => ?_)
  refine q4 σ Hi4 H4 ((((en.nx n1).nx n2).nx n3).nx n4) _ ((k4).bind.imp fun a4 Hi5 H5 n5 k5 v4 r4 => ?_)
  refine q5 σ Hi5 H5 (((((en.nx n1).nx n2).nx n3).nx n4).nx n5) _ ((k5).bind.imp fun a5 Hi6 H6 n6 k6 v5 r5 => ?_)
  exact ⟨a0, a1, a2, a3, a4, a5, v0, v1, v2, v3, v4, v5, _, rfl, n6.sub, (Py.mono n6.im (Py.mono n5.im (Py.mono n4.im (Py.mono n3.im (Py.mono n2.im r0))))), (Py.mono n6.im (Py.mono n5.im (Py.mono n4.im (Py.mono n3.im r1)))), (Py.mono n6.im (Py.mono n5.im (Py.mono n4.im r2))), (Py.mono n6.im (Py.mono n5.im r3)), (Py.mono n6.im r4), r5, k6⟩
theorem mkC6 {α0 α1 α2 α3 α4 α5 ρ : Type} [Py α0] [Py α1] [Py α2] [Py α3] [Py α4] [Py α5] [Py ρ] {P : Program} {w : World} {K : Fg} {mg : Str → Option Value} {base : Heap} {x : Str} {N : List Str} {p0 p1 p2 p3 p4 p5 : Str} {args : Arguments} {body : List Stmt} {sc : Scope} {k : Nat} {f : α0 → α1 → α2 → α3 → α4 → α5 → M ρ} {fd : FuncData} (F : FunD K x x args body sc [] [] (He.ga K x) fd) (S : FnScope N [p0, p1, p2, p3, p4, p5] sc)
    (h : ∀ (cdv : Value) (A : Around) (outer : List Env) (s : Shared) (H : Hp) (E : XK), Room k (cxOf (L2.CX P w) P w K mg base N x sc (He.ga K x) cdv A outer s H E).A → ∀ (a0 : α0) (a1 : α1) (a2 : α2) (a3 : α3) (a4 : α4) (a5 : α5) (b : Bs), b.own = [] → JS (cxOf (L2.CX P w) P w K mg base N x sc (He.ga K x) cdv A outer s H E) K b ([.im (rp K a0), .im (rp K a1), .im (rp K a2), .im (rp K a3), .im (rp K a4), .im (rp K a5)] ++ List.replicate (N.length - 6) .no) E body tlFn (f a0 a1 a2 a3 a4 a5) (pRt K b)) : FnOk P w K mg base (L2.CX P w) (k + 1) (He.ga K x) fd [p0, p1, p2, p3, p4, p5] (sp6 K f) := by
  refine F.ok S (fun vs H Q E hh => ?_) (fun cdv A outer s H vs Q E hr hh => ?_)
  · obtain ⟨a0, a1, a2, a3, a4, a5, v0, v1, v2, v3, v4, v5, Hi, rfl, _⟩ := hh
    rfl
  · obtain ⟨a0, a1, a2, a3, a4, a5, v0, v1, v2, v3, v4, v5, Hi, rfl, sm, r0, r1, r2, r3, r4, r5, q⟩ := hh
    refine ⟨_, pss_wp, (h cdv A outer s H E hr a0 a1 a2 a3 a4 a5 ⟨Hi, H, []⟩ rfl).go _ Hi H ?_ _ (fun σ' H' z => z) ?_⟩
    · exact EnvOk.start (ps := [rp K a0, rp K a1, rp K a2, rp K a3, rp K a4, rp K a5]) sm rfl (Paired.cons r0 (Paired.cons r1 (Paired.cons r2 (Paired.cons r3 (Paired.cons r4 (Paired.cons r5 Paired.nil))))))
    · exact PZ.of_fn q
theorem mkF6 {α0 α1 α2 α3 α4 α5 ρ : Type} [Py α0] [Py α1] [Py α2] [Py α3] [Py α4] [Py α5] [Py ρ] {P : Program} {w : World} {K : Fg} {mg : Str → Option Value} {base : Heap} {x : Str} {N : List Str} {p0 p1 p2 p3 p4 p5 : Str} {args : Arguments} {body : List Stmt} {sc : Scope} {k : Nat} {f : α0 → α1 → α2 → α3 → α4 → α5 → M ρ} (F : ∃ fd, FunD K x x args body sc [] [] (He.ga K x) fd) (g : mg x = some (.ref (He.ga K x))) (S : FnScope N [p0, p1, p2, p3, p4, p5] sc)
    (hb : ∀ (kV doc pm : Value) (an : Option Addr) (cdv ct : Value) (us : List Value), us.length = [p0, p1, p2, p3, p4, p5].length → bindArgs (PySem.W.fnOf x x args body sc .none kV doc pm an cdv ct) ⟨us, []⟩ = pure ([p0, p1, p2, p3, p4, p5].zip us))
    (h : ∀ (cdv : Value) (A : Around) (outer : List Env) (s : Shared) (H : Hp) (E : XK), Room k (cxOf (L2.CX P w) P w K mg base N x sc (He.ga K x) cdv A outer s H E).A → ∀ (a0 : α0) (a1 : α1) (a2 : α2) (a3 : α3) (a4 : α4) (a5 : α5) (b : Bs), b.own = [] → JS (cxOf (L2.CX P w) P w K mg base N x sc (He.ga K x) cdv A outer s H E) K b ([.im (rp K a0), .im (rp K a1), .im (rp K a2), .im (rp K a3), .im (rp K a4), .im (rp K a5)] ++ List.replicate (N.length - 6) .no) E body tlFn (f a0 a1 a2 a3 a4 a5) (pRt K b)) : OkF P w K mg base x (k + 1) (sp6 K f) := by
  obtain ⟨fd, F⟩ := F
  exact ⟨_, fd, [p0, p1, p2, p3, p4, p5], g, F.kp, mkC6 F S h, F.bindsN hb⟩
end G

set_option Elab.async false
set_option linter.all false
set_option maxRecDepth 100000
set_option maxHeartbeats 2000000
namespace G
open PySem L2 TL

/-! ### heaps: floors, fresh objects -/
def Bs.fl (b : Bs) (F : Hp) : Bs := ⟨F, b.H, b.own⟩
section
variable {b : Bs} {L : List En} {σ : L2.St} {F Hi H Hi' H' H0 : Hp}
theorem Ok.up (o : Ok b Hi H) : Ok (b.fl Hi) Hi H := ⟨o.sub, Same.refl _, o.fr, o.keep, fun _ _ h => h⟩
theorem Ok.down (o : Ok b F H0) (o' : Ok (b.fl F) Hi H) : Ok b Hi H := ⟨o'.sub, o.base.trans o'.base, o'.fr, o'.keep, fun a h n => o'.cap a h (o.cap a h n)⟩
theorem EnvOk.up (e : EnvOk b L σ Hi H) : EnvOk (b.fl Hi) L σ Hi H := ⟨e.ok.up, e.len, e.im, e.mu, e.dis⟩
theorem EnvOk.down (o : Ok b F H0) (e : EnvOk (b.fl F) L σ Hi H) : EnvOk b L σ Hi H := ⟨o.down e.ok, e.len, e.im, e.mu, e.dis⟩
theorem EnvOk.to {L' : List En} (e : EnvOk b L σ Hi H) (h : L = L') : EnvOk b L' σ Hi H := h ▸ e
/-- a name comes to hold a fresh object alone -/
theorem EnvOk.setFresh {i : Nat} {c : Ct} {p : Addr} {o : HO} (e : EnvOk b L σ Hi H) (x : Nx Hi H Hi' H') (hp : H' p = some o) (hn : H p = none) (hpi : Hi' p = none) (r : c.r Hi' o) : EnvOk b (L.set i (.mu c)) (σ.set i (some (.ref p))) Hi' H' := by
  have e1 := e.nx x
  have hpb : b.H p = none := by
    cases q : b.H p with
    | none => rfl
    | some u => exact absurd hn (e.ok.keep p (by rw [q]; exact fun z => nomatch z))
  have old : ∀ {j : Nat} {d : Ct} {a : Addr}, L[j]? = some (.mu d) → σ[j]? = some (some (.ref a)) → a ≠ p := fun {j d a} h1 h2 z => by
    obtain ⟨a', o', g1, g2, _⟩ := e.mu j d h1
    rw [h2] at g1
    cases g1
    rw [z, hn] at g2
    cases g2
  have hi : ∀ {j : Nat}, i = j → ∀ {en : En}, (L.set i (En.mu c))[j]? = some en → en = .mu c ∧ i < L.length := fun {j} hj {en} h => by
    subst hj
    have hl : i < (L.set i (En.mu c)).length := (List.getElem?_eq_some_iff.mp h).1
    rw [List.length_set] at hl
    rw [List.getElem?_set_self hl] at h
    cases h
    exact ⟨rfl, hl⟩
  refine ⟨e1.ok, by rw [List.length_set, List.length_set]; exact e.len, fun j q h => ?_, fun j d h => ?_, fun j k d f a h1 h2 h3 h4 => ?_⟩
  · by_cases hj : i = j
    · exact nomatch (hi hj h).1
    · rw [List.getElem?_set_ne hj] at h ⊢
      exact e1.im j q h
  · by_cases hj : i = j
    · obtain ⟨h5, h6⟩ := hi hj h
      cases h5
      subst hj
      exact ⟨p, o, List.getElem?_set_self (by rw [e.len]; exact h6), hp, hpi, .inr hpb, r⟩
    · rw [List.getElem?_set_ne hj] at h ⊢
      exact e1.mu j d h
  · by_cases hj : i = j
    · by_cases hk : i = k
      · exact hj.symm.trans hk
      · obtain ⟨_, h6⟩ := hi hj h1
        subst hj
        rw [List.getElem?_set_self (by rw [e.len]; exact h6)] at h3
        cases h3
        rw [List.getElem?_set_ne hk] at h2 h4
        exact absurd rfl (old h2 h4)
    · by_cases hk : i = k
      · obtain ⟨_, h6⟩ := hi hk h2
        subst hk
        rw [List.getElem?_set_self (by rw [e.len]; exact h6)] at h4
        cases h4
        rw [List.getElem?_set_ne hj] at h1 h3
        exact absurd rfl (old h1 h3)
      · rw [List.getElem?_set_ne hj] at h1 h3
        rw [List.getElem?_set_ne hk] at h2 h4
        exact e.dis j k d f a h1 h2 h3 h4
end
/-- the content of a list that a name holds alone -/
def ctL (K : Fg) {α : Type} [Py α] (xs : List α) : Ct := ⟨fun H o => ∃ vs, o = .lst vs ∧ Rl K H xs vs, fun e ⟨vs, h1, h2⟩ => ⟨vs, h1, h2.mono e⟩⟩
/-- an expression that makes a fresh object -/
def PF (K : Fg) (E : XK) {α : Type} (c : α → Ct) (m : M α) (Hi H : Hp) (Q : VK) : Prop :=
  PX K E m Hi H fun a Hi' H' => ∀ p o, H' p = some o → H p = none → Hi' p = none → (c a).r Hi' o → Q (.ref p) H'
structure JF (X : Cx) (K : Fg) (b : Bs) (L : List En) (E : XK) (e : Expr) {α : Type} (c : α → Ct) (m : M α) : Prop where
  go : ∀ σ Hi H, EnvOk b L σ Hi H → ∀ Q : VK, PF K E c m Hi H Q → wpE X e σ H Q

section
variable {X : Cx} {K : Fg} {mg : Str → Option Value} {b : Bs} {L L' : List En} {E : XK} {e e1 e2 : Expr} {st : Stmt} {rest body a bb : List Stmt} {α β γ S R : Type} {pos p' p2 p3 : Pos} {tl : Ends → Prop} {post : α → Ends → Prop}
theorem js_cons {m1 : M S} {Lf : S → List En} {m2 : S → M α} (h1 : J1 X K b L E st m1 Lf) (h2 : ∀ s, JS X K b (Lf s) E rest tl (m2 s) post) : JS X K b L E (st :: rest) tl (m1 >>= fun s => m2 s) post :=
  ⟨fun σ Hi H en D htl hz => PSs.wp (pss_cons ps_wp pss_wp) (h1.go σ Hi H en _ (hz.bindz.imp fun s q σ' Hi' H' en' => (h2 s).go σ' Hi' H' en' D htl q))⟩
theorem js_nilP {Lf : S → List En} {s : S} (w : Wk L (Lf s)) : JS X K b L E [] tl (pure s) (pNx b Lf) :=
  ⟨fun σ Hi H en D _ hz => PSs.wp pss_nil (show D.nx σ H from hz σ Hi H (en.wk w))⟩
theorem js_nilF : JS X K b L E [] tlFn (pure () : M Unit) (pRt K b) :=
  ⟨fun σ Hi H en D ht hz => PSs.wp pss_nil (show D.nx σ H from ht σ H (hz .non Hi H en.ok rfl))⟩
theorem js_nilL [Py R] {Lf : S → List En} {s : S} (w : Wk L (Lf s)) : JS X K b L E [] tlLp (pure (.ct s) : M (Tl S R)) (pTl K b Lf) :=
  ⟨fun σ Hi H en D ht hz => PSs.wp pss_nil (show D.nx σ H from ht σ H ((show ∀ σ' Hi' H', EnvOk b (Lf s) σ' Hi' H' → D.ct σ' H' from hz) σ Hi H (en.wk w)))⟩
theorem PZ.ret [Py R] {m : M R} {D : Ends} {σ : L2.St} {Hi H : Hp} (en : EnvOk b L σ Hi H) (hz : PZ K E b m fun a => pRt K b a D) : PV K E m Hi H D.rt := by
  cases m with
  | ok a => exact fun Hi' H' x v r => hz v Hi' H' (en.nx x).ok r
  | error z =>
    cases z with
    | rs c => exact fun Hi' H' x => hz Hi' H' (en.nx x).ok
    | st => exact hz
theorem js_ret [Py R] {m : M R} (h : JE X K b L E e m) : JS X K b L E (.Return (some e) pos :: rest) tl m (pRt K b) :=
  ⟨fun σ Hi H en D _ hz => PSs.wp (pss_cons (ps_ret pe_wp) pss_wp) (h.go σ Hi H en D.rt (hz.ret en))⟩
theorem js_retL [Py R] {m : M R} {Lf : S → List En} (h : JE X K b L E e m) : JS X K b L E (.Return (some e) pos :: rest) tl (m >>= fun r => pure (.rt r) : M (Tl S R)) (pTl K b Lf) :=
  ⟨fun σ Hi H en D _ hz => PSs.wp (pss_cons (ps_ret pe_wp) pss_wp) (h.go σ Hi H en D.rt (PZ.ret en (hz.bindz.imp fun r q => q)))⟩
theorem js_retN : JS X K b L E (.Return none pos :: rest) tl (pure () : M Unit) (pRt K b) :=
  ⟨fun σ Hi H en D _ hz => PSs.wp (pss_cons ps_retN pss_wp) (show D.rt .non H from hz .non Hi H en.ok rfl)⟩
theorem js_brk [Py R] {Lf : S → List En} {s : S} (w : Wk L (Lf s)) : JS X K b L E (.Break pos :: rest) tl (pure (.bk s) : M (Tl S R)) (pTl K b Lf) :=
  ⟨fun σ Hi H en D _ hz => PSs.wp (pss_cons ps_break pss_wp) (show D.bk σ H from (show ∀ σ' Hi' H', EnvOk b (Lf s) σ' Hi' H' → D.bk σ' H' from hz) σ Hi H (en.wk w))⟩
theorem js_cnt [Py R] {Lf : S → List En} {s : S} (w : Wk L (Lf s)) : JS X K b L E (.Continue pos :: rest) tl (pure (.ct s) : M (Tl S R)) (pTl K b Lf) :=
  ⟨fun σ Hi H en D _ hz => PSs.wp (pss_cons ps_continue pss_wp) (show D.ct σ H from (show ∀ σ' Hi' H', EnvOk b (Lf s) σ' Hi' H' → D.ct σ' H' from hz) σ Hi H (en.wk w))⟩
theorem js_raise {c : Str} {m : Str} {j : Nat} {pp : Pos} (tk : Takes X (fun cls d _ H => E cls d H)) (hc : X.calm = true) (gC : X.mg c = some (.ref (He.ga X.K c))) (hx : (He.Fa.exc c).ok X.K = true) (hK : X.K = K := by rfl) (hg : Gl X c := by rfl) (hdb : (c == ("__debug__" : Str)) = false := by decide) :
    JS X K b L E (.Raise (some (.Call (.Name c pp) [.Constant (.str m) j p2] [] p3)) none pos :: rest) tl (raise c : M α) post := by
  obtain ⟨q1, q2, q3, q4⟩ := He.exc_ok hx
  subst hK
  exact ⟨fun σ Hi H en D _ hz => PSs.wp (pss_cons (ps_raise hc tk (pmk_own PySem.F.excBase_ValueError q1 gC q2 (raises_own q3 q4) hg hdb)) pss_wp) (show E (.ref (He.ga X.K c)) none H from (show ∀ Hi' H', Ok b Hi' H' → E (.ref (He.ga X.K c)) none H' from hz) Hi H en.ok)⟩
theorem js_if2 {c : Expr} {mc : M Bool} {ma mb : M α} (h : JT X K b L E c mc) (h1 : JS X K b L E a tl ma post) (h2 : JS X K b L E bb tl mb post) : JS X K b L E [.If c a bb pos] tl (mc >>= fun t => if t = true then ma else mb) post :=
  ⟨fun σ Hi H en D ht hz => PSs.wp (pss_one (ps_if pt_wp pss_wp pss_wp)) (h.go σ Hi H en _ ((PZ.bind en hz).imp fun t Hi' H' x q => by
    cases t with
    | true =>
      rw [if_pos rfl] at q ⊢
      exact h1.go σ Hi' H' (en.nx x) D ht q
    | false =>
      rw [if_neg Bool.false_ne_true] at q ⊢
      exact h2.go σ Hi' H' (en.nx x) D ht q))⟩
theorem js_if1 {c : Expr} {mc : M Bool} {ma mr : M α} (pi : PiOk post) (h : JT X K b L E c mc) (h1 : JS X K b L E a tlAny ma post) (h2 : JS X K b L E rest tl mr post) : JS X K b L E (.If c a [] pos :: rest) tl (mc >>= fun t => if t = true then ma else mr) post :=
  ⟨fun σ Hi H en D ht hz => PSs.wp (pss_cons (ps_if pt_wp pss_wp pss_nil) pss_wp) (h.go σ Hi H en _ ((PZ.bind en hz).imp fun t Hi' H' x q => by
    cases t with
    | true =>
      rw [if_pos rfl] at q ⊢
      exact h1.go σ Hi' H' (en.nx x) _ trivial (q.imp fun a h => pi a D _ h)
    | false =>
      rw [if_neg Bool.false_ne_true] at q ⊢
      exact h2.go σ Hi' H' (en.nx x) D ht q))⟩
/-- the first branch ends, the other one goes on -/
theorem js_if1E {c : Expr} {mc : M Bool} {ma : M α} {mb : M S} {Lf : S → List En} {mr : S → M α} (pi : PiOk post) (h : JT X K b L E c mc) (h1 : JS X K b L E a tlAny ma post) (h3 : JS X K b L E bb tlAny mb (pNx b Lf)) (h2 : ∀ s, JS X K b (Lf s) E rest tl (mr s) post) :
    JS X K b L E (.If c a bb pos :: rest) tl (mc >>= fun t => if t = true then ma else (mb >>= fun s => mr s)) post :=
  ⟨fun σ Hi H en D ht hz => PSs.wp (pss_cons (ps_if pt_wp pss_wp pss_wp) pss_wp) (h.go σ Hi H en _ ((PZ.bind en hz).imp fun t Hi' H' x q => by
    cases t with
    | true =>
      rw [if_pos rfl] at q ⊢
      exact h1.go σ Hi' H' (en.nx x) _ trivial (q.imp fun a h => pi a D _ h)
    | false =>
      rw [if_neg Bool.false_ne_true] at q ⊢
      exact h3.go σ Hi' H' (en.nx x) _ trivial (q.bindz.imp fun s z σ2 Hi2 H2 en2 => (h2 s).go σ2 Hi2 H2 en2 D ht z)))⟩
theorem js_if1F {c : Expr} {mc : M Bool} {ma : M α} {mb : M S} {Lf : S → List En} {mr : S → M α} (pi : PiOk post) (h : JT X K b L E c mc) (h1 : JS X K b L E bb tlAny ma post) (h3 : JS X K b L E a tlAny mb (pNx b Lf)) (h2 : ∀ s, JS X K b (Lf s) E rest tl (mr s) post) :
    JS X K b L E (.If c a bb pos :: rest) tl (mc >>= fun t => if t = true then (mb >>= fun s => mr s) else ma) post :=
  ⟨fun σ Hi H en D ht hz => PSs.wp (pss_cons (ps_if pt_wp pss_wp pss_wp) pss_wp) (h.go σ Hi H en _ ((PZ.bind en hz).imp fun t Hi' H' x q => by
    cases t with
    | false =>
      rw [if_neg Bool.false_ne_true] at q ⊢
      exact h1.go σ Hi' H' (en.nx x) _ trivial (q.imp fun a h => pi a D _ h)
    | true =>
      rw [if_pos rfl] at q ⊢
      exact h3.go σ Hi' H' (en.nx x) _ trivial (q.bindz.imp fun s z σ2 Hi2 H2 en2 => (h2 s).go σ2 Hi2 H2 en2 D ht z)))⟩
theorem j1_if {c : Expr} {mc : M Bool} {ma mb : M S} {Lf : S → List En} (h : JT X K b L E c mc) (h1 : JS X K b L E a tlAny ma (pNx b Lf)) (h2 : JS X K b L E bb tlAny mb (pNx b Lf)) : J1 X K b L E (.If c a bb pos) (mc >>= fun t => if t = true then ma else mb) Lf :=
  ⟨fun σ Hi H en D hz => PS.wp (ps_if pt_wp pss_wp pss_wp) (h.go σ Hi H en _ ((PZ.bind en hz).imp fun t Hi' H' x q => by
    cases t with
    | true =>
      rw [if_pos rfl] at q ⊢
      exact h1.go σ Hi' H' (en.nx x) D trivial q
    | false =>
      rw [if_neg Bool.false_ne_true] at q ⊢
      exact h2.go σ Hi' H' (en.nx x) D trivial q))⟩
theorem js_wk {m : M α} (w : Wk L L') (h : JS X K b L' E rest tl m post) : JS X K b L E rest tl m post := ⟨fun σ Hi H en D ht hz => h.go σ Hi H (en.wk w) D ht hz⟩
theorem j1_pass : J1 X K b L E (.Pass pos) (pure ()) (fun _ => L) := ⟨fun σ Hi H en D hz => PS.wp ps_pass (show D.nx σ H from hz σ Hi H en)⟩

/-! assignments -/
theorem j1_set [Py α] {m : M α} (i : Nat) {x : Str} (h : JE X K b L E e m) (hN : X.N.Nodup) (hi : X.N[i]? = some x := by rfl) (hx : Loc X.env.scope x := by first | exact Or.inl rfl | exact Or.inr rfl) (hs : swapsWith e (some (.Name x p')) pos.line X.env = pure false := by rfl)
    (hf : X.fn x = true ∨ X.env.scope.names.lookup x = some .local := by first | exact .inl rfl | exact .inr rfl) : J1 X K b L E (.Assign [.Name x p'] e pos) m (fun a => L.set i (.im (rp K a))) :=
  ⟨fun σ Hi H en D hz => PS.wp (ps_set hN hi hx pe_wp hs hf) (h.go σ Hi H en _ ((PZ.px en hz).imp fun a Hi' H' x q v r => q _ Hi' H' ((en.nx x).set (p := rp K a) r)))⟩
theorem j1_setF {m : M α} {c : α → Ct} (i : Nat) {x : Str} (h : JF X K b L E e c m) (hN : X.N.Nodup) (hi : X.N[i]? = some x := by rfl) (hx : Loc X.env.scope x := by first | exact Or.inl rfl | exact Or.inr rfl) (hs : swapsWith e (some (.Name x p')) pos.line X.env = pure false := by rfl)
    (hf : X.fn x = true ∨ X.env.scope.names.lookup x = some .local := by first | exact .inl rfl | exact .inr rfl) : J1 X K b L E (.Assign [.Name x p'] e pos) m (fun a => L.set i (.mu (c a))) :=
  ⟨fun σ Hi H en D hz => PS.wp (ps_set hN hi hx pe_wp hs hf) (h.go σ Hi H en _ ((PZ.px en hz).imp fun a Hi' H' x q p o h1 h2 h3 h4 => q _ Hi' H' (en.setFresh x h1 h2 h3 h4)))⟩
theorem j1_drop [Py α] {m : M α} (h : JE X K b L E e m) (hs : swapsWith e none pos.line X.env = pure false := by rfl) : J1 X K b L E (.Expr e pos) (m >>= fun _ => pure ()) (fun _ => L) :=
  ⟨fun σ Hi H en D hz => PS.wp (ps_expr pe_wp hs) (h.go σ Hi H en _ ((PZ.bind en hz).imp fun a Hi' H' x q v r => (show ∀ σ' Hi' H', EnvOk b L σ' Hi' H' → D.nx σ' H' from q) _ Hi' H' (en.nx x)))⟩
theorem jf_lst [Py α] {es : List Expr} {m : M (List α)} (h : JL X K b L E es m) (hl : es.length ≤ 1000 := by decide) : JF X K b L E (.List es pos) (ctL K) m :=
  ⟨fun σ Hi H en Q hq => PE.wp (pe_lst pa_wp) (h.go σ Hi H en _ (by
    have l := h.len
    cases m with
    | error z => cases z with
      | rs c => exact hq
      | st => exact hq
    | ok xs =>
      refine fun Hi1 H1 n1 vs rvs => ⟨?_, fun q hq1 => ?_⟩
      · rw [← rvs.length, l xs rfl]
        exact Nat.le_trans hl (by decide)
      · have nq : H q = none := by
          cases z : H q with
          | none => rfl
          | some u => rw [n1.al q u z] at hq1; cases hq1
        exact (PX.go (a := xs) hq (n1.trans (Nx.temp n1.sub hq1))) q _ upd_same nq (hi_none n1.sub hq1) ⟨vs, rfl, rvs⟩))⟩
/-- told for good -/
theorem js_frz [Py α] {β : Type} {m : M β} {post : β → Ends → Prop} (i : Nat) {xs : List α} (h : JS X K b (L.set i (.im (rp K xs))) E rest tl m post) (hn : b.own = []) (hL : L[i]? = some (.mu (ctL K xs)) := by rfl) : JS X K b L E rest tl m post :=
  ⟨fun σ Hi H en D ht hz => by
    obtain ⟨Hi', en'⟩ := en.frz (p := rp K xs) hL hn (fun a Hi' o sm hr ha => by
      obtain ⟨vs, rfl, r⟩ := hr
      exact ⟨a, vs, rfl, .of ha, r.mono sm⟩)
    exact h.go σ Hi' H en' D ht hz⟩
theorem EnvOk.muL [Py α] {σ : L2.St} {Hi H : Hp} {i : Nat} {xs : List α} (en : EnvOk b L σ Hi H) (hL : L[i]? = some (.mu (ctL K xs))) : ∃ p vs, σ[i]? = some (some (V.ref p)) ∧ H p = some (.lst vs) ∧ Rl K Hi xs vs := by
  obtain ⟨p, o, h1, h2, _, _, vs, rfl, r⟩ := en.mu i _ hL
  exact ⟨p, vs, h1, h2, r⟩
theorem j1_append [Py α] {m : M α} (i : Nat) {x : Str} {xs : List α} {apos : Pos} {pn : Pos} (h : JE X K b L E e m) (hL : L[i]? = some (.mu (ctL K xs)) := by rfl) (hN : X.N[i]? = some x := by rfl) (hv : Vis X.env.scope x := by first | exact Or.inl rfl | exact Or.inr (Or.inl rfl) | exact Or.inr (Or.inr rfl))
    (hd : (x == ("__debug__" : Str)) = false := by decide) (hcd : (x == ("__classdict__" : Str)) = false := by decide) (hs1 : starEach [e] X.env = (false, eval e X.env) :: starEach [] X.env := by rfl)
    (hbase : attributeBase (.Name x pn) "append" X.env (eval (.Name x pn) X.env) = eval (.Name x pn) X.env := by rfl)
    (hfew : ((backTo p2 (starEach [e] X.env)).all (fun x => !x.1) && (backToKw p2 (keywordEach [] X.env)).all (fun x => x.1.isSome) && decide ([e].length + ([] : List Keyword).length + (if ([] : List Keyword).isEmpty then 0 else 1) < 30)) = true := by rfl)
    (hline : (apos.endLine == p2.line) = true := by rfl) (hplain : (backTo p2 (starEach [] X.env)).any (·.1) = false := by rfl)
    (hs : swapsWith (.Call (.Attribute (.Name x pn) "append" apos) [e] [] p2) none pos.line X.env = pure false := by rfl) :
    J1 X K b L E (.Expr (.Call (.Attribute (.Name x pn) "append" apos) [e] [] p2) pos) (m >>= fun a => chk (xs.length < SZ) >>= fun _ => pure a) (fun a => L.set i (.mu (ctL K (xs ++ [a])))) :=
  ⟨fun σ Hi H en D hz => by
    obtain ⟨p, vs, h1, h2, r⟩ := en.muL hL
    refine PS.wp (ps_expr (pe_bm PySem.F.plainAttrs_list PySem.F.slot_list_append PySem.F.type_list_append mt_append (pe_var hN hv hd hcd) (pa_cons pe_wp pa_nil hs1) hbase hfew hline hs1 hplain) hs) ?_
    refine ⟨_, h1, .inl ⟨rfl, _, SqL.of h2⟩, h.go σ Hi H en _ ((PZ.bind en hz).imp fun a Hi' H' y q v rv => ?_)⟩
    obtain ⟨c, q⟩ := PZ.chk q
    have en' := en.nx y
    refine ⟨p, vs, v, rfl, rfl, y.al _ _ h2, ?_, ?_⟩
    · rw [← r.length]; exact c
    · exact (show ∀ σ' Hi' H', EnvOk b (L.set i (.mu (ctL K (xs ++ [a])))) σ' Hi' H' → D.nx σ' H' from q) _ Hi' _ (en'.mut (c' := ctL K (xs ++ [a])) hL h1 ⟨_, rfl, (r.mono y.im).app (.cons rv .nil)⟩)⟩
theorem j1_setIx [Py α] {m : M α} {mi : M Int} (i : Nat) {x : Str} {xs : List α} {pn : Pos} (h : JE X K b L E e m) (hj : JE X K b L E e1 mi) (hL : L[i]? = some (.mu (ctL K xs)) := by rfl) (hN : X.N[i]? = some x := by rfl) (hv : Vis X.env.scope x := by first | exact Or.inl rfl | exact Or.inr (Or.inl rfl) | exact Or.inr (Or.inr rfl))
    (hd : (x == ("__debug__" : Str)) = false := by decide) (hcd : (x == ("__classdict__" : Str)) = false := by decide) (hs : swapsWithSole [.Subscript (.Name x pn) e1 p'] e pos.line X.env = pure false := by rfl) (hw : swappedStores [.Subscript (.Name x pn) e1 p'] e X.env = pure none := by rfl)
    (hset : ∀ v, assign (.Subscript (.Name x pn) e1 p') X.env v = (do
      let ov ← holding [v] (eval (.Name x pn) X.env)
      let iv ← holding [v, ov] (eval e1 X.env)
      standAt p'
      holding [v, ov, iv] (setItem ov iv v)
      release [v, ov, iv] []) := by intro _; rfl) :
    J1 X K b L E (.Assign [.Subscript (.Name x pn) e1 p'] e pos) (m >>= fun a => mi >>= fun k => ofO (ixN xs.length k) >>= fun j => pure (xs.set j a)) (fun ys => L.set i (.mu (ctL K ys))) :=
  ⟨fun σ Hi H en D hz => by
    obtain ⟨p, vs, h1, h2, r⟩ := en.muL hL
    refine PS.wp (ps_asg pe_wp (pg_sub (pe_var hN hv hd hcd) pe_wp set_list hset) hs hw) ?_
    refine h.go σ Hi H en _ ((PZ.bind en hz).imp fun a Hi1 H1 y1 q1 v rv => ?_)
    refine ⟨_, h1, hj.go σ Hi1 H1 (en.nx y1) _ ((PZ.bind (en.nx y1) q1).imp fun k Hi2 H2 y2 q2 w rw => ?_)⟩
    have en' := (en.nx y1).nx y2
    have hr := r.length
    cases z : ixN xs.length k with
    | none => rw [z] at q2; exact q2.elim
    | some j =>
      rw [z] at q2
      refine ⟨p, vs, k, j, rfl, rw, y2.al _ _ (y1.al _ _ h2), by rw [← hr]; exact z, ?_⟩
      exact (show ∀ σ' Hi' H', EnvOk b (L.set i (.mu (ctL K (xs.set j a)))) σ' Hi' H' → D.nx σ' H' from q2) _ Hi2 _ (en'.mut (c' := ctL K (xs.set j a)) hL h1 ⟨_, rfl, Rl.set (Py.mono y2.im rv) j (r.mono (y1.im.trans y2.im))⟩)⟩
/-- a name op= e -/
theorem j1_aug [Py α] [Py β] [Py γ] {m : M β} {op : Operator} {r : R2} {f : α → β → M γ} (i : Nat) {x : Str} {x0 : α} (ho : OpR X (inplaceOp op) r) (hr : RO K E r f) (h : JE X K b L E e m) (hN : X.N.Nodup) (hL : L[i]? = some (.im (rp K x0)) := by rfl) (hi : X.N[i]? = some x := by rfl)
    (hx : Loc X.env.scope x := by first | exact Or.inl rfl | exact Or.inr rfl) (hf : X.fn x = true ∨ X.env.scope.names.lookup x = some .local := by first | exact .inl rfl | exact .inr rfl) :
    J1 X K b L E (.AugAssign (.Name x p') op e pos) (m >>= fun y => f x0 y) (fun z => L.set i (.im (rp K z))) :=
  ⟨fun σ Hi H en D hz => by
    obtain ⟨v, h1, h2⟩ := en.im i _ hL
    refine PS.wp (ps_aug hN hi hx pe_wp (show PIp X op r from ho) hf) ⟨v, h1, h.go σ Hi H en _ ((PZ.bind en hz).imp fun y Hi' H' n q w rw => ?_)⟩
    exact hr x0 y v w Hi' H' _ n.sub (Py.mono n.im h2) rw ((PZ.px (en.nx n) q).imp fun z Hi2 H2 n2 q2 u ru => q2 _ Hi2 H2 (((en.nx n).nx n2).set (p := rp K z) ru))⟩
/-- len of a list that a name holds alone -/
theorem je_lenM [Py α] (i : Nat) {x : Str} {xs : List α} {pn : Pos} (hm : mg "len" = none) (hL : L[i]? = some (.mu (ctL K xs)) := by rfl) (hN : X.N[i]? = some x := by rfl) (hv : Vis X.env.scope x := by first | exact Or.inl rfl | exact Or.inr (Or.inl rfl) | exact Or.inr (Or.inr rfl))
    (hd : (x == ("__debug__" : Str)) = false := by decide) (hcd : (x == ("__classdict__" : Str)) = false := by decide) (hM : X.mg = mg := by rfl) (hg : Gl X "len" := by rfl) (he : starEach [.Name x pn] X.env = (false, eval (.Name x pn) X.env) :: starEach [] X.env := by rfl) (hpl : (backTo pos (starEach [] X.env)).any (·.1) = false := by rfl) :
    JE X K b L E (.Call (.Name "len" p2) [.Name x pn] [] pos) (pure (xs.length : Int) : M Int) :=
  ⟨fun σ Hi H en Q h => by
    obtain ⟨p, vs, h1, h2, r⟩ := en.muL hL
    refine PE.wp (pe_callB call_len_seq hg (by rw [hM]; exact hm) PySem.boot_len (pa_cons (pe_var hN hv hd hcd) pa_nil he) (by decide) (by decide) he hpl) ⟨_, h1, p, vs, rfl, .inl (SqL.of h2), ?_⟩
    exact h.here en.sub _ (by rw [r.length]; rfl)⟩
/-- an item of it -/
theorem je_ixM [Py α] {mi : M Int} (i : Nat) {x : Str} {xs : List α} {pn : Pos} (hj : JE X K b L E e mi) (hL : L[i]? = some (.mu (ctL K xs)) := by rfl) (hN : X.N[i]? = some x := by rfl) (hv : Vis X.env.scope x := by first | exact Or.inl rfl | exact Or.inr (Or.inl rfl) | exact Or.inr (Or.inr rfl))
    (hd : (x == ("__debug__" : Str)) = false := by decide) (hcd : (x == ("__classdict__" : Str)) = false := by decide) (hs : PlainIx e := by exact fun _ _ => rfl) :
    JE X K b L E (.Subscript (.Name x pn) e pos) (mi >>= fun k => atL xs k) :=
  ⟨fun σ Hi H en Q h => by
    obtain ⟨p, vs, h1, h2, r⟩ := en.muL hL
    refine PE.wp (pe_ix ix_list (pe_var hN hv hd hcd) pe_wp hs) ⟨_, h1, hj.go σ Hi H en _ (h.bind.imp fun k Hi1 H1 n1 q w rw => ?_)⟩
    obtain ⟨a, e0, q⟩ := PX.ofO1 q
    obtain ⟨u, e1, ru⟩ := (r.mono n1.im).atI e0
    exact ⟨p, vs, k, u, rfl, rw, SqL.of (n1.al _ _ h2), e1, q.here n1.sub _ ru⟩⟩

/-! ### walks -/
variable {tg : Expr}
theorem ji_list [Py α] {m : M (List α)} (h : JE X K b L E e m) (hK : X.K = K := by rfl) : JI X K b L E tg e m := by
  subst hK
  refine .of ⟨_, pi_list pe_wp, fun σ Hi H en R hq => h.go σ Hi H en _ (hq.imp fun xs Hi1 H1 n1 q v rv => ?_)⟩
  obtain ⟨p, vs, rfl, g1, g2⟩ := rv
  refine ⟨p, rfl, ⟨vs, Same.seq n1.sub g1⟩, q _ ⟨fun i y Hi2 H2 s1 s2 hy => ?_, fun i Hi2 H2 s1 s2 hi => ?_⟩⟩
  · obtain ⟨u, e1, r⟩ := g2.at hy
    have g3 := Same.seq (s1.trans s2) g1
    exact ⟨⟨vs, u, g3, e1⟩, fun x H' ⟨e2, e3⟩ => by
      subst e2
      have := e3 vs g3
      rw [e1] at this
      cases this
      exact ⟨Hi2, Nx.refl s2, Py.mono s1 r⟩⟩
  · exact ⟨vs, Same.seq (s1.trans s2) g1, by rw [← g2.length]; exact hi⟩
theorem ji_tup [Py α] {m : M (Tup α)} (h : JE X K b L E e m) (hK : X.K = K := by rfl) : JI X K b L E (α := α) tg e m := by
  subst hK
  refine .of ⟨_, pi_tup pe_wp, fun σ Hi H en R hq => h.go σ Hi H en _ (PX.imp hq fun xs Hi1 H1 n1 q v rv => ?_)⟩
  obtain ⟨p, vs, rfl, g1, g2⟩ := rv
  refine ⟨p, rfl, ⟨vs, sqt_mono n1.sub g1⟩, q _ ⟨fun i y Hi2 H2 s1 s2 hy => ?_, fun i Hi2 H2 s1 s2 hi => ?_⟩⟩
  · obtain ⟨u, e1, r⟩ := g2.at hy
    have g3 := sqt_mono (s1.trans s2) g1
    exact ⟨⟨vs, u, g3, e1⟩, fun x H' ⟨e2, e3⟩ => by
      subst e2
      have := e3 vs g3
      rw [e1] at this
      cases this
      exact ⟨Hi2, Nx.refl s2, Py.mono s1 r⟩⟩
  · exact ⟨vs, sqt_mono (s1.trans s2) g1, by rw [← g2.length]; exact hi⟩
def signs (x : Tx) : List Tx := x.map fun c => [c]
theorem ji_str {m : M Tx} (h : JE X K b L E e m) : JI X K b L E tg e (m >>= fun x => pure (signs x)) := by
  refine .of ⟨_, pi_str pe_wp, fun σ Hi H en R hq => h.go σ Hi H en _ (hq.bind.imp fun x Hi1 H1 n1 q v rv => ⟨S x, rv, (q.here n1.sub) _ ⟨fun i y Hi2 H2 s1 s2 hy => ?_, fun i Hi2 H2 s1 s2 hi => ?_⟩⟩)⟩
  · unfold signs at hy
    rw [List.getElem?_map] at hy
    cases z : x[i]? with
    | none => rw [z] at hy; cases hy
    | some c =>
      rw [z] at hy
      cases hy
      have hl : i < x.length := (List.getElem?_eq_some_iff.mp z).1
      have hz : (S x).cps[i]? = some c := by
        show x.toArray[i]? = some c
        rw [List.getElem?_toArray]; exact z
      refine ⟨by show i < x.toArray.size; rw [List.size_toArray]; exact hl, fun v' H' ⟨e1, c', e2, e3⟩ => ?_⟩
      subst e1
      rw [hz] at e2
      cases e2
      exact ⟨Hi2, Nx.refl s2, e3⟩
  · show x.toArray.size ≤ i
    unfold signs at hi
    rw [List.length_map] at hi
    rw [List.size_toArray]; exact hi
def rangeL (lo : Int) (n : Nat) : List Int := (List.range n).map fun i : Nat => lo + (i : Int)
theorem itr_ok {lo : Int} {n : Nat} {Hi0 : Hp} : ItOk K (Itr lo n) Hi0 (rangeL lo n) := by
  refine ⟨fun i y Hi2 H2 s1 s2 hy => ?_, fun i Hi2 H2 s1 s2 hi => ?_⟩
  · unfold rangeL at hy
    rw [List.getElem?_map] at hy
    by_cases hl : i < n
    · rw [List.getElem?_range hl] at hy
      cases hy
      exact ⟨hl, fun v H' ⟨e1, e2⟩ => by subst e1; exact ⟨Hi2, Nx.refl s2, e2⟩⟩
    · rw [List.getElem?_eq_none (by rw [List.length_range]; omega)] at hy
      cases hy
  · unfold rangeL at hi
    rw [List.length_map, List.length_range] at hi
    exact hi
def range1 (n : Int) : M (List Int) := chk (-(2 ^ 62) ≤ n ∧ n < 2 ^ 62) >>= fun _ => pure (rangeL 0 n.toNat)
def range2 (lo n : Int) : M (List Int) := chk (-(2 ^ 62) ≤ lo ∧ lo < 2 ^ 62 ∧ -(2 ^ 62) ≤ n ∧ n < 2 ^ 62) >>= fun _ => pure (rangeL lo (n - lo).toNat)
theorem ji_range1 {m : M Int} {p : Pos} (hm : mg "range" = none) (h : JE X K b L E e m) (hM : X.mg = mg := by rfl) (hg : Gl X "range" := by rfl) (hs : starEach [e] X.env = [(false, eval e X.env)] := by rfl) (he : starEach [e] X.env = (false, eval e X.env) :: starEach [] X.env := by rfl) :
    JI X K b L E tg (.Call (.Name "range" p) [e] [] pos) (m >>= fun n => range1 n) := by
  refine .of ⟨_, pi_range1 hg (by rw [hM]; exact hm) (pa_cons pe_wp pa_nil he) hs, fun σ Hi H en R hq => h.go σ Hi H en _ (hq.bind.imp fun n Hi1 H1 n1 q v rv => ?_)⟩
  obtain ⟨c, q⟩ := PX.chk q
  subst rv
  exact ⟨n, rfl, c.1, c.2, q.here n1.sub _ itr_ok⟩
theorem ji_range2 {m m2 : M Int} {p : Pos} (hm : mg "range" = none) (h : JE X K b L E e m) (h2 : JE X K b L E e1 m2) (hM : X.mg = mg := by rfl) (hg : Gl X "range" := by rfl) (hs : starEach [e, e1] X.env = [(false, eval e X.env), (false, eval e1 X.env)] := by rfl) (hs2 : starEach [e1] X.env = [(false, eval e1 X.env)] := by rfl)
    (he : starEach [e, e1] X.env = (false, eval e X.env) :: starEach [e1] X.env := by rfl) (he2 : starEach [e1] X.env = (false, eval e1 X.env) :: starEach [] X.env := by rfl) :
    JI X K b L E tg (.Call (.Name "range" p) [e, e1] [] pos) (m >>= fun lo => m2 >>= fun n => range2 lo n) := by
  refine .of ⟨_, pi_range2 hg (by rw [hM]; exact hm) (pa_cons pe_wp (pa_cons pe_wp pa_nil he2) he) hs hs2, fun σ Hi H en R hq => h.go σ Hi H en _ (hq.bind.imp fun lo Hi1 H1 n1 q v rv => h2.go σ Hi1 H1 (en.nx n1) _ (q.bind.imp fun n Hi2 H2 n2 q2 w rw => ?_))⟩
  obtain ⟨c, q2⟩ := PX.chk q2
  subst rv; subst rw
  exact ⟨lo, n, rfl, ⟨c.1, c.2.1, c.2.2.1, c.2.2.2⟩, q2.here n2.sub _ itr_ok⟩

/-! targets: sl the slots that they store -/
theorem wipe_idem {σ : L2.St} : ∀ vs : List Nat, wipe (wipe σ vs) vs = wipe σ vs := by
  have key : ∀ (vs us : List Nat), (∀ v ∈ vs, v ∈ us) → wipe (wipe σ us) vs = wipe σ us := by
    intro vs
    induction vs with
    | nil => intro us _; rfl
    | cons v vs ih =>
      intro us hu
      show (wipe (wipe σ us) vs).set v none = wipe σ us
      rw [ih us fun x hx => hu x (List.mem_cons_of_mem _ hx)]
      have hv := hu v (List.mem_cons_self ..)
      have : ∀ us : List Nat, v ∈ us → (wipe σ us).set v none = wipe σ us := by
        intro us
        induction us with
        | nil => intro h; cases h
        | cons u us ih2 =>
          intro h
          show ((wipe σ us).set u none).set v none = (wipe σ us).set u none
          by_cases e : u = v
          · subst e; rw [List.set_set]
          · rw [List.set_comm _ _ e]
            rcases List.mem_cons.mp h with z | z
            · exact absurd z.symm e
            · rw [ih2 z]
      exact this us hv
  exact fun vs => key vs vs fun _ h => h
end
end G

set_option Elab.async false
set_option linter.all false
set_option maxRecDepth 100000
set_option maxHeartbeats 2000000
namespace G
open PySem L2 TL

/-! ### comprehensions -/
def mapE {α β : Type} (f : α → M β) : List α → M (List β)
  | [] => pure []
  | x :: xs => f x >>= fun y => mapE f xs >>= fun ys => pure (y :: ys)
def filE {α β : Type} (t : α → M Bool) (f : α → M β) : List α → M (List β)
  | [] => pure []
  | x :: xs => t x >>= fun c => if c = true then f x >>= fun y => filE t f xs >>= fun ys => pure (y :: ys) else filE t f xs
theorem mapE_fil {α β : Type} (f : α → M β) : ∀ xs : List α, mapE f xs = filE (fun _ => pure true) f xs
  | [] => rfl
  | x :: xs => by
    show (f x >>= fun y => mapE f xs >>= fun ys => pure (y :: ys)) = (f x >>= fun y => filE (fun _ => pure true) f xs >>= fun ys => pure (y :: ys))
    rw [mapE_fil f xs]
/-- [f x for x in xs], [f x for x in xs if t x]: no raise is let out -/
def lc {α β : Type} (f : α → M β) (xs : List α) : M (List β) := chk (xs.length ≤ SZ) >>= fun _ => nr (mapE f xs)
def lf {α β : Type} (t : α → M Bool) (f : α → M β) (xs : List α) : M (List β) := chk (xs.length ≤ SZ) >>= fun _ => nr (filE t f xs)
def wipeL (L : List En) : List Nat → List En
  | [] => L
  | v :: vs => (wipeL L vs).set v .no
section
variable {b : Bs} {L : List En} {σ : L2.St} {Hi H : Hp}
theorem EnvOk.unset {i : Nat} (e : EnvOk b L σ Hi H) : EnvOk b (L.set i .no) (σ.set i none) Hi H := by
  have hi : ∀ {j : Nat} {en : En}, i = j → (L.set i En.no)[j]? = some en → en = .no := fun {j en} hj h => by
    subst hj
    have hl : i < (L.set i En.no).length := (List.getElem?_eq_some_iff.mp h).1
    rw [List.length_set] at hl
    rw [List.getElem?_set_self hl] at h
    cases h
    rfl
  refine ⟨e.ok, by rw [List.length_set, List.length_set]; exact e.len, fun j p h => ?_, fun j c h => ?_, fun j k c d a h1 h2 h3 h4 => ?_⟩
  · have hj : i ≠ j := fun z => nomatch hi z h
    rw [List.getElem?_set_ne hj] at h ⊢
    exact e.im j p h
  · have hj : i ≠ j := fun z => nomatch hi z h
    rw [List.getElem?_set_ne hj] at h ⊢
    exact e.mu j c h
  · have hj : i ≠ j := fun z => nomatch hi z h1
    have hk : i ≠ k := fun z => nomatch hi z h2
    rw [List.getElem?_set_ne hj] at h1 h3
    rw [List.getElem?_set_ne hk] at h2 h4
    exact e.dis j k c d a h1 h2 h3 h4
theorem EnvOk.wipe (e : EnvOk b L σ Hi H) : ∀ vs : List Nat, EnvOk b (wipeL L vs) (L2.wipe σ vs) Hi H
  | [] => e
  | v :: vs => (e.wipe vs).unset
end
theorem same_ne {A B : Hp} (s : Same A B) {D : Addr} {o : HO} (h : A D = none) : Same A (upd B D o) := fun a u e => by
  rw [upd_ne (ne_of_none e h)]
  exact s a u e

section
variable {X : Cx} {K : Fg} {b : Bs} {L : List En} {E : XK} {α β : Type} [Py α] [Py β]
theorem lc_core {mi : M (List α)} {t : α → M Bool} {f : α → M β} {u : α → List En → List En} {wi : TI} {g : TG} {tt : TT} {te : TE} {sl : List Nat}
    (hi : ∀ σ Hi H, EnvOk b L σ Hi H → ∀ R : It → Hp → Prop, PX K E mi Hi H (fun xs Hi' H' => ∀ J, ItOk K J Hi' xs → R J H') → wi σ H R)
    (hg : ∀ (L : List En) (σ : L2.St) (Hi H : Hp) (y : α) (x : V) (Q : L2.St → Hp → Prop), EnvOk b L σ Hi H → Py.rep K Hi y x → (∀ σ', EnvOk b (u y L) σ' Hi H → wipe σ' sl = wipe σ sl → Q σ' H) → g x σ H Q)
    (ht : ∀ (x : α) σ Hi H, EnvOk b (u x (wipeL L sl)) σ Hi H → ∀ Q : Bool → Hp → Prop, PX K E0 (t x) Hi H (fun a _ H' => Q a H') → tt σ H Q)
    (he : ∀ (x : α) σ Hi H, EnvOk b (u x (wipeL L sl)) σ Hi H → ∀ Q : VK, PV K E0 (f x) Hi H Q → te σ H Q) :
    ∀ σ Hi H, EnvOk b L σ Hi H → ∀ Q : VK, PF K E (ctL K) (mi >>= fun xs => lf t f xs) Hi H Q → tLc wi g tt te sl σ H Q := by
  intro σ Hi H en Q h
  refine hi σ Hi H en _ (h.bind.imp fun xs Hi1 H1 n1 q J it D hD => ?_)
  obtain ⟨hsz, q⟩ := PX.chk q
  cases hys : filE t f xs with
  | error z => rw [hys] at q; exact q.elim
  | ok ys =>
    rw [hys] at q
    have en1 := en.nx n1
    have nD : H D = none := by
      cases z : H D with
      | none => rfl
      | some u => rw [n1.al D u z] at hD; cases hD
    refine ⟨fun i m H2 => m = xs.length - i ∧ i ≤ xs.length ∧ ∃ (Hi2 : Hp) (acc : List V) (pr r : List β), Nx Hi1 H1 Hi2 H2 ∧ H2 D = some (.lst acc) ∧ Hi2 D = none ∧ filE t f (xs.drop i) = .ok r ∧ ys = pr ++ r ∧ Rl K Hi2 pr acc ∧ pr.length ≤ i,
      ⟨_, rfl, Nat.zero_le _, Hi1, [], [], ys, Nx.temp n1.sub hD, upd_same, hi_none n1.sub hD, by rw [List.drop_zero]; exact hys, rfl, .nil, Nat.le_refl _⟩, ?_⟩
    rintro i m H2 ⟨rfl, hil, Hi2, acc, pr, r, n2, hacc, hD2, hr, hyr, ra, hpl⟩
    by_cases hlt : i < xs.length
    · refine .inr ?_
      obtain ⟨y, hy⟩ : ∃ y, xs[i]? = some y := ⟨xs[i], List.getElem?_eq_getElem hlt⟩
      have hdr : xs.drop i = y :: xs.drop (i + 1) := by
        rw [List.drop_eq_getElem_cons hlt]
        congr 1
        exact Option.some.inj ((List.getElem?_eq_getElem hlt).symm.trans hy)
      obtain ⟨go, yl⟩ := it.go i y Hi2 H2 n2.im n2.sub hy
      refine ⟨go, fun H' => (i + 1 ≤ xs.length ∧ ∃ (Hi2 : Hp) (acc : List V) (pr r : List β), Nx Hi1 H1 Hi2 H' ∧ H' D = some (.lst acc) ∧ Hi2 D = none ∧ filE t f (xs.drop (i + 1)) = .ok r ∧ ys = pr ++ r ∧ Rl K Hi2 pr acc ∧ pr.length ≤ i + 1),
        fun H' w => ⟨xs.length - (i + 1), by omega, rfl, w⟩, fun x H3 hx => ?_⟩
      obtain ⟨Hi3, n3, rx⟩ := yl x H3 hx
      have en3 : EnvOk b (wipeL L sl) (wipe σ sl) Hi3 H3 := ((en1.nx n2).nx n3).wipe sl
      have hD3 : Hi3 D = none := n3.cap D (by rw [hacc]; exact fun z => nomatch z) hD2
      refine hg _ _ Hi3 H3 y x _ en3 rx fun σ2 en4 hw => ⟨by rw [hw, wipe_idem], ?_⟩
      rw [hdr] at hr
      have hr' : (t y >>= fun c => if c = true then f y >>= fun z => filE t f (xs.drop (i + 1)) >>= fun zs => pure (z :: zs) else filE t f (xs.drop (i + 1))) = .ok r := hr
      cases hty : t y with
      | error z => rw [hty] at hr'; cases hr'
      | ok c =>
        rw [hty] at hr'
        have hr2 : (if c = true then f y >>= fun z => filE t f (xs.drop (i + 1)) >>= fun zs => pure (z :: zs) else filE t f (xs.drop (i + 1))) = .ok r := hr'
        refine ht y σ2 Hi3 H3 en4 _ ?_
        rw [hty]
        intro Hi4 H4 n4
        have hD4 : Hi4 D = none := n4.cap D (by rw [n3.al _ _ hacc]; exact fun z => nomatch z) hD3
        cases c with
        | false =>
          rw [if_neg Bool.false_ne_true] at hr2
          show (if false = true then _ else _)
          rw [if_neg Bool.false_ne_true]
          exact ⟨hlt, Hi4, acc, pr, r, (n2.trans n3).trans n4, n4.al _ _ (n3.al _ _ hacc), hD4, hr2, hyr, ra.mono (n3.im.trans n4.im), Nat.le_succ_of_le hpl⟩
        | true =>
          rw [if_pos rfl] at hr2
          show (if true = true then _ else _)
          rw [if_pos rfl]
          refine he y σ2 Hi4 H4 (en4.nx n4) _ ?_
          cases hfy : f y with
          | error z => rw [hfy] at hr2; cases hr2
          | ok z =>
            rw [hfy] at hr2
            cases hzs : filE t f (xs.drop (i + 1)) with
            | error z2 => rw [hzs] at hr2; cases hr2
            | ok zs =>
              rw [hzs] at hr2
              have er : z :: zs = r := by cases hr2; rfl
              intro Hi5 H5 n5 v rv
              have hD5 : Hi5 D = none := n5.cap D (by rw [n4.al _ _ (n3.al _ _ hacc)]; exact fun z => nomatch z) hD4
              have n15 : Nx Hi1 H1 Hi5 H5 := ((n2.trans n3).trans n4).trans n5
              refine ⟨acc, n5.al _ _ (n4.al _ _ (n3.al _ _ hacc)), ?_, hlt, Hi5, acc ++ [v], pr ++ [z], zs, ⟨n15.im, same_ne n15.al hD, same_ne n15.sub hD5, n15.cap⟩, upd_same, hD5, rfl, ?_, (ra.mono ((n3.im.trans n4.im).trans n5.im)).app (.cons rv .nil), ?_⟩
              · have := ra.length
                exact Nat.lt_of_lt_of_le (by omega) hsz
              · rw [hyr, ← er, List.append_assoc]; rfl
              · rw [List.length_append]; exact Nat.succ_le_succ hpl
    · have e : i = xs.length := by omega
      subst e
      refine .inl ⟨it.stop _ Hi2 H2 n2.im n2.sub (Nat.le_refl _), ?_⟩
      rw [List.drop_eq_nil_of_le (Nat.le_refl _)] at hr
      have er : ([] : List β) = r := by cases hr; rfl
      rw [← er, List.append_nil] at hyr
      subst hyr
      exact (PX.go (a := ys) q n2) D _ hacc nD hD2 ⟨acc, rfl, ra⟩
theorem lf_lc {f : α → M β} (xs : List α) : lf (fun _ => pure true) f xs = lc f xs := by
  unfold lf lc
  rw [mapE_fil]
theorem je_jf {e : Expr} {m : M (List α)} (h : JF X K b L E e (ctL K) m) : JE X K b L E e m :=
  ⟨fun σ Hi H en Q hq => h.go σ Hi H en Q (by
    cases m with
    | error z => cases z with
      | rs c => exact hq
      | st => exact hq
    | ok xs =>
      intro Hi' H' x p o h1 h2 h3 h4
      obtain ⟨vs, rfl, r⟩ := h4
      have sm : Same Hi' (upd Hi' p (.lst vs)) := same_new h3
      have x2 : Nx Hi H (upd Hi' p (.lst vs)) H' := ⟨x.im.trans sm, x.al, fun a u e => by
        by_cases ha : a = p
        · subst ha; rw [upd_same] at e; cases e; exact h1
        · rw [upd_ne ha] at e; exact x.sub a u e, fun a ha hn => by
        rw [upd_ne (fun z => ha (by rw [z]; exact h2))]
        exact x.cap a ha hn⟩
      exact (show ∀ Hi' H', Nx Hi H Hi' H' → ∀ v, Py.rep K Hi' xs v → Q v H' from hq) _ _ x2 _ ⟨p, vs, rfl, .of upd_same, r.mono sm⟩)⟩
abbrev Bk : Type := Shared × Hp × Addr × List (Str × Addr) × List Addr
abbrev blkX (X : Cx) (scope : Scope) (p : Bk) : Cx := X.blk p.1 p.2.1 scope (compEnvC scope p.2.2.2.1 p.2.2.1 X.env) p.2.2.2.2
variable {tg iter elt c : Expr} {scope : Scope} {pos pos' py spos : Pos} {own : List (Str × Nat)} {u : α → List En → List En} {mi : M (List α)} {t : α → M Bool} {f : α → M β}
theorem jf_lf (hi : JI X K b L E tg iter mi) (hg : JG (blkX X scope) K tg (own.map (·.2)) u) (ht : ∀ (p : Bk) (x : α), JT (blkX X scope p) K b (u x (wipeL L (own.map (·.2)))) E0 c (t x)) (he : ∀ (p : Bk) (x : α), JE (blkX X scope p) K b (u x (wipeL L (own.map (·.2)))) E0 elt (f x))
    (hN : X.N.Nodup) (ok : BlkOk X.N X.env.scope scope own) (hc : X.calm = true := by rfl) (hs : ∀ x, foldedSetIterable iter X.env x = pure x := by intro _; rfl) : JF X K b L E (.ListComp elt [⟨tg, iter, [c], 0⟩] scope pos) (ctL K) (mi >>= fun xs => lf t f xs) := by
  obtain ⟨g, dg, pg⟩ := hg.ex
  refine ⟨fun σ Hi H en Q hq => PE.wp (pe_lc (tt := fun σ H Q => ∀ p : Bk, wpT (blkX X scope p) c σ H Q) (te := fun σ H Q => ∀ p : Bk, wpE (blkX X scope p) elt σ H Q) hc hN pi_wp ok (fun s H C cl fp => dg (s, H, C, cl, fp)) (fun s H C cl fp => pts_one ⟨fun pins s' σ' H' Q' I h => h (s, H, C, cl, fp) pins s' I⟩)
    (fun s H C cl fp => ⟨fun pins s' σ' H' Q' I h => h (s, H, C, cl, fp) pins s' I⟩) hs) (lc_core (u := u) hi.go (fun L => pg b L) (fun x σ Hi H en Q h p => (ht p x).go σ Hi H en Q h) (fun x σ Hi H en Q h p => (he p x).go σ Hi H en Q h) σ Hi H en Q hq)⟩
theorem jf_lc (hi : JI X K b L E tg iter mi) (hg : JG (blkX X scope) K tg (own.map (·.2)) u) (he : ∀ (p : Bk) (x : α), JE (blkX X scope p) K b (u x (wipeL L (own.map (·.2)))) E0 elt (f x))
    (hN : X.N.Nodup) (ok : BlkOk X.N X.env.scope scope own) (hc : X.calm = true := by rfl) (hs : ∀ x, foldedSetIterable iter X.env x = pure x := by intro _; rfl) : JF X K b L E (.ListComp elt [⟨tg, iter, [], 0⟩] scope pos) (ctL K) (mi >>= fun xs => lc f xs) := by
  obtain ⟨g, dg, pg⟩ := hg.ex
  refine ⟨fun σ Hi H en Q hq => PE.wp (pe_lc (tt := tYes) (te := fun σ H Q => ∀ p : Bk, wpE (blkX X scope p) elt σ H Q) hc hN pi_wp ok (fun s H C cl fp => dg (s, H, C, cl, fp)) (fun _ _ _ _ _ => pts_nil)
    (fun s H C cl fp => ⟨fun pins s' σ' H' Q' I h => h (s, H, C, cl, fp) pins s' I⟩) hs) (lc_core (u := u) (t := fun _ => pure true) hi.go (fun L => pg b L) (fun x σ Hi H en Q h => h.here en.sub) (fun x σ Hi H en Q h p => (he p x).go σ Hi H en Q h) σ Hi H en Q ?_)⟩
  have e : (fun xs => lf (fun _ => pure true) f xs) = fun xs => lc f xs := funext lf_lc
  rw [e]
  exact hq
/-! x = [..] where the store is made within -/
theorem j1_setLc0 {m : M (List β)} {te : TE} {mk : TE → Prop} (i : Nat) {y : Str} (d : PS X (.Assign [.Name y py] elt spos) (tAsg te (gName i))) (h : ∀ σ Hi H, EnvOk b L σ Hi H → ∀ Q : VK, PF K E (ctL K) m Hi H Q → te σ H Q) : J1 X K b L E (.Assign [.Name y py] elt spos) m (fun a => L.set i (.mu (ctL K a))) :=
  ⟨fun σ Hi H en D hz => PS.wp d (h σ Hi H en _ ((PZ.px en hz).imp fun a Hi' H' x q p o h1 h2 h3 h4 => q _ Hi' H' (en.setFresh x h1 h2 h3 h4)))⟩
theorem j1_setLf (i : Nat) {y : Str} (hi : JI X K b L E tg iter mi) (hg : JG (blkX X scope) K tg (own.map (·.2)) u) (ht : ∀ (p : Bk) (x : α), JT (blkX X scope p) K b (u x (wipeL L (own.map (·.2)))) E0 c (t x)) (he : ∀ (p : Bk) (x : α), JE (blkX X scope p) K b (u x (wipeL L (own.map (·.2)))) E0 elt (f x))
    (hN : X.N.Nodup) (ok : BlkOk X.N X.env.scope scope own) (hy : X.N[i]? = some y := by rfl) (hyl : X.env.scope.names.lookup y = some .local := by rfl) (hc : X.calm = true := by rfl) (hs : ∀ x, foldedSetIterable iter X.env x = pure x := by intro _; rfl)
    (hsw : swapsWith (.ListComp elt [⟨tg, iter, [c], 0⟩] scope pos) (some (.Name y py)) spos.line X.env = pure true := by exact sw_true rfl rfl rfl (by decide +kernel)) :
    J1 X K b L E (.Assign [.Name y py] (.ListComp elt [⟨tg, iter, [c], 0⟩] scope pos) spos) (mi >>= fun xs => lf t f xs) (fun a => L.set i (.mu (ctL K a))) := by
  obtain ⟨g, dg, pg⟩ := hg.ex
  exact j1_setLc0 (mk := fun _ => True) i (ps_setLc (tt := fun σ H Q => ∀ p : Bk, wpT (blkX X scope p) c σ H Q) (te := fun σ H Q => ∀ p : Bk, wpE (blkX X scope p) elt σ H Q) hc hN hy hyl hsw pi_wp ok (fun s H C cl fp => dg (s, H, C, cl, fp)) (fun s H C cl fp => pts_one ⟨fun pins s' σ' H' Q' I h => h (s, H, C, cl, fp) pins s' I⟩)
    (fun s H C cl fp => ⟨fun pins s' σ' H' Q' I h => h (s, H, C, cl, fp) pins s' I⟩) hs) (lc_core (u := u) hi.go (fun L => pg b L) (fun x σ Hi H en Q h p => (ht p x).go σ Hi H en Q h) (fun x σ Hi H en Q h p => (he p x).go σ Hi H en Q h))
theorem j1_setLc (i : Nat) {y : Str} (hi : JI X K b L E tg iter mi) (hg : JG (blkX X scope) K tg (own.map (·.2)) u) (he : ∀ (p : Bk) (x : α), JE (blkX X scope p) K b (u x (wipeL L (own.map (·.2)))) E0 elt (f x))
    (hN : X.N.Nodup) (ok : BlkOk X.N X.env.scope scope own) (hy : X.N[i]? = some y := by rfl) (hyl : X.env.scope.names.lookup y = some .local := by rfl) (hc : X.calm = true := by rfl) (hs : ∀ x, foldedSetIterable iter X.env x = pure x := by intro _; rfl)
    (hsw : swapsWith (.ListComp elt [⟨tg, iter, [], 0⟩] scope pos) (some (.Name y py)) spos.line X.env = pure true := by exact sw_true rfl rfl rfl (by decide +kernel)) :
    J1 X K b L E (.Assign [.Name y py] (.ListComp elt [⟨tg, iter, [], 0⟩] scope pos) spos) (mi >>= fun xs => lc f xs) (fun a => L.set i (.mu (ctL K a))) := by
  obtain ⟨g, dg, pg⟩ := hg.ex
  refine j1_setLc0 (mk := fun _ => True) i (ps_setLc (tt := tYes) (te := fun σ H Q => ∀ p : Bk, wpE (blkX X scope p) elt σ H Q) hc hN hy hyl hsw pi_wp ok (fun s H C cl fp => dg (s, H, C, cl, fp)) (fun _ _ _ _ _ => pts_nil)
    (fun s H C cl fp => ⟨fun pins s' σ' H' Q' I h => h (s, H, C, cl, fp) pins s' I⟩) hs) (fun σ Hi H en Q hq => lc_core (u := u) (t := fun _ => pure true) hi.go (fun L => pg b L) (fun x σ Hi H en Q h => h.here en.sub) (fun x σ Hi H en Q h p => (he p x).go σ Hi H en Q h) σ Hi H en Q ?_)
  have e : (fun xs => lf (fun _ => pure true) f xs) = fun xs => lc f xs := funext lf_lc
  rw [e]
  exact hq
end
/-! targets -/
theorem jg_name {ι : Type} {X : ι → Cx} {K : Fg} {α : Type} [Py α] (i : Nat) {x : Str} {pos : Pos} (hN : ∀ j, (X j).N.Nodup) (hi : ∀ j, (X j).N[i]? = some x := by intro _; rfl) (hx : ∀ j, Loc (X j).env.scope x := by intro _; first | exact Or.inl rfl | exact Or.inr rfl)
    (hf : ∀ j, (X j).fn x = true ∨ (X j).env.scope.names.lookup x = some .local := by intro _; first | exact .inl rfl | exact .inr rfl) : JG X K (.Name x pos) [i] (fun (y : α) L => L.set i (.im (rp K y))) :=
  ⟨⟨gName i, fun j => pg_name (hN j) (hi j) (hx j) (hf j), fun b L σ Hi H y v Q en r k => k _ (en.set (p := rp K y) r) (by show (σ.set i (some v)).set i none = σ.set i none; rw [List.set_set])⟩⟩
theorem jg_pair {ι : Type} {X : ι → Cx} {K : Fg} {α β : Type} [Py α] [Py β] (i j : Nat) {x y : Str} {pos px py : Pos} {kx : Nat} (hN : ∀ k, (X k).N.Nodup) (hi : ∀ k, (X k).N[i]? = some x := by intro _; rfl) (hj : ∀ k, (X k).N[j]? = some y := by intro _; rfl)
    (hx : ∀ j, Loc (X j).env.scope x := by intro _; first | exact Or.inl rfl | exact Or.inr rfl) (hy : ∀ j, Loc (X j).env.scope y := by intro _; first | exact Or.inl rfl | exact Or.inr rfl)
    (hf : ∀ j, (X j).fn x = true ∨ (X j).env.scope.names.lookup x = some .local := by intro _; first | exact .inl rfl | exact .inr rfl) (hf2 : ∀ j, (X j).fn y = true ∨ (X j).env.scope.names.lookup y = some .local := by intro _; first | exact .inl rfl | exact .inr rfl)
    (hc : ∀ j, (X j).calm = true := by intro _; rfl) (hK : ∀ j, (X j).K = K := by intro _; rfl) : JG X K (.Tuple [.Name x px, .Name y py] kx pos) [i, j] (fun (p : α × β) L => (L.set i (.im (rp K p.1))).set j (.im (rp K p.2))) :=
  ⟨⟨gTup K 2 (gCons (gName i) (gCons (gName j) gNil)), fun k => by
    have := pg_tup (k := kx) (pos := pos) (n := 2) (hc k) (pgs_cons (pg_name (pos := px) (hN k) (hi k) (hx k) (hf k)) (pgs_cons (pg_name (pos := py) (hN k) (hj k) (hy k) (hf2 k)) pgs_nil))
    rw [hK k] at this
    exact this, fun b L σ Hi H p v Q en r k => by
    obtain ⟨q, v1, v2, rfl, g1, g2, g3⟩ := r
    refine ⟨q, [v1, v2], rfl, sqt_mono en.sub g1, rfl, v1, [v2], rfl, v2, [], rfl, rfl, k _ ((en.set (p := rp K p.1) g2).set (p := rp K p.2) g3) ?_⟩
    show ((((σ.set i (some v1)).set j (some v2)).set j none).set i none) = (σ.set j none).set i none
    rw [List.set_set]
    by_cases e : i = j
    · subst e; simp [List.set_set]
    · rw [List.set_comm _ _ e, List.set_set, List.set_comm _ _ (Ne.symm e)]⟩⟩

/-! ### loops -/
def forT {α S R : Type} (f : S → α → M (Tl S R)) (s : S) : List α → M (S ⊕ R)
  | [] => pure (.inl s)
  | x :: xs => f s x >>= fun t => match t with
    | .ct s' => forT f s' xs
    | .bk s' => pure (.inl s')
    | .rt r => pure (.inr r)
/-- a loop that only goes on, a loop without a return -/
def forP {α S : Type} (f : S → α → M S) (s : S) : List α → M S
  | [] => pure s
  | x :: xs => f s x >>= fun s' => forP f s' xs
inductive No
instance : Py No := ⟨fun _ _ e _ => (nomatch e), by intro K H H' a v; exact nomatch a⟩
def forB {α S : Type} (f : S → α → M (Tl S No)) (s : S) : List α → M S
  | [] => pure s
  | x :: xs => f s x >>= fun t => match t with
    | .ct s' => forB f s' xs
    | .bk s' => pure s'
/-- behind a loop that may return -/
def thenT {S R β : Type} (mr : S → M β) (wr : R → β) : S ⊕ R → M β
  | .inl s => mr s
  | .inr r => pure (wr r)
def whT {S R : Type} (c : S → M Bool) (f : S → M (Tl S R)) : Nat → S → M (S ⊕ R)
  | 0, _ => stuck
  | n + 1, s => c s >>= fun t => if t = true then f s >>= fun t => (match t with
    | .ct s' => whT c f n s'
    | .bk s' => pure (.inl s')
    | .rt r => pure (.inr r)) else pure (.inl s)
def whP {S : Type} (c : S → M Bool) (f : S → M S) : Nat → S → M S
  | 0, _ => stuck
  | n + 1, s => c s >>= fun t => if t = true then f s >>= fun s' => whP c f n s' else pure s
def whB {S : Type} (c : S → M Bool) (f : S → M (Tl S No)) : Nat → S → M S
  | 0, _ => stuck
  | n + 1, s => c s >>= fun t => if t = true then f s >>= fun t => (match t with
    | .ct s' => whB c f n s'
    | .bk s' => pure s') else pure s
def outT {S R : Type} (f : S → R) : S ⊕ No → R
  | .inl s => f s
theorem bcong {α β : Type} {m : M α} {f g : α → M β} (h : ∀ a, f a = g a) : (m >>= f) = (m >>= g) := by rw [funext h]
theorem forP_T {α S R : Type} (f : S → α → M S) : ∀ (xs : List α) (s : S), forT (R := R) (fun s x => f s x >>= fun s' => pure (.ct s')) s xs = (forP f s xs >>= fun s => pure (.inl s))
  | [], s => rfl
  | x :: xs, s => by
    show ((f s x >>= fun s' => pure (Tl.ct s')) >>= _) = ((f s x >>= fun s' => forP f s' xs) >>= _)
    rw [bind_assoc, bind_assoc]
    refine bcong fun s' => ?_
    exact forP_T f xs s'
theorem forB_T {α S R : Type} (f : S → α → M (Tl S No)) : ∀ (xs : List α) (s : S), (forT f s xs >>= fun z => pure (outT id z)) = forB f s xs
  | [], s => rfl
  | x :: xs, s => by
    show ((f s x >>= _) >>= _) = (f s x >>= _)
    rw [bind_assoc]
    refine bcong fun t => ?_
    cases t with
    | ct s' => exact forB_T (R := R) f xs s'
    | bk s' => rfl
    | rt r => exact nomatch r
theorem whP_T {S R : Type} (c : S → M Bool) (f : S → M S) : ∀ (n : Nat) (s : S), whT (R := R) c (fun s => f s >>= fun s' => pure (.ct s')) n s = (whP c f n s >>= fun s => pure (.inl s))
  | 0, s => rfl
  | n + 1, s => by
    unfold whT whP
    refine Eq.trans (bcong fun t => ?_) (bind_assoc _ _ _).symm
    cases t with
    | false => rfl
    | true =>
      rw [if_pos rfl, if_pos rfl, bind_assoc, bind_assoc]
      refine bcong fun s' => ?_
      exact whP_T c f n s'
theorem whB_T {S : Type} (c : S → M Bool) (f : S → M (Tl S No)) : ∀ (n : Nat) (s : S), (whT c f n s >>= fun z => pure (outT id z)) = whB c f n s
  | 0, s => rfl
  | n + 1, s => by
    show ((c s >>= _) >>= _) = (c s >>= _)
    rw [bind_assoc]
    refine bcong fun t => ?_
    cases t with
    | false => rfl
    | true =>
      show ((f s >>= _) >>= _) = (f s >>= _)
      rw [bind_assoc]
      refine bcong fun t => ?_
      cases t with
      | ct s' => exact whB_T c f n s'
      | bk s' => rfl
      | rt r => exact nomatch r

section
variable {X : Cx} {K : Fg} {b : Bs} {L : List En} {E : XK} {α S R : Type} [Py α] [Py R]
theorem PZ.up {β : Type} {m : M β} {F H0 : Hp} {post : β → Prop} (o : Ok b F H0) (h : PZ K E b m post) : PZ K E (b.fl F) m post := by
  cases m with
  | ok a => exact h
  | error z => cases z with
    | rs c => exact fun Hi H o' => h Hi H (o.down o')
    | st => exact h
/-- what a loop's end is -/
def pEnd (K : Fg) (b : Bs) (Lf : S → List En) (z : S ⊕ R) (D : Ends) : Prop := match z with
  | .inl s => pNx b Lf s D
  | .inr r => pRt K b r D
theorem tl_up {Lf : S → List En} {F H0 : Hp} {t : Tl S R} {D : Ends} (o : Ok b F H0) (h : pTl K b Lf t D) : pTl K (b.fl F) Lf t D := by
  cases t with
  | ct s => exact fun σ Hi H en => h σ Hi H (EnvOk.down o en)
  | bk s => exact fun σ Hi H en => h σ Hi H (EnvOk.down o en)
  | rt r => exact fun v Hi H o' rv => h v Hi H (o.down o') rv
theorem for_core {Lf : S → List En} {f : S → α → M (Tl S R)} {xs : List α} {s0 : S} {u : α → List En → List En} {g : TG} {tb : TS} {D : Ends} {J : It} {σ0 : L2.St} {Hi0 H0 : Hp} {sl : List Nat}
    (it : ItOk K J Hi0 xs) (en0 : EnvOk b (Lf s0) σ0 Hi0 H0)
    (hg : ∀ (b : Bs) (L : List En) (σ : L2.St) (Hi H : Hp) (y : α) (x : V) (Q : L2.St → Hp → Prop), EnvOk b L σ Hi H → Py.rep K Hi y x → (∀ σ', EnvOk b (u y L) σ' Hi H → wipe σ' sl = wipe σ sl → Q σ' H) → g x σ H Q)
    (hb : ∀ (F : Hp) (s : S) (x : α) σ Hi H, EnvOk (b.fl F) (u x (Lf s)) σ Hi H → ∀ D : Ends, D.nx = D.ct → PZ K E (b.fl F) (f s x) (fun t => pTl K (b.fl F) Lf t D) → tb D σ H)
    (hz : PZ K E b (forT f s0 xs) (fun z => pEnd K b Lf z D)) :
    ∃ W : Nat → Nat → L2.St → Hp → Prop, (∃ m, W 0 m σ0 H0) ∧ ∀ i m σ H, W i m σ H →
      (J.stop i H ∧ D.nx σ H) ∨ (J.go i H ∧ ∃ N : L2.St → Hp → Prop, (∀ σ' H', N σ' H' → ∃ m', m' < m ∧ W (i + 1) m' σ' H') ∧ ∀ x H', J.yld i H x H' → g x σ H' fun σ2 H2 => tb { D with nx := N, ct := N, bk := D.nx } σ2 H2) := by
  have o0 := en0.ok
  refine ⟨fun i m σ H => ∃ (s : S) (Hi : Hp), m = xs.length - i ∧ i ≤ xs.length ∧ EnvOk (b.fl Hi0) (Lf s) σ Hi H ∧ PZ K E b (forT f s (xs.drop i)) (fun z => pEnd K b Lf z D), ⟨_, s0, Hi0, rfl, Nat.zero_le _, en0.up, hz⟩, ?_⟩
  rintro i m σ H ⟨s, Hi, rfl, hil, en, hq⟩
  have sm0 : Same Hi0 Hi := en.ok.base
  by_cases hlt : i < xs.length
  · refine .inr ?_
    obtain ⟨y, hy⟩ : ∃ y, xs[i]? = some y := ⟨xs[i], List.getElem?_eq_getElem hlt⟩
    have hdr : xs.drop i = y :: xs.drop (i + 1) := by
      rw [List.drop_eq_getElem_cons hlt]
      congr 1
      exact Option.some.inj ((List.getElem?_eq_getElem hlt).symm.trans hy)
    rw [hdr] at hq
    obtain ⟨go, yl⟩ := it.go i y Hi H sm0 en.sub hy
    refine ⟨go, fun σ' H' => ∃ (s : S) (Hi : Hp), i + 1 ≤ xs.length ∧ EnvOk (b.fl Hi0) (Lf s) σ' Hi H' ∧ PZ K E b (forT f s (xs.drop (i + 1))) (fun z => pEnd K b Lf z D), fun σ' H' ⟨s', Hi', w1, w2, w3⟩ => ⟨xs.length - (i + 1), by omega, s', Hi', rfl, w1, w2, w3⟩, fun x H1 hx => ?_⟩
    obtain ⟨Hi1, n1, rx⟩ := yl x H1 hx
    refine hg _ _ _ Hi1 H1 y x _ (en.nx n1) rx fun σ2 en2 _ => ?_
    refine hb Hi0 s y σ2 Hi1 H1 en2 _ rfl (PZ.up o0 ((PZ.bindz hq).imp fun t q => ?_))
    cases t with
    | ct s' => exact fun σ3 Hi3 H3 en3 => ⟨s', Hi3, hlt, en3, q⟩
    | bk s' => exact fun σ3 Hi3 H3 en3 => (show pNx b Lf s' D from q) σ3 Hi3 H3 (EnvOk.down o0 en3)
    | rt r => exact fun v Hi3 H3 o3 rv => (show pRt K b r D from q) v Hi3 H3 (o0.down o3) rv
  · have e : i = xs.length := by omega
    subst e
    refine .inl ⟨it.stop _ Hi H sm0 en.sub (Nat.le_refl _), ?_⟩
    rw [List.drop_eq_nil_of_le (Nat.le_refl _)] at hq
    exact (show pNx b Lf s D from hq) σ Hi H (EnvOk.down o0 en)
variable {tg iter : Expr} {body rest : List Stmt} {pos : Pos} {mi : M (List α)} {u : α → List En → List En} {Lf : S → List En} {s0 : S} {sl : List Nat}
/-- a loop that may return -/
theorem js_forR {β : Type} {post : β → Ends → Prop} {tl : Ends → Prop} {f : S → α → M (Tl S R)} {mr : S → M β} (wr : R → β) (hw : ∀ r D, post (wr r) D → pRt K b r D) (hi : JI X K b L E tg iter mi) (hg : JG (fun _ : Unit => X) K tg sl u) (w : Wk L (Lf s0))
    (hb : ∀ (F : Hp) (s : S) (x : α), JS X K (b.fl F) (u x (Lf s)) E body tlLp (f s x) (pTl K (b.fl F) Lf)) (hr : ∀ s, JS X K b (Lf s) E rest tl (mr s) post) (hp : PassesOwn (model X.prog X.w) X.A X.env X.xe) (hc : X.calm = true := by rfl) (hs : ∀ x, foldedSetIterable iter X.env x = pure x := by intro _; rfl) :
    JS X K b L E (.For tg iter body [] pos :: rest) tl (mi >>= fun xs => forT f s0 xs >>= thenT mr wr) post := by
  obtain ⟨g, dg, pg⟩ := hg.ex
  refine ⟨fun σ Hi H en D ht hz => PSs.wp (pss_cons (ps_for hp hc pi_wp (dg ()) pss_wp hs) pss_wp) ?_⟩
  refine hi.go σ Hi H en _ ((PZ.bind en hz).imp fun xs Hi1 H1 n1 q J it => ?_)
  refine for_core (f := f) (s0 := s0) (Lf := Lf) (u := u) it ((en.nx n1).wk w) pg (fun F s x σ Hi H en D hD hz => (hb F s x).go σ Hi H en D (fun σ H h => by rw [hD]; exact h) hz) (q.bindz.imp fun z hz2 => ?_)
  cases z with
  | inl s => exact fun σ' Hi' H' en' => (hr s).go σ' Hi' H' en' D ht hz2
  | inr r => exact hw r D hz2
theorem j1_forB {f : S → α → M (Tl S No)} (hi : JI X K b L E tg iter mi) (hg : JG (fun _ : Unit => X) K tg sl u) (w : Wk L (Lf s0))
    (hb : ∀ (F : Hp) (s : S) (x : α), JS X K (b.fl F) (u x (Lf s)) E body tlLp (f s x) (pTl K (b.fl F) Lf)) (hp : PassesOwn (model X.prog X.w) X.A X.env X.xe) (hc : X.calm = true := by rfl) (hs : ∀ x, foldedSetIterable iter X.env x = pure x := by intro _; rfl) :
    J1 X K b L E (.For tg iter body [] pos) (mi >>= fun xs => forB f s0 xs) Lf := by
  obtain ⟨g, dg, pg⟩ := hg.ex
  refine ⟨fun σ Hi H en D hz => PS.wp (ps_for hp hc pi_wp (dg ()) pss_wp hs) ?_⟩
  refine hi.go σ Hi H en _ ((PZ.bind en hz).imp fun xs Hi1 H1 n1 q J it => ?_)
  rw [← forB_T (R := No)] at q
  refine for_core (f := f) (s0 := s0) (Lf := Lf) (u := u) it ((en.nx n1).wk w) pg (fun F s x σ Hi H en D hD hz => (hb F s x).go σ Hi H en D (fun σ H h => by rw [hD]; exact h) hz) (q.bindz.imp fun z hz2 => ?_)
  cases z with
  | inl s => exact hz2
  | inr r => exact nomatch r
theorem j1_forP {f : S → α → M S} (hi : JI X K b L E tg iter mi) (hg : JG (fun _ : Unit => X) K tg sl u) (w : Wk L (Lf s0))
    (hb : ∀ (F : Hp) (s : S) (x : α), JS X K (b.fl F) (u x (Lf s)) E body tlAny (f s x) (pNx (b.fl F) Lf)) (hp : PassesOwn (model X.prog X.w) X.A X.env X.xe) (hc : X.calm = true := by rfl) (hs : ∀ x, foldedSetIterable iter X.env x = pure x := by intro _; rfl) :
    J1 X K b L E (.For tg iter body [] pos) (mi >>= fun xs => forP f s0 xs) Lf := by
  obtain ⟨g, dg, pg⟩ := hg.ex
  refine ⟨fun σ Hi H en D hz => PS.wp (ps_for hp hc pi_wp (dg ()) pss_wp hs) ?_⟩
  refine hi.go σ Hi H en _ ((PZ.bind en hz).imp fun xs Hi1 H1 n1 q J it => ?_)
  refine for_core (R := No) (f := fun s x => f s x >>= fun s' => pure (.ct s')) (s0 := s0) (Lf := Lf) (u := u) it ((en.nx n1).wk w) pg (fun F s x σ Hi H en D hD hz => (hb F s x).go σ Hi H en D trivial (hz.bindz.imp fun s' h σ2 Hi2 H2 en2 => ?_)) ?_
  · rw [hD]; exact (show ∀ σ' Hi' H', EnvOk (b.fl F) (Lf s') σ' Hi' H' → D.ct σ' H' from h) σ2 Hi2 H2 en2
  · rw [forP_T]
    cases hm : forP f s0 xs with
    | ok a => rw [hm] at q; exact q
    | error z => rw [hm] at q; cases z <;> exact q

theorem wh_core {c : S → M Bool} {f : S → M (Tl S R)} {tc : TT} {tb : TS} {D : Ends} {σ0 : L2.St} {Hi0 H0 : Hp} {n : Nat} (en0 : EnvOk b (Lf s0) σ0 Hi0 H0)
    (hc : ∀ (s : S) σ Hi H, EnvOk b (Lf s) σ Hi H → ∀ Q : Bool → Hp → Prop, PX K E (c s) Hi H (fun a _ H' => Q a H') → tc σ H Q)
    (hb : ∀ (s : S) σ Hi H, EnvOk b (Lf s) σ Hi H → ∀ D : Ends, D.nx = D.ct → PZ K E b (f s) (fun t => pTl K b Lf t D) → tb D σ H)
    (hz : PZ K E b (whT c f n s0) (fun z => pEnd K b Lf z D)) : tWhile tc tb D σ0 H0 := by
  refine ⟨fun m σ H => ∃ (s : S) (Hi : Hp), EnvOk b (Lf s) σ Hi H ∧ PZ K E b (whT c f m s) (fun z => pEnd K b Lf z D), ⟨n, s0, Hi0, en0, hz⟩, ?_⟩
  rintro m σ H ⟨s, Hi, en, hq⟩
  cases m with
  | zero => exact hq.elim
  | succ m =>
    refine hc s σ Hi H en _ ((PZ.bind en hq).imp fun t Hi1 H1 n1 q => ?_)
    cases t with
    | false =>
      rw [if_neg Bool.false_ne_true] at q ⊢
      exact (show pNx b Lf s D from q) σ Hi1 H1 (en.nx n1)
    | true =>
      rw [if_pos rfl] at q ⊢
      refine ⟨fun σ' H' => ∃ (s : S) (Hi : Hp), EnvOk b (Lf s) σ' Hi H' ∧ PZ K E b (whT c f m s) (fun z => pEnd K b Lf z D), fun σ' H' w => ⟨m, Nat.lt_succ_self _, w⟩, ?_⟩
      refine hb s σ Hi1 H1 (en.nx n1) _ rfl (q.bindz.imp fun t q2 => ?_)
      cases t with
      | ct s' => exact fun σ3 Hi3 H3 en3 => ⟨s', Hi3, en3, q2⟩
      | bk s' => exact q2
      | rt r => exact q2
variable {c : Expr} {mc : S → M Bool}
theorem js_whR {β : Type} {post : β → Ends → Prop} {tl : Ends → Prop} {f : S → M (Tl S R)} {mr : S → M β} (n : Nat) (wr : R → β) (hw : ∀ r D, post (wr r) D → pRt K b r D) (w : Wk L (Lf s0)) (hc : ∀ s, JT X K b (Lf s) E c (mc s))
    (hb : ∀ (s : S), JS X K b (Lf s) E body tlLp (f s) (pTl K b Lf)) (hr : ∀ s, JS X K b (Lf s) E rest tl (mr s) post) (hp : PassesOwn (model X.prog X.w) X.A X.env X.xe) :
    JS X K b L E (.While c body [] pos :: rest) tl (whT mc f n s0 >>= thenT mr wr) post := by
  refine ⟨fun σ Hi H en D ht hz => PSs.wp (pss_cons (ps_while hp pt_wp pss_wp) pss_wp) ?_⟩
  refine wh_core (c := mc) (f := f) (n := n) (en.wk w) (fun s => (hc s).go) (fun s σ Hi H en D hD hz => (hb s).go σ Hi H en D (fun σ H h => by rw [hD]; exact h) hz) (hz.bindz.imp fun z hz2 => ?_)
  cases z with
  | inl s => exact fun σ' Hi' H' en' => (hr s).go σ' Hi' H' en' D ht hz2
  | inr r => exact hw r D hz2
theorem j1_whB {f : S → M (Tl S No)} (n : Nat) (w : Wk L (Lf s0)) (hc : ∀ s, JT X K b (Lf s) E c (mc s)) (hb : ∀ (s : S), JS X K b (Lf s) E body tlLp (f s) (pTl K b Lf)) (hp : PassesOwn (model X.prog X.w) X.A X.env X.xe) : J1 X K b L E (.While c body [] pos) (whB mc f n s0) Lf := by
  refine ⟨fun σ Hi H en D hz => PS.wp (ps_while hp pt_wp pss_wp) ?_⟩
  rw [← whB_T] at hz
  refine wh_core (c := mc) (f := f) (n := n) (en.wk w) (fun s => (hc s).go) (fun s σ Hi H en D hD hz => (hb s).go σ Hi H en D (fun σ H h => by rw [hD]; exact h) hz) (hz.bindz.imp fun z hz2 => ?_)
  cases z with
  | inl s => exact hz2
  | inr r => exact nomatch r
theorem j1_whP {f : S → M S} (n : Nat) (w : Wk L (Lf s0)) (hc : ∀ s, JT X K b (Lf s) E c (mc s)) (hb : ∀ (s : S), JS X K b (Lf s) E body tlAny (f s) (pNx b Lf)) (hp : PassesOwn (model X.prog X.w) X.A X.env X.xe) : J1 X K b L E (.While c body [] pos) (whP mc f n s0) Lf := by
  refine ⟨fun σ Hi H en D hz => PS.wp (ps_while hp pt_wp pss_wp) ?_⟩
  refine wh_core (R := No) (c := mc) (f := fun s => f s >>= fun s' => pure (.ct s')) (n := n) (en.wk w) (fun s => (hc s).go) (fun s σ Hi H en D hD hz => (hb s).go σ Hi H en D trivial (hz.bindz.imp fun s' h σ2 Hi2 H2 en2 => ?_)) ?_
  · rw [hD]; exact (show ∀ σ' Hi' H', EnvOk b (Lf s') σ' Hi' H' → D.ct σ' H' from h) σ2 Hi2 H2 en2
  · rw [whP_T]
    cases hm : whP mc f n s0 with
    | ok a => rw [hm] at hz; exact hz
    | error z => rw [hm] at hz; cases z <;> exact hz
end
end G

set_option Elab.async false
set_option linter.all false
set_option maxRecDepth 100000
set_option maxHeartbeats 2000000
namespace G
open PySem L2 TL
abbrev FUEL : Nat := 1000000000000
theorem bt_len : bootBuiltins "len" = some (.builtin "len") := by decide +kernel
theorem bt_isinstance : bootBuiltins "isinstance" = some (.builtin "isinstance") := by decide +kernel
theorem bt_sorted : bootBuiltins "sorted" = some (.builtin "sorted") := by decide +kernel
theorem bt_max : bootBuiltins "max" = some (.builtin "max") := by decide +kernel
theorem bt_min : bootBuiltins "min" = some (.builtin "min") := by decide +kernel
theorem bt_sum : bootBuiltins "sum" = some (.builtin "sum") := by decide +kernel
theorem bt_all : bootBuiltins "all" = some (.builtin "all") := by decide +kernel
theorem bt_any : bootBuiltins "any" = some (.builtin "any") := by decide +kernel
theorem bt_abs : bootBuiltins "abs" = some (.builtin "abs") := by decide +kernel
theorem bt_bool : bootBuiltins "bool" = some (.type "bool") := by decide +kernel
theorem bt_int : bootBuiltins "int" = some (.type "int") := by decide +kernel
theorem bt_str : bootBuiltins "str" = some (.type "str") := by decide +kernel
theorem bt_list : bootBuiltins "list" = some (.type "list") := by decide +kernel
theorem bt_tuple : bootBuiltins "tuple" = some (.type "tuple") := by decide +kernel
theorem bt_dict : bootBuiltins "dict" = some (.type "dict") := by decide +kernel
theorem bt_set : bootBuiltins "set" = some (.type "set") := by decide +kernel
theorem bt_range : bootBuiltins "range" = some (.type "range") := by decide +kernel
theorem bt_enumerate : bootBuiltins "enumerate" = some (.type "enumerate") := by decide +kernel
theorem bt_zip : bootBuiltins "zip" = some (.type "zip") := by decide +kernel
theorem bt_reversed : bootBuiltins "reversed" = some (.type "reversed") := by decide +kernel
section
variable {P : Program} {w : World} {K : Fg} {mg : Str → Option Value} {base : Heap} {N : List Str} {qual : Str} {sc : Scope} {f : Addr} {cdv : Value} {A : Around} {outer : List Env} {s : Shared} {H : Hp} {E : XK}
theorem takF : Takes (cxOf (L2.CX P w) P w K mg base N qual sc f cdv A outer s H E) (fun cls d _ H => E cls d H) := takes_of rfl rfl rfl rfl
theorem pasF : Passes (L2.CX P w) (cxOf (L2.CX P w) P w K mg base N qual sc f cdv A outer s H E) E := passes_call takF (fun _ _ _ _ h => h)
theorem pasO : PassesOwn (model P w) (cxOf (L2.CX P w) P w K mg base N qual sc f cdv A outer s H E).A (cxOf (L2.CX P w) P w K mg base N qual sc f cdv A outer s H E).env (cxOf (L2.CX P w) P w K mg base N qual sc f cdv A outer s H E).xe := passes_of rfl
end
theorem cx_false {P : Program} {w : World} {l : List Env} {H : Hp} {s : Shared} {e : Value} {s' : Shared} (h : L2.CX P w l H s (fun _ _ _ => False) e s') : False := by
  obtain ⟨_, _, _, _, _, _, _, _, _, _, _, _, z⟩ := h
  exact z
theorem walkE {l : PySem.W.OpenLaw} {n k : Nat} {q : Program} {loose : List Str} {XP : (Str → Option Value) → Heap → Prop} {YP : World → Heap → Prop} {d : DefRec} {CX : World → CXT} {x : Str}
    (hn : l.most = some n) (hn2 : n ≤ sizeLine) (hdf : d.params.defaults = []) (hr : Room k callerA)
    (F : ∀ (w : World) (mg : Str → Option Value) (fa : Addr) (h : Heap), YP w h → h.Ns mainGlobals mg → mg d.name = some (.ref fa) →
      ∃ (K : PySem.W.Frag) (fd : FuncData) (sp : Sp), K.In h ∧ (∀ (s : Shared) (u : Value), BindsTo s fd ⟨[u], []⟩ [(x, u)]) ∧
        (∀ (H : Hp) (a : Addr) (ns : List Int), ns.length ≤ n → Only H → SqL K H a (ns.map V.int) → sp [.ref a] H (fun v _ => v = .bl true) fun _ _ _ => False) ∧
        ∀ base : Heap, K.In base → base.Ns mainGlobals mg → FnOk l.prog w K mg base (CX w) k fa fd [x] sp)
    (hCX : ∀ (w : World) (H : Hp) (s : Shared) (e : Value) (s' : Shared), CX w [] H s (fun _ _ _ => False) e s' → False) :
    PySem.W.WalkO q loose XP YP l.row.toRowW d [] (fun f vs => PySem.call f vs) := by
  refine Att.attach_call hn hdf fun w s₀ s₁ mg mb fa o pm cd doc a vs ns G Y ho hd hcd hmg hobj hints hlen hg => ?_
  obtain ⟨K, fd, sp, KX, hb, hsp, hF⟩ := F w mg fa _ Y G.T.g hmg
  exact law_call KX G.T.g G.T.b G.T.builtins G.T.nolimit hg hobj hints (Nat.le_trans hlen hn2) hr hF hb (fun H hO hS => hsp H a ns hlen hO hS) fun H e s' => hCX w H s₁ e s'
theorem fnok_same {P : Program} {w : World} {K : Fg} {mg : Str → Option Value} {base : Heap} {CX : CXT} {k : Nat} {f : Addr} {fd fd' : FuncData} {ps ps' : List Str} {sp : Sp} {x qual : Str} {params : Arguments} {body : List Stmt} {scope : Scope} {dvs : List V} {kws : List (Str × V)}
    (F : FunD K x qual params body scope dvs kws f fd) (g : FnOk P w K mg base CX k f fd' ps' sp) : FnOk P w K mg base CX k f fd' ps' sp := g
section
variable {X : Cx} {K : Fg} {mg : Str → Option Value} {b : Bs} {L : List En} {E : XK} {e : Expr} {rest : List Stmt} {α β γ : Type} {pos p2 p3 p4 : Pos} {tl : Ends → Prop} {post : α → Ends → Prop}
theorem js_stuck : JS X K b L E rest tl (stuck : M α) post := ⟨fun _ _ _ _ _ _ h => h.elim⟩
/-- isinstance of a value whose type is known, a built-in class -/
def TyxOk (K : Fg) (α : Type) [Py α] (tn : String) : Prop := ∀ (H : Hp) (a : α) (v : V), Py.rep K H a v → TyX K H v (.type tn)
theorem tyx_bool : TyxOk K Bool "bool" := fun _ _ _ h => h ▸ .base (.bl _)
theorem tyx_int : TyxOk K Int "int" := fun _ _ _ h => h ▸ .base (.int _)
theorem tyx_str : TyxOk K Tx "str" := fun _ _ _ h => h ▸ .base (.str _)
theorem tyx_sql {H : Hp} {p : Addr} {vs : List V} (h : SqL K H p vs) : TyX K H (.ref p) (.type "list") := by
  rcases h with (h | ⟨o, h⟩) | ⟨o, its, n, h1, h2, _⟩
  · exact .base (.lst h)
  · exact .base (.frz h)
  · exact .kList h1 h2
theorem tyx_sqt {H : Hp} {p : Addr} {vs : List V} (h : SqT K H p vs) : TyX K H (.ref p) (.type "tuple") := by
  rcases h with (h | ⟨o, h⟩) | ⟨o, its, n, h1, h2, _⟩
  · exact .base (.tup h)
  · exact .fTuple h
  · exact .kTuple h1 h2
theorem tyx_L [Py α] : TyxOk K (List α) "list" := fun _ _ _ h => by
  obtain ⟨p, vs, rfl, h, _⟩ := h
  exact tyx_sql h
theorem tyx_U [Py α] : TyxOk K (Tup α) "tuple" := fun _ _ _ h => by
  obtain ⟨p, vs, rfl, h, _⟩ := h
  exact tyx_sqt h
theorem tyx_P [Py α] [Py β] : TyxOk K (α × β) "tuple" := fun _ _ _ h => by
  obtain ⟨p, _, _, rfl, h, _⟩ := h
  exact tyx_sqt h
theorem tyx_T3 [Py α] [Py β] [Py γ] : TyxOk K (T3 α β γ) "tuple" := fun _ _ _ h => by
  obtain ⟨p, _, _, _, rfl, h, _⟩ := h
  exact tyx_sqt h
theorem je_isiB [Py α] {m : M α} {tn T : String} {r : Bool} (ht : TyxOk K α tn) (hk : kitB tn T = some r) (hm : mg "isinstance" = none) (hm2 : mg (Str.ofString T) = none) (hv : bootBuiltins (Str.ofString T) = some (.type T)) (h : JE X K b L E e m)
    (hK : X.K = K := by rfl) (hM : X.mg = mg := by rfl) (hg : Gl X "isinstance" := by rfl) (hg2 : Gl X (Str.ofString T) := by rfl) (hn : Str.ofString T ≠ "__name__" := by decide) (hd : (Str.ofString T == ("__debug__" : Str)) = false := by decide)
    (he : starEach [e, .Name (Str.ofString T) p2] X.env = (false, eval e X.env) :: starEach [.Name (Str.ofString T) p2] X.env := by rfl) (he2 : starEach [.Name (Str.ofString T) p2] X.env = (false, eval (.Name (Str.ofString T) p2) X.env) :: starEach [] X.env := by rfl)
    (hpl : (backTo pos (starEach [.Name (Str.ofString T) p2] X.env)).any (·.1) = false := by rfl) : JE X K b L E (.Call (.Name "isinstance" p3) [e, .Name (Str.ofString T) p2] [] pos) (m >>= fun _ => (pure r : M Bool)) := by
  subst hK
  refine .of ⟨_, pe_callB call_isi hg (by rw [hM]; exact hm) bt_isinstance (pa_cons pe_wp (pa_cons (pe_bltn (v := .ty T) hg2 (by rw [hM]; exact hm2) hv rfl hn hd) pa_nil he2) he) (by decide) (by decide) he hpl, fun σ Hi H en Q hq => h.go σ Hi H en _ (hq.bind.imp fun a Hi1 H1 n1 q v rv => ?_)⟩
  exact ⟨v, .ty T, .type tn, .type T, r, rfl, .ty T, ht H1 a v (Py.mono n1.sub rv), kit_ty hk, q.here n1.sub _ rfl⟩
end
end G

set_option Elab.async false
set_option linter.all false
set_option maxRecDepth 100000
set_option maxHeartbeats 2000000
namespace G
open PySem L2 TL

/-! ### == of data -/
class PyE (α : Type) [Py α] [DecidableEq α] where
  dep : Nat
  inj : ∀ {X : Cx} {pins : List (Addr × Obj)} {σ : L2.St} {H : Hp} {s : Shared}, Inv X pins σ H s → ∀ {a b : α} {x : V}, Py.rep X.K H a x → Py.rep X.K H b x → a = b
  eq : ∀ {X : Cx} {pins : List (Addr × Obj)} {σ : L2.St} {H : Hp} {s : Shared}, Inv X pins σ H s → ∀ (A : Around) (a b : α) (x y : V) (v u : Value), A.units + dep < cLine → Py.rep X.K H a x → Py.rep X.K H b y → RelV x v → RelV y u → SeqAt.EqAt A s v u (decide (a = b))
  rc : ∀ {X : Cx} {pins : List (Addr × Obj)} {σ : L2.St} {H : Hp} {s : Shared}, Inv X pins σ H s → ∀ (A : Around) (a b : α) (x y : V) (v u : Value), A.units + dep < cLine → Py.rep X.K H a x → Py.rep X.K H b y → RelV x v → RelV y u → SeqAt.RcAt A s v u (decide (a = b))
  ne : ∀ {X : Cx} {pins : List (Addr × Obj)} {σ : L2.St} {H : Hp} {s : Shared}, Inv X pins σ H s → ∀ (A : Around) (a b : α) (x y : V) (v u : Value), A.units + dep < cLine → Py.rep X.K H a x → Py.rep X.K H b y → RelV x v → RelV y u → SeqAt.RcNeAt A s v u (!decide (a = b))
theorem dec_S' (a b : Tx) : (S a == S b) = decide (a = b) := by
  by_cases h : a = b
  · subst h; simp
  · rw [decide_eq_false h]
    exact beq_eq_false_iff_ne.mpr fun z => h (S_inj z)
instance : PyE Int where
  dep := 0
  inj := fun {X pins σ H s} _ {a b x} h1 h2 => V.int.inj (h1.symm.trans h2)
  eq := fun _ A a b x y v u _ r1 r2 q1 q2 => by
    have e1 : x = .int a := r1
    have e2 : y = .int b := r2
    subst e1 e2
    obtain ⟨t, rfl⟩ := q1
    obtain ⟨t', rfl⟩ := q2
    exact SeqAt.EqAt.int_int a t b t'
  rc := fun _ A a b x y v u _ r1 r2 q1 q2 => by
    have e1 : x = .int a := r1
    have e2 : y = .int b := r2
    subst e1 e2
    obtain ⟨t, rfl⟩ := q1
    obtain ⟨t', rfl⟩ := q2
    exact SeqAt.RcAt.int_int a t b t'
  ne := fun _ A a b x y v u _ r1 r2 q1 q2 => by
    have e1 : x = .int a := r1
    have e2 : y = .int b := r2
    subst e1 e2
    obtain ⟨t, rfl⟩ := q1
    obtain ⟨t', rfl⟩ := q2
    exact SeqAt.RcNeAt.int_int a t b t'
instance : PyE Bool where
  dep := 0
  inj := fun {X pins σ H s} _ {a b x} h1 h2 => V.bl.inj (h1.symm.trans h2)
  eq := fun _ A a b x y v u _ r1 r2 q1 q2 => by
    have e1 : x = .bl a := r1
    have e2 : y = .bl b := r2
    subst e1 e2
    cases q1
    cases q2
    have := SeqAt.EqAt.bool_bool (A := A) (s := by assumption) a b
    rw [Bool.beq_eq_decide_eq] at this
    exact this
  rc := fun _ A a b x y v u _ r1 r2 q1 q2 => by
    have e1 : x = .bl a := r1
    have e2 : y = .bl b := r2
    subst e1 e2
    cases q1
    cases q2
    have := SeqAt.RcAt.bool_bool (A := A) (s := by assumption) a b
    rw [Bool.beq_eq_decide_eq] at this
    exact this
  ne := fun _ A a b x y v u _ r1 r2 q1 q2 => by
    have e1 : x = .bl a := r1
    have e2 : y = .bl b := r2
    subst e1 e2
    cases q1
    cases q2
    have := SeqAt.RcNeAt.bool_bool (A := A) (s := by assumption) a b
    have e : (!(a == b)) = !decide (a = b) := by cases a <;> cases b <;> rfl
    rw [e] at this
    exact this
instance instPyETx : PyE Tx where
  dep := 0
  inj := fun {X pins σ H s} _ {a b x} h1 h2 => S_inj (V.str.inj (h1.symm.trans h2))
  eq := fun _ A a b x y v u _ r1 r2 q1 q2 => by
    have e1 : x = .str (S a) := r1
    have e2 : y = .str (S b) := r2
    subst e1 e2
    obtain ⟨t, rfl⟩ := q1
    obtain ⟨t', rfl⟩ := q2
    rw [← dec_S']
    exact SeqAt.EqAt.str_str _ t _ t'
  rc := fun _ A a b x y v u _ r1 r2 q1 q2 => by
    have e1 : x = .str (S a) := r1
    have e2 : y = .str (S b) := r2
    subst e1 e2
    obtain ⟨t, rfl⟩ := q1
    obtain ⟨t', rfl⟩ := q2
    rw [← dec_S']
    exact SeqAt.RcAt.str_str _ t _ t'
  ne := fun _ A a b x y v u _ r1 r2 q1 q2 => by
    have e1 : x = .str (S a) := r1
    have e2 : y = .str (S b) := r2
    subst e1 e2
    obtain ⟨t, rfl⟩ := q1
    obtain ⟨t', rfl⟩ := q2
    rw [← dec_S']
    exact SeqAt.RcNeAt.str_str _ t _ t'
section
variable {α β γ δ : Type} [Py α] [DecidableEq α] [PyE α] [Py β] [DecidableEq β] [PyE β] [Py γ] [DecidableEq γ] [PyE γ] [Py δ] [DecidableEq δ] [PyE δ] {X : Cx} {pins : List (Addr × Obj)} {σ : L2.St} {H : Hp} {s : Shared}
theorem rl_inj (I : Inv X pins σ H s) : ∀ {xs ys : List α} {vs : List V}, Rl X.K H xs vs → Rl X.K H ys vs → xs = ys
  | _, _, _, .nil, .nil => rfl
  | _, _, _, .cons r t, .cons r' t' => by rw [PyE.inj I r r', rl_inj I t t']
def eAt (xs ys : List α) (j : Nat) : Bool := match xs[j]?, ys[j]? with
  | some a, some b => decide (a = b)
  | _, _ => false
theorem items_eq (I : Inv X pins σ H s) (A : Around) (hu : A.units + PyE.dep (α := α) < cLine) : ∀ {xs ys : List α} {vs ws : List V} {us ts : List Value}, Rl X.K H xs vs → Rl X.K H ys ws → Vals vs us → Vals ws ts →
    ∀ j (h1 : j < us.length) (h2 : j < ts.length), SeqAt.EqAt A s us[j] ts[j] (eAt xs ys j)
  | _, _, _, _, _, _, .nil, _, .nil, _, j, h1, _ => absurd h1 (Nat.not_lt_zero _)
  | _, _, _, _, _, _, .cons _ _, .nil, .cons _ _, .nil, j, _, h2 => absurd h2 (Nat.not_lt_zero _)
  | _, _, _, _, _, _, .cons r t, .cons r' t', .cons q k, .cons q' k', 0, _, _ => PyE.eq I A _ _ _ _ _ _ hu r r' q q'
  | _, _, _, _, _, _, .cons r t, .cons r' t', .cons q k, .cons q' k', j + 1, h1, h2 => items_eq I A hu t t' k k' j (Nat.lt_of_succ_lt_succ h1) (Nat.lt_of_succ_lt_succ h2)
theorem all_range_succ (n : Nat) (e : Nat → Bool) : (List.range (n + 1)).all e = (e 0 && (List.range n).all fun j => e (j + 1)) := by
  rw [List.range_succ_eq_map, List.all_cons, List.all_map]
  rfl
theorem eAt_all : ∀ xs ys : List α, xs.length = ys.length → (List.range xs.length).all (eAt xs ys) = decide (xs = ys)
  | [], [], _ => by simp
  | [], _ :: _, h => nomatch h
  | _ :: _, [], h => nomatch h
  | x :: xs, y :: ys, h => by
    rw [List.length_cons, all_range_succ]
    have ih := eAt_all xs ys (by simpa using h)
    have e1 : (fun j => eAt (x :: xs) (y :: ys) (j + 1)) = eAt xs ys := funext fun j => rfl
    rw [e1, ih]
    show (decide (x = y) && decide (xs = ys)) = decide (x :: xs = y :: ys)
    by_cases h1 : x = y <;> by_cases h2 : xs = ys <;> simp [h1, h2]
theorem eAt_allT (xs ys : List α) : ((List.range (min xs.length ys.length)).all (eAt xs ys) && xs.length == ys.length) = decide (xs = ys) := by
  by_cases h : xs.length = ys.length
  · rw [h, Nat.min_self, ← h, eAt_all xs ys h]
    simp
  · have : xs ≠ ys := fun e => h (by rw [e])
    rw [decide_eq_false this, beq_eq_false_iff_ne.mpr h, Bool.and_false]
instance instPyEList : PyE (List α) where
  dep := PyE.dep (α := α) + 1
  inj := fun {X pins σ H s} I {a b x} h1 h2 => by
    obtain ⟨p, vs, rfl, g1, g2⟩ := h1
    obtain ⟨p', vs', e, k1, k2⟩ := h2
    cases e
    have := I.list_inj g1 k1
    subst this
    exact rl_inj I g2 k2
  eq := fun {X pins σ H s} I A a b x y v u hu h1 h2 q1 q2 => by
    obtain ⟨p, vs, rfl, g1, g2⟩ := h1
    obtain ⟨p', vs', rfl, k1, k2⟩ := h2
    cases q1
    cases q2
    by_cases hp : p = p'
    · subst hp
      have := I.list_inj g1 k1
      subst this
      have := rl_inj I g2 k2
      subst this
      rw [decide_eq_true rfl]
      exact SeqAt.EqAt.same _
    · obtain ⟨us, r1, pl1, _⟩ := I.list g1
      obtain ⟨ts, r2, pl2, _⟩ := I.list k1
      have l1 : us.toArray.size = a.length := by rw [List.size_toArray, ← r1.length, g2.length]
      have l2 : ts.toArray.size = b.length := by rw [List.size_toArray, ← r2.length, k2.length]
      by_cases hsz : a.length = b.length
      · have := SeqAt.RcAt.lists (A := A) (e := eAt a b) pl1.isList pl2.isList (by rw [l1, l2, hsz]) (by omega) (fun j j1 j2 => by
          have := items_eq I A.in1 (by show A.units + 1 + _ < cLine; omega) g2 k2 r1 r2 j (by simpa using j1) (by simpa using j2)
          simpa using this)
        rw [l1, eAt_all a b hsz] at this
        exact SeqAt.EqAt.of_refs hp this
      · rw [decide_eq_false (fun e => hsz (by rw [e]))]
        exact SeqAt.EqAt.of_refs hp (SeqAt.RcAt.lists_lengths pl1.isList pl2.isList (by rw [l1, l2]; simpa using hsz) (by omega))
  rc := fun {X pins σ H s} I A a b x y v u hu h1 h2 q1 q2 => by
    obtain ⟨p, vs, rfl, g1, g2⟩ := h1
    obtain ⟨p', vs', rfl, k1, k2⟩ := h2
    cases q1
    cases q2
    obtain ⟨us, r1, pl1, _⟩ := I.list g1
    obtain ⟨ts, r2, pl2, _⟩ := I.list k1
    have l1 : us.toArray.size = a.length := by rw [List.size_toArray, ← r1.length, g2.length]
    have l2 : ts.toArray.size = b.length := by rw [List.size_toArray, ← r2.length, k2.length]
    by_cases hsz : a.length = b.length
    · have := SeqAt.RcAt.lists (A := A) (e := eAt a b) pl1.isList pl2.isList (by rw [l1, l2, hsz]) (by omega) (fun j j1 j2 => by
        have := items_eq I A.in1 (by show A.units + 1 + _ < cLine; omega) g2 k2 r1 r2 j (by simpa using j1) (by simpa using j2)
        simpa using this)
      rw [l1, eAt_all a b hsz] at this
      exact this
    · rw [decide_eq_false (fun e => hsz (by rw [e]))]
      exact SeqAt.RcAt.lists_lengths pl1.isList pl2.isList (by rw [l1, l2]; simpa using hsz) (by omega)
  ne := fun {X pins σ H s} I A a b x y v u hu h1 h2 q1 q2 => by
    obtain ⟨p, vs, rfl, g1, g2⟩ := h1
    obtain ⟨p', vs', rfl, k1, k2⟩ := h2
    cases q1
    cases q2
    obtain ⟨us, r1, pl1, _⟩ := I.list g1
    obtain ⟨ts, r2, pl2, _⟩ := I.list k1
    have l1 : us.toArray.size = a.length := by rw [List.size_toArray, ← r1.length, g2.length]
    have l2 : ts.toArray.size = b.length := by rw [List.size_toArray, ← r2.length, k2.length]
    by_cases hsz : a.length = b.length
    · have := SeqAt.RcNeAt.lists (A := A) (e := eAt a b) pl1.isList pl2.isList (by rw [l1, l2, hsz]) (by omega) (fun j j1 j2 => by
        have := items_eq I A.in1 (by show A.units + 1 + _ < cLine; omega) g2 k2 r1 r2 j (by simpa using j1) (by simpa using j2)
        simpa using this)
      rw [l1, eAt_all a b hsz] at this
      exact this
    · rw [decide_eq_false (fun e => hsz (by rw [e]))]
      exact SeqAt.RcNeAt.lists_lengths pl1.isList pl2.isList (by rw [l1, l2]; simpa using hsz) (by omega)
theorem tu_rc (I : Inv X pins σ H s) {A : Around} {xs ys : List α} {p p' : Addr} {vs vs' : List V} (g1 : SqT X.K H p vs) (g2 : Rl X.K H xs vs) (k1 : SqT X.K H p' vs') (k2 : Rl X.K H ys vs') (hu : A.units + (PyE.dep (α := α) + 1) < cLine) : SeqAt.RcAt A s (.ref p) (.ref p') (decide (xs = ys)) := by
  obtain ⟨us, r1, pl1, _⟩ := I.tuple g1
  obtain ⟨ts, r2, pl2, _⟩ := I.tuple k1
  have l1 : us.toArray.size = xs.length := by rw [List.size_toArray, ← r1.length, g2.length]
  have l2 : ts.toArray.size = ys.length := by rw [List.size_toArray, ← r2.length, k2.length]
  have := SeqAt.RcAt.tuples (A := A) (e := eAt xs ys) (show s.heap.IsTuple p us.toArray from pl1) (show s.heap.IsTuple p' ts.toArray from pl2) (by omega) (fun j j1 j2 => by
      have := items_eq I A.in1 (by show A.units + 1 + _ < cLine; omega) g2 k2 r1 r2 j (by simpa using j1) (by simpa using j2)
      simpa using this)
  rw [l1, l2, eAt_allT] at this
  exact this
theorem tu_ne (I : Inv X pins σ H s) {A : Around} {xs ys : List α} {p p' : Addr} {vs vs' : List V} (g1 : SqT X.K H p vs) (g2 : Rl X.K H xs vs) (k1 : SqT X.K H p' vs') (k2 : Rl X.K H ys vs') (hu : A.units + (PyE.dep (α := α) + 1) < cLine) : SeqAt.RcNeAt A s (.ref p) (.ref p') (!decide (xs = ys)) := by
  obtain ⟨us, r1, pl1, _⟩ := I.tuple g1
  obtain ⟨ts, r2, pl2, _⟩ := I.tuple k1
  have l1 : us.toArray.size = xs.length := by rw [List.size_toArray, ← r1.length, g2.length]
  have l2 : ts.toArray.size = ys.length := by rw [List.size_toArray, ← r2.length, k2.length]
  have := SeqAt.RcNeAt.tuples (A := A) (e := eAt xs ys) (show s.heap.IsTuple p us.toArray from pl1) (show s.heap.IsTuple p' ts.toArray from pl2) (by omega) (fun j j1 j2 => by
      have := items_eq I A.in1 (by show A.units + 1 + _ < cLine; omega) g2 k2 r1 r2 j (by simpa using j1) (by simpa using j2)
      simpa using this)
  rw [l1, l2, eAt_allT] at this
  exact this
theorem tu_eq (I : Inv X pins σ H s) {A : Around} {xs ys : List α} {p p' : Addr} {vs vs' : List V} (g1 : SqT X.K H p vs) (g2 : Rl X.K H xs vs) (k1 : SqT X.K H p' vs') (k2 : Rl X.K H ys vs') (hu : A.units + (PyE.dep (α := α) + 1) < cLine) : SeqAt.EqAt A s (.ref p) (.ref p') (decide (xs = ys)) := by
  by_cases hp : p = p'
  · subst hp
    have := I.tuple_inj g1 k1
    subst this
    have := rl_inj I g2 k2
    subst this
    rw [decide_eq_true rfl]
    exact SeqAt.EqAt.same _
  · exact SeqAt.EqAt.of_refs hp (tu_rc I g1 g2 k1 k2 hu)
instance instDecTup {α : Type} [h : DecidableEq α] : DecidableEq (Tup α) := (inferInstance : DecidableEq (List α))
instance instPyETup : PyE (Tup α) where
  dep := PyE.dep (α := α) + 1
  inj := fun {X pins σ H s} I {a b x} h1 h2 => by
    obtain ⟨p, vs, rfl, g1, g2⟩ := h1
    obtain ⟨p', vs', e, k1, k2⟩ := h2
    cases e
    have := I.tuple_inj g1 k1
    subst this
    exact rl_inj I g2 k2
  eq := fun {X pins σ H s} I A a b x y v u hu h1 h2 q1 q2 => by
    obtain ⟨p, vs, rfl, g1, g2⟩ := h1
    obtain ⟨p', vs', rfl, k1, k2⟩ := h2
    cases q1
    cases q2
    exact tu_eq I g1 g2 k1 k2 hu
  rc := fun {X pins σ H s} I A a b x y v u hu h1 h2 q1 q2 => by
    obtain ⟨p, vs, rfl, g1, g2⟩ := h1
    obtain ⟨p', vs', rfl, k1, k2⟩ := h2
    cases q1
    cases q2
    exact tu_rc I g1 g2 k1 k2 hu
  ne := fun {X pins σ H s} I A a b x y v u hu h1 h2 q1 q2 => by
    obtain ⟨p, vs, rfl, g1, g2⟩ := h1
    obtain ⟨p', vs', rfl, k1, k2⟩ := h2
    cases q1
    cases q2
    exact tu_ne I g1 g2 k1 k2 hu
/-- tuples of a written number of items -/
def FixEq (X : Cx) (H : Hp) (s : Shared) (n d : Nat) (vs ws : List V) (e : Nat → Bool) : Prop :=
  vs.length = n ∧ ws.length = n ∧ ∀ (A : Around), A.units + d < cLine → ∀ us ts, Vals vs us → Vals ws ts → ∀ j (h1 : j < us.length) (h2 : j < ts.length), SeqAt.EqAt A s us[j] ts[j] (e j)
theorem fix_rc (I : Inv X pins σ H s) {n d : Nat} {vs ws : List V} {e : Nat → Bool} {p p' : Addr} {A : Around} (f : FixEq X H s n d vs ws e) (g1 : SqT X.K H p vs) (k1 : SqT X.K H p' ws) (hu : A.units + (d + 1) < cLine) : SeqAt.RcAt A s (.ref p) (.ref p') ((List.range n).all e) := by
  obtain ⟨us, r1, pl1, _⟩ := I.tuple g1
  obtain ⟨ts, r2, pl2, _⟩ := I.tuple k1
  have l1 : us.toArray.size = n := by rw [List.size_toArray, ← r1.length, f.1]
  have l2 : ts.toArray.size = n := by rw [List.size_toArray, ← r2.length, f.2.1]
  have := SeqAt.RcAt.tuples (A := A) (e := e) (show s.heap.IsTuple p us.toArray from pl1) (show s.heap.IsTuple p' ts.toArray from pl2) (by omega) (fun j j1 j2 => by
      have := f.2.2 A.in1 (by show A.units + 1 + _ < cLine; omega) us ts r1 r2 j (by simpa using j1) (by simpa using j2)
      simpa using this)
  rw [l1, l2, Nat.min_self, beq_self_eq_true, Bool.and_true] at this
  exact this
theorem fix_ne (I : Inv X pins σ H s) {n d : Nat} {vs ws : List V} {e : Nat → Bool} {p p' : Addr} {A : Around} (f : FixEq X H s n d vs ws e) (g1 : SqT X.K H p vs) (k1 : SqT X.K H p' ws) (hu : A.units + (d + 1) < cLine) : SeqAt.RcNeAt A s (.ref p) (.ref p') (!(List.range n).all e) := by
  obtain ⟨us, r1, pl1, _⟩ := I.tuple g1
  obtain ⟨ts, r2, pl2, _⟩ := I.tuple k1
  have l1 : us.toArray.size = n := by rw [List.size_toArray, ← r1.length, f.1]
  have l2 : ts.toArray.size = n := by rw [List.size_toArray, ← r2.length, f.2.1]
  have := SeqAt.RcNeAt.tuples (A := A) (e := e) (show s.heap.IsTuple p us.toArray from pl1) (show s.heap.IsTuple p' ts.toArray from pl2) (by omega) (fun j j1 j2 => by
      have := f.2.2 A.in1 (by show A.units + 1 + _ < cLine; omega) us ts r1 r2 j (by simpa using j1) (by simpa using j2)
      simpa using this)
  rw [l1, l2, Nat.min_self, beq_self_eq_true, Bool.and_true] at this
  exact this
theorem fix_nil : FixEq X H s 0 0 [] [] (fun _ => false) := ⟨rfl, rfl, fun _ _ us ts r1 _ j h1 _ => by cases r1; exact absurd h1 (Nat.not_lt_zero _)⟩
theorem fix_cons (I : Inv X pins σ H s) {n d : Nat} {vs ws : List V} {e : Nat → Bool} {a b : α} {x y : V} (r1 : Py.rep X.K H a x) (r2 : Py.rep X.K H b y) (f : FixEq X H s n d vs ws e) : FixEq X H s (n + 1) (max (PyE.dep (α := α)) d) (x :: vs) (y :: ws) (fun j => match j with
    | 0 => decide (a = b)
    | j + 1 => e j) := by
  refine ⟨by rw [List.length_cons, f.1], by rw [List.length_cons, f.2.1], fun A hu us ts q1 q2 j h1 h2 => ?_⟩
  cases q1 with
  | cons s1 t1 =>
    cases q2 with
    | cons s2 t2 =>
      cases j with
      | zero => exact PyE.eq I A _ _ _ _ _ _ (by omega) r1 r2 s1 s2
      | succ j => exact f.2.2 A (by omega) _ _ t1 t2 j (Nat.lt_of_succ_lt_succ h1) (Nat.lt_of_succ_lt_succ h2)
theorem fix2 (I : Inv X pins σ H s) {a a' : α} {b b' : β} {x y x' y' : V} (h1 : Py.rep X.K H a x) (h2 : Py.rep X.K H b y) (h1' : Py.rep X.K H a' x') (h2' : Py.rep X.K H b' y') :
    ∃ e, FixEq X H s 2 (max (PyE.dep (α := α)) (max (PyE.dep (α := β)) 0)) [x, y] [x', y'] e ∧ (List.range 2).all e = decide ((a, b) = (a', b')) := by
  refine ⟨_, fix_cons I h1 h1' (fix_cons I h2 h2' fix_nil), ?_⟩
  show (decide (a = a') && (decide (b = b') && true)) = _
  by_cases e1 : a = a' <;> by_cases e2 : b = b' <;> simp [e1, e2]
theorem fix3 (I : Inv X pins σ H s) {a a' : α} {b b' : β} {c c' : γ} {x y z x' y' z' : V} (h1 : Py.rep X.K H a x) (h2 : Py.rep X.K H b y) (h3 : Py.rep X.K H c z) (h1' : Py.rep X.K H a' x') (h2' : Py.rep X.K H b' y') (h3' : Py.rep X.K H c' z') :
    ∃ e, FixEq X H s 3 (max (PyE.dep (α := α)) (max (PyE.dep (α := β)) (max (PyE.dep (α := γ)) 0))) [x, y, z] [x', y', z'] e ∧ (List.range 3).all e = decide ((T3.mk a b c) = (T3.mk a' b' c')) := by
  refine ⟨_, fix_cons I h1 h1' (fix_cons I h2 h2' (fix_cons I h3 h3' fix_nil)), ?_⟩
  show (decide (a = a') && (decide (b = b') && (decide (c = c') && true))) = _
  by_cases e1 : a = a' <;> by_cases e2 : b = b' <;> by_cases e3 : c = c' <;> simp [e1, e2, e3]
theorem fix4 (I : Inv X pins σ H s) {a a' : α} {b b' : β} {c c' : γ} {d d' : δ} {x y z w x' y' z' w' : V} (h1 : Py.rep X.K H a x) (h2 : Py.rep X.K H b y) (h3 : Py.rep X.K H c z) (h4 : Py.rep X.K H d w) (h1' : Py.rep X.K H a' x') (h2' : Py.rep X.K H b' y') (h3' : Py.rep X.K H c' z') (h4' : Py.rep X.K H d' w') :
    ∃ e, FixEq X H s 4 (max (PyE.dep (α := α)) (max (PyE.dep (α := β)) (max (PyE.dep (α := γ)) (max (PyE.dep (α := δ)) 0)))) [x, y, z, w] [x', y', z', w'] e ∧ (List.range 4).all e = decide ((T4.mk a b c d) = (T4.mk a' b' c' d')) := by
  refine ⟨_, fix_cons I h1 h1' (fix_cons I h2 h2' (fix_cons I h3 h3' (fix_cons I h4 h4' fix_nil))), ?_⟩
  show (decide (a = a') && (decide (b = b') && (decide (c = c') && (decide (d = d') && true)))) = _
  by_cases e1 : a = a' <;> by_cases e2 : b = b' <;> by_cases e3 : c = c' <;> by_cases e4 : d = d' <;> simp [e1, e2, e3, e4]
instance instPyEProd : PyE (α × β) where
  dep := max (PyE.dep (α := α)) (max (PyE.dep (α := β)) 0) + 1
  inj := fun {X pins σ H s} I {a b x} h1 h2 => by
    obtain ⟨p, v1, v2, rfl, g1, g2, g3⟩ := h1
    obtain ⟨p', w1, w2, e, k1, k2, k3⟩ := h2
    cases e
    have := I.tuple_inj g1 k1
    cases this
    exact Prod.ext (PyE.inj I g2 k2) (PyE.inj I g3 k3)
  eq := fun {X pins σ H s} I A a b x y v u hu h1 h2 q1 q2 => by
    obtain ⟨p, v1, v2, rfl, g1, g2, g3⟩ := h1
    obtain ⟨p', w1, w2, rfl, k1, k2, k3⟩ := h2
    cases q1
    cases q2
    obtain ⟨e, f, hf⟩ := fix2 I g2 g3 k2 k3
    by_cases hp : p = p'
    · subst hp
      have := I.tuple_inj g1 k1
      cases this
      have : a = b := Prod.ext (PyE.inj I g2 k2) (PyE.inj I g3 k3)
      subst this
      rw [decide_eq_true rfl]
      exact SeqAt.EqAt.same _
    · exact SeqAt.EqAt.of_refs hp ((show SeqAt.RcAt A s (.ref p) (.ref p') (decide (a = b)) from hf ▸ fix_rc I f g1 k1 hu))
  rc := fun {X pins σ H s} I A a b x y v u hu h1 h2 q1 q2 => by
    obtain ⟨p, v1, v2, rfl, g1, g2, g3⟩ := h1
    obtain ⟨p', w1, w2, rfl, k1, k2, k3⟩ := h2
    cases q1
    cases q2
    obtain ⟨e, f, hf⟩ := fix2 I g2 g3 k2 k3
    exact (show SeqAt.RcAt A s (.ref p) (.ref p') (decide (a = b)) from hf ▸ fix_rc I f g1 k1 hu)
  ne := fun {X pins σ H s} I A a b x y v u hu h1 h2 q1 q2 => by
    obtain ⟨p, v1, v2, rfl, g1, g2, g3⟩ := h1
    obtain ⟨p', w1, w2, rfl, k1, k2, k3⟩ := h2
    cases q1
    cases q2
    obtain ⟨e, f, hf⟩ := fix2 I g2 g3 k2 k3
    exact (show SeqAt.RcNeAt A s (.ref p) (.ref p') (!decide (a = b)) from hf ▸ fix_ne I f g1 k1 hu)
theorem T3.ext' {a b : T3 α β γ} (h1 : a.a = b.a) (h2 : a.b = b.b) (h3 : a.c = b.c) : a = b := by cases a; cases b; cases h1; cases h2; cases h3; rfl
theorem T4.ext' {a b : T4 α β γ δ} (h1 : a.a = b.a) (h2 : a.b = b.b) (h3 : a.c = b.c) (h4 : a.d = b.d) : a = b := by cases a; cases b; cases h1; cases h2; cases h3; cases h4; rfl
instance instPyET3 : PyE (T3 α β γ) where
  dep := max (PyE.dep (α := α)) (max (PyE.dep (α := β)) (max (PyE.dep (α := γ)) 0)) + 1
  inj := fun {X pins σ H s} I {a b x} h1 h2 => by
    obtain ⟨p, v1, v2, v3, rfl, g1, g2, g3, g4⟩ := h1
    obtain ⟨p', w1, w2, w3, e, k1, k2, k3, k4⟩ := h2
    cases e
    have := I.tuple_inj g1 k1
    cases this
    exact T3.ext' (PyE.inj I g2 k2) (PyE.inj I g3 k3) (PyE.inj I g4 k4)
  eq := fun {X pins σ H s} I A a b x y v u hu h1 h2 q1 q2 => by
    obtain ⟨p, v1, v2, v3, rfl, g1, g2, g3, g4⟩ := h1
    obtain ⟨p', w1, w2, w3, rfl, k1, k2, k3, k4⟩ := h2
    cases q1
    cases q2
    obtain ⟨e, f, hf⟩ := fix3 I g2 g3 g4 k2 k3 k4
    by_cases hp : p = p'
    · subst hp
      have := I.tuple_inj g1 k1
      cases this
      have : a = b := T3.ext' (PyE.inj I g2 k2) (PyE.inj I g3 k3) (PyE.inj I g4 k4)
      subst this
      rw [decide_eq_true rfl]
      exact SeqAt.EqAt.same _
    · exact SeqAt.EqAt.of_refs hp ((show SeqAt.RcAt A s (.ref p) (.ref p') (decide (a = b)) from hf ▸ fix_rc I f g1 k1 hu))
  rc := fun {X pins σ H s} I A a b x y v u hu h1 h2 q1 q2 => by
    obtain ⟨p, v1, v2, v3, rfl, g1, g2, g3, g4⟩ := h1
    obtain ⟨p', w1, w2, w3, rfl, k1, k2, k3, k4⟩ := h2
    cases q1
    cases q2
    obtain ⟨e, f, hf⟩ := fix3 I g2 g3 g4 k2 k3 k4
    exact (show SeqAt.RcAt A s (.ref p) (.ref p') (decide (a = b)) from hf ▸ fix_rc I f g1 k1 hu)
  ne := fun {X pins σ H s} I A a b x y v u hu h1 h2 q1 q2 => by
    obtain ⟨p, v1, v2, v3, rfl, g1, g2, g3, g4⟩ := h1
    obtain ⟨p', w1, w2, w3, rfl, k1, k2, k3, k4⟩ := h2
    cases q1
    cases q2
    obtain ⟨e, f, hf⟩ := fix3 I g2 g3 g4 k2 k3 k4
    exact (show SeqAt.RcNeAt A s (.ref p) (.ref p') (!decide (a = b)) from hf ▸ fix_ne I f g1 k1 hu)
instance instPyET4 : PyE (T4 α β γ δ) where
  dep := max (PyE.dep (α := α)) (max (PyE.dep (α := β)) (max (PyE.dep (α := γ)) (max (PyE.dep (α := δ)) 0))) + 1
  inj := fun {X pins σ H s} I {a b x} h1 h2 => by
    obtain ⟨p, v1, v2, v3, v4, rfl, g1, g2, g3, g4, g5⟩ := h1
    obtain ⟨p', w1, w2, w3, w4, e, k1, k2, k3, k4, k5⟩ := h2
    cases e
    have := I.tuple_inj g1 k1
    cases this
    exact T4.ext' (PyE.inj I g2 k2) (PyE.inj I g3 k3) (PyE.inj I g4 k4) (PyE.inj I g5 k5)
  eq := fun {X pins σ H s} I A a b x y v u hu h1 h2 q1 q2 => by
    obtain ⟨p, v1, v2, v3, v4, rfl, g1, g2, g3, g4, g5⟩ := h1
    obtain ⟨p', w1, w2, w3, w4, rfl, k1, k2, k3, k4, k5⟩ := h2
    cases q1
    cases q2
    obtain ⟨e, f, hf⟩ := fix4 I g2 g3 g4 g5 k2 k3 k4 k5
    by_cases hp : p = p'
    · subst hp
      have := I.tuple_inj g1 k1
      cases this
      have : a = b := T4.ext' (PyE.inj I g2 k2) (PyE.inj I g3 k3) (PyE.inj I g4 k4) (PyE.inj I g5 k5)
      subst this
      rw [decide_eq_true rfl]
      exact SeqAt.EqAt.same _
    · exact SeqAt.EqAt.of_refs hp ((show SeqAt.RcAt A s (.ref p) (.ref p') (decide (a = b)) from hf ▸ fix_rc I f g1 k1 hu))
  rc := fun {X pins σ H s} I A a b x y v u hu h1 h2 q1 q2 => by
    obtain ⟨p, v1, v2, v3, v4, rfl, g1, g2, g3, g4, g5⟩ := h1
    obtain ⟨p', w1, w2, w3, w4, rfl, k1, k2, k3, k4, k5⟩ := h2
    cases q1
    cases q2
    obtain ⟨e, f, hf⟩ := fix4 I g2 g3 g4 g5 k2 k3 k4 k5
    exact (show SeqAt.RcAt A s (.ref p) (.ref p') (decide (a = b)) from hf ▸ fix_rc I f g1 k1 hu)
  ne := fun {X pins σ H s} I A a b x y v u hu h1 h2 q1 q2 => by
    obtain ⟨p, v1, v2, v3, v4, rfl, g1, g2, g3, g4, g5⟩ := h1
    obtain ⟨p', w1, w2, w3, w4, rfl, k1, k2, k3, k4, k5⟩ := h2
    cases q1
    cases q2
    obtain ⟨e, f, hf⟩ := fix4 I g2 g3 g4 g5 k2 k3 k4 k5
    exact (show SeqAt.RcNeAt A s (.ref p) (.ref p') (!decide (a = b)) from hf ▸ fix_ne I f g1 k1 hu)
/-- the operators -/
def rEqA (α : Type) [Py α] [DecidableEq α] (K : Fg) : R2 := fun x y H Q => ∃ a b : α, Py.rep K H a x ∧ Py.rep K H b y ∧ Q (.bl (decide (a = b))) H
def rNeA (α : Type) [Py α] [DecidableEq α] (K : Fg) : R2 := fun x y H Q => ∃ a b : α, Py.rep K H a x ∧ Py.rep K H b y ∧ Q (.bl (!decide (a = b))) H
theorem op_eqA (hu : X.A.units + 64 < cLine) (hd : PyE.dep (α := α) ≤ 60 := by decide) : OpR X (compareOp .Eq) (rEqA α X.K) := by
  intro pins s σ H x y v u Q I rx ry h
  obtain ⟨a, b, r1, r2, q⟩ := h
  exact PyE.rc I X.A a b x y v u (by omega) r1 r2 rx ry X.prog X.w _ _ ⟨.bl _, H, I, rfl, q⟩
theorem op_neA (hu : X.A.units + 64 < cLine) (hd : PyE.dep (α := α) ≤ 60 := by decide) : OpR X (compareOp .NotEq) (rNeA α X.K) := by
  intro pins s σ H x y v u Q I rx ry h
  obtain ⟨a, b, r1, r2, q⟩ := h
  exact PyE.ne I X.A a b x y v u (by omega) r1 r2 rx ry X.prog X.w _ _ ⟨.bl _, H, I, rfl, q⟩
theorem ro_eqA {K : Fg} {E : XK} : RO K E (rEqA α K) (fun a b : α => (pure (decide (a = b)) : M Bool)) := by
  rintro a b v w Hi H Q s r1 r2 h
  exact ⟨a, b, Py.mono s r1, Py.mono s r2, h.here s _ rfl⟩
theorem ro_neA {K : Fg} {E : XK} : RO K E (rNeA α K) (fun a b : α => (pure (!decide (a = b)) : M Bool)) := by
  rintro a b v w Hi H Q s r1 r2 h
  exact ⟨a, b, Py.mono s r1, Py.mono s r2, h.here s _ rfl⟩
end
end G

set_option Elab.async false
set_option linter.all false
set_option maxRecDepth 100000
set_option maxHeartbeats 2000000
namespace G
open PySem L2 TL
/-! list + list, whoever holds them -/
def rCatQ (K : Fg) : R2 := fun x y H Q => ∃ a b xs ys, x = .ref a ∧ y = .ref b ∧ SqL K H a xs ∧ SqL K H b ys ∧ xs.length + ys.length ≤ sizeLine ∧ ∀ p, H p = none → Q (.ref p) (upd H p (.lst (xs ++ ys)))
theorem op_catQ {X : Cx} {K : Fg} (hK : X.K = K := by rfl) : OpR X (binaryOp .Add) (rCatQ K) := by
  subst hK
  intro pins s σ H x y v u Q I rx ry h
  obtain ⟨a, b, xs, ys, rfl, rfl, hx, hy, hz, q⟩ := h
  cases rx
  cases ry
  obtain ⟨its, r, pl, _⟩ := I.list hx
  obtain ⟨its2, r2, pl2, _⟩ := I.list hy
  obtain ⟨⟨cls, dd, data, sl⟩, ho, hc, n, hd⟩ := pl.isList
  obtain ⟨⟨cls2, dd2, data2, sl2⟩, ho2, hc2, n2, hd2⟩ := pl2.isList
  simp only at hc hd hc2 hd2
  subst hc hd hc2 hd2
  refine PySem.concat_meets ⟨_, ho, rfl⟩ ⟨_, ho2, rfl⟩ noFill_list_add seq_list_add PySem.F.slot_list_add PySem.F.entry_list_add (PySem.F.args_list_add_2 _ _) (PyProof.Rows.list_addW a b its.toArray its2.toArray n n2 dd dd2 sl sl2 (by rw [List.size_toArray, List.size_toArray, ← r.length, ← r2.length]; exact hz)) ⟨ho, ho2, ?_⟩
  have ea : its.toArray ++ its2.toArray = (its ++ its2).toArray := by simp
  rw [ea]
  exact ⟨.ref _, _, I.lnew (t' := s.toks) (r.append r2) (by rw [List.length_append]; exact hz), rfl, q _ I.fresh⟩
def catM {α : Type} (xs ys : List α) : M (List α) := chk (xs.length + ys.length ≤ SZ) >>= fun _ => pure (xs ++ ys)
section
variable {X : Cx} {K : Fg} {mg : Str → Option Value} {b : Bs} {L L' : List En} {E : XK} {e e1 e2 : Expr} {st : Stmt} {rest body a bb : List Stmt} {α β γ S R : Type} {pos p' p2 p3 : Pos} {tl : Ends → Prop} {post : α → Ends → Prop}
theorem ro_catL [Py α] : RO K E (rCatQ K) (fun xs ys : List α => catM xs ys) := by
  rintro xs ys v w Hi H Q s ⟨p, vs, rfl, h1, h2⟩ ⟨q, ws, rfl, g1, g2⟩ h
  obtain ⟨c, h⟩ := PX.chk h
  refine ⟨p, q, vs, ws, rfl, rfl, Same.seq s h1, Same.seq s g1, by rw [← h2.length, ← g2.length]; exact c, fun r hr => h.go (Nx.new s hr) _ ⟨r, _, rfl, .of upd_same, ?_⟩⟩
  exact (h2.app g2).mono (same_new (hi_none s hr))
theorem jf_cat [Py α] {m1 m2 : M (List α)} (h1 : JE X K b L E e1 m1) (h2 : JE X K b L E e2 m2) (hK : X.K = K := by rfl) : JF X K b L E (.BinOp e1 .Add e2 pos) (ctL K) (m1 >>= fun x => m2 >>= fun y => catM x y) :=
  ⟨fun σ Hi H en Q hq => PE.wp (pe_op (op_catQ hK) pe_wp pe_wp) (h1.go σ Hi H en _ (PX.bind hq |>.imp fun xs Hi1 H1 n1 k v rv => h2.go σ Hi1 H1 (en.nx n1) _ (PX.bind k |>.imp fun ys Hi2 H2 n2 k2 w rw => by
    obtain ⟨p, vs, rfl, h1, h2⟩ := Py.mono n2.im rv
    obtain ⟨q, ws, rfl, g1, g2⟩ := rw
    obtain ⟨c, k2⟩ := PX.chk k2
    refine ⟨p, q, vs, ws, rfl, rfl, Same.seq n2.sub h1, Same.seq n2.sub g1, by rw [← h2.length, ← g2.length]; exact c, fun r hr => ?_⟩
    have nr : H r = none := by
      cases z : H r with
      | none => rfl
      | some u => rw [(n1.al.trans n2.al) r u z] at hr; cases hr
    exact (PX.go (a := xs ++ ys) k2 (Nx.temp n2.sub hr)) r _ upd_same nr (hi_none n2.sub hr) ⟨_, rfl, h2.app g2⟩)))⟩
/-- tuple(list) -/
theorem ra_tupL [Py α] (hK : X.K = K := by rfl) : RA1 K E (fun xs H Q => ∃ p ys, xs = [.ref p] ∧ ((SqL X.K H p ys ∧ ∀ l, H l = none → Q (.ref l) (upd H l (.tup ys))) ∨ (SqT X.K H p ys ∧ Q (.ref p) H))) (fun xs : List α => (pure xs : M (Tup α))) := by
  subst hK
  rintro xs v Hi H Q s ⟨p, vs, rfl, h1, h2⟩ h
  exact ⟨p, vs, rfl, .inl ⟨Same.seq s h1, fun r hr => PX.go (α := Tup α) (a := xs) h (Nx.new s hr) _ ⟨r, _, rfl, .of upd_same, h2.mono (same_new (hi_none s hr))⟩⟩⟩
/-- list(xs), a value -/
theorem ra_lstL [Py α] (hK : X.K = K := by rfl) : RA1 K E (fun xs H Q => ∃ p ys, xs = [.ref p] ∧ (SqL X.K H p ys ∨ SqT X.K H p ys) ∧ ∀ l, H l = none → Q (.ref l) (upd H l (.lst ys))) (fun xs : List α => (pure xs : M (List α))) := by
  subst hK
  rintro xs v Hi H Q s ⟨p, vs, rfl, h1, h2⟩ h
  exact ⟨p, vs, rfl, .inl (Same.seq s h1), fun r hr => PX.go (a := xs) h (Nx.new s hr) _ ⟨r, _, rfl, .of upd_same, h2.mono (same_new (hi_none s hr))⟩⟩
theorem ra_lstU [Py α] (hK : X.K = K := by rfl) : RA1 K E (fun xs H Q => ∃ p ys, xs = [.ref p] ∧ (SqL X.K H p ys ∨ SqT X.K H p ys) ∧ ∀ l, H l = none → Q (.ref l) (upd H l (.lst ys))) (fun xs : Tup α => (pure xs : M (List α))) := by
  subst hK
  rintro xs v Hi H Q s ⟨p, vs, rfl, h1, h2⟩ h
  exact ⟨p, vs, rfl, .inr (sqt_mono s h1), fun r hr => PX.go (α := List α) (a := xs) h (Nx.new s hr) _ ⟨r, _, rfl, .of upd_same, h2.mono (same_new (hi_none s hr))⟩⟩
theorem ra_lenP [Py α] [Py β] : RA1 K E (fun xs H Q => ∃ p ys, xs = [.ref p] ∧ (SqL K H p ys ∨ SqT K H p ys) ∧ Q (.int ys.length) H) (fun _ : α × β => (pure 2 : M Int)) := by
  rintro xs v Hi H Q s ⟨p, v1, v2, rfl, h1, h2⟩ h
  exact ⟨p, _, rfl, .inr (sqt_mono s h1), h.here s _ rfl⟩
theorem ra_lenT3 [Py α] [Py β] [Py γ] : RA1 K E (fun xs H Q => ∃ p ys, xs = [.ref p] ∧ (SqL K H p ys ∨ SqT K H p ys) ∧ Q (.int ys.length) H) (fun _ : T3 α β γ => (pure 3 : M Int)) := by
  rintro xs v Hi H Q s ⟨p, v1, v2, v3, rfl, h1, h2⟩ h
  exact ⟨p, _, rfl, .inr (sqt_mono s h1), h.here s _ rfl⟩
/-- a value, or nothing -/
theorem je_some [Py α] {m : M α} (h : JE X K b L E e m) : JE X K b L E e (m >>= fun x => (pure (some x) : M (Option α))) :=
  ⟨fun σ Hi H en Q hq => h.go σ Hi H en Q ((PX.bind hq).imp fun x Hi1 H1 n1 k v rv => PX.here (a := some x) k n1.sub v rv)⟩
/-- list(xs), held -/
theorem jf_list [Py α] {m : M (List α)} (hm : mg "list" = none) (h : JE X K b L E e m) (hK : X.K = K := by rfl) (hM : X.mg = mg := by rfl)
    (hg : Gl X "list" := by rfl) (he : starEach [e] X.env = (false, eval e X.env) :: starEach [] X.env := by rfl) (hpl : (backTo pos (starEach [] X.env)).any (·.1) = false := by rfl) : JF X K b L E (.Call (.Name "list" p2) [e] [] pos) (ctL K) (m >>= fun xs => (pure xs : M (List α))) := by
  subst hK
  exact ⟨fun σ Hi H en Q hq => PE.wp (pe_callTy call_list_of hg (by rw [hM]; exact hm) bt_list (pa_cons pe_wp pa_nil he) (by decide) (by decide) he hpl) (h.go σ Hi H en _ ((PX.bind hq).imp fun xs Hi1 H1 n1 k v rv => by
    obtain ⟨p, vs, rfl, h1, h2⟩ := rv
    refine ⟨p, vs, rfl, .inl (Same.seq n1.sub h1), fun r hr => ?_⟩
    have nr : H r = none := by
      cases z : H r with
      | none => rfl
      | some u => rw [n1.al r u z] at hr; cases hr
    exact (PX.go (a := xs) k (Nx.temp n1.sub hr)) r _ upd_same nr (hi_none n1.sub hr) ⟨_, rfl, h2⟩))⟩
end
end G

set_option Elab.async false
set_option linter.all false
set_option maxRecDepth 100000
set_option maxHeartbeats 2000000
namespace G
open PySem L2 TL
/-! ### own classes: an instance is a class by its place among cs, and its fields by name; it is not changed once made -/
class PyR (α : Type) where
  prl : Fg → α → List Pr
instance : PyR Unit := ⟨fun _ _ => []⟩
instance instPyRP {α β : Type} [Py α] [PyR β] : PyR (α × β) := ⟨fun K x => rp K x.1 :: PyR.prl K x.2⟩
structure Ins (cs fs : List Str) (α : Type) where
  c : Nat
  f : α
def FvOk (H : Hp) (l : List (Str × Pr)) (kvs : List (Str × V)) : Prop := Paired (fun (q : Str × Pr) (kv : Str × V) => kv.1 = q.1 ∧ q.2.r H kv.2) l kvs
theorem FvOk.mono {H H' : Hp} {l : List (Str × Pr)} {kvs : List (Str × V)} (e : Same H H') (h : FvOk H l kvs) : FvOk H' l kvs := Paired.mapP h fun q _ r => ⟨r.1, q.2.m e r.2⟩
theorem FvOk.at {H : Hp} : ∀ {l : List (Str × Pr)} {kvs : List (Str × V)} (_ : FvOk H l kvs) {i : Nat} {f : Str} {p : Pr}, l[i]? = some (f, p) → ∃ v, kvs[i]? = some (f, v) ∧ p.r H v
  | _, _, .nil, i, f, p, e => by simp at e
  | _, kv :: _, .cons r _, 0, f, p, e => by
    simp at e; subst e
    exact ⟨kv.2, (congrArg some (Prod.ext r.1 rfl) : some kv = some (f, kv.2)), r.2⟩
  | _, _, .cons _ t, i + 1, f, p, e => by
    obtain ⟨v, h1, h2⟩ := FvOk.at t (i := i) (f := f) (p := p) (by simpa using e)
    exact ⟨v, by simpa using h1, h2⟩
theorem FvOk.keys {H : Hp} : ∀ {l : List (Str × Pr)} {kvs : List (Str × V)} (_ : FvOk H l kvs), kvs.map (·.1) = l.map (·.1)
  | _, _, .nil => rfl
  | _, _, .cons r t => by rw [List.map_cons, List.map_cons, r.1, FvOk.keys t]
theorem FvOk.length {H : Hp} {l : List (Str × Pr)} {kvs : List (Str × V)} (h : FvOk H l kvs) : l.length = kvs.length := Paired.length h
theorem lookup_at : ∀ {kvs : List (Str × V)}, (kvs.map (·.1)).Nodup → ∀ {i : Nat} {f : Str} {v : V}, kvs[i]? = some (f, v) → kvs.lookup f = some v
  | [], _, i, f, v, e => by simp at e
  | (g, x) :: r, hn, 0, f, v, e => by
    simp at e
    obtain ⟨rfl, rfl⟩ := e
    simp [List.lookup]
  | (g, x) :: r, hn, i + 1, f, v, e => by
    have hn' : g ∉ r.map (·.1) ∧ (r.map (·.1)).Nodup := List.nodup_cons.mp hn
    have e' : r[i]? = some (f, v) := by simpa using e
    have hf : f ∈ r.map (·.1) := List.mem_map.mpr ⟨(f, v), List.mem_of_getElem? e', rfl⟩
    have hne : ¬ f = g := fun z => hn'.1 (z ▸ hf)
    have hb : (f == g) = false := beq_eq_false_iff_ne.mpr hne
    simp only [List.lookup, hb]
    exact lookup_at hn'.2 e'
theorem lookup_no : ∀ {kvs : List (Str × V)} {f : Str}, f ∉ kvs.map (·.1) → kvs.lookup f = none
  | [], f, _ => rfl
  | (g, x) :: r, f, h => by
    have h1 : ¬ f = g := fun z => h (by rw [z]; exact List.mem_cons_self ..)
    have hb : (f == g) = false := beq_eq_false_iff_ne.mpr h1
    simp only [List.lookup, hb]
    exact lookup_no fun z => h (List.mem_cons_of_mem _ z)
theorem putF_new : ∀ {kvs : List (Str × V)} {f : Str} {v : V}, f ∉ kvs.map (·.1) → putF f v kvs = kvs ++ [(f, v)]
  | [], f, v, _ => rfl
  | (g, x) :: r, f, v, h => by
    have h1 : ¬ g = f := fun z => h (by rw [← z]; exact List.mem_cons_self ..)
    show (if g = f then _ else (g, x) :: putF f v r) = _
    rw [if_neg h1, putF_new fun z => h (List.mem_cons_of_mem _ z)]
    rfl
instance instPyIns {cs fs : List Str} {α : Type} [PyR α] : Py (Ins cs fs α) := ⟨fun K H x v => ∃ p nm dx kvs, v = .ref p ∧ cs[x.c]? = some nm ∧ H p = some (.ins (He.ga K nm) dx kvs) ∧ FvOk H (fs.zip (PyR.prl K x.f)) kvs,
  fun e ⟨p, nm, dx, kvs, h1, h2, h3, h4⟩ => ⟨p, nm, dx, kvs, h1, h2, e _ _ h3, h4.mono e⟩⟩
/-- an instance under way -/
def ctO (C : Addr) (l : List (Str × Pr)) : Ct := ⟨fun H o => ∃ dx kvs, o = .ins C dx kvs ∧ FvOk H l kvs, fun e ⟨dx, kvs, h1, h2⟩ => ⟨dx, kvs, h1, h2.mono e⟩⟩
/-- what the top has told of the classes -/
structure ClsF (K : Fg) (cs fs : List Str) : Prop where
  cl : ∀ nm ∈ cs, Cls K (He.ga K nm)
  no : ∀ nm ∈ cs, ∀ f ∈ fs, NoAttr K (He.ga K nm) f
structure OkM (P : Program) (w : World) (K : Fg) (mg : Str → Option Value) (base : Heap) (C : Addr) (m : Str) (k : Nat) (sp : Sp) : Prop where
  ex : ∃ f fd ps, Meth K C m f ∧ FnOk P w K mg base (L2.CX P w) k f fd ps sp ∧ Binds K fd ps []
structure OkN (P : Program) (w : World) (K : Fg) (mg : Str → Option Value) (base : Heap) (x : Str) (k : Nat) (sp : Sp) : Prop where
  g : mg x = some (.ref (He.ga K x))
  ex : ∃ f fd ps, Mk K (He.ga K x) f ∧ FnOk P w K mg base (L2.CX P w) k f fd ps sp ∧ Binds K fd ps []
def noMu' (L : List En) : Prop := ∀ (i : Nat) (c : Ct), L[i]? ≠ some (.mu c)
theorem OkM.mono {P : Program} {w : World} {K : Fg} {mg : Str → Option Value} {base : Heap} {C : Addr} {m : Str} {j k : Nat} {sp : Sp} (F : OkM P w K mg base C m j sp) (h : j ≤ k) : OkM P w K mg base C m k sp :=
  let ⟨f, fd, ps, a, b, c⟩ := F.ex
  ⟨f, fd, ps, a, b.mono h, c⟩
theorem noMu_nil : noMu' [] := fun i c h => by simp at h
theorem noMu_im {p : Pr} {L : List En} (h : noMu' L) : noMu' (.im p :: L) := fun i c e => by
  cases i with
  | zero => simp at e
  | succ i => exact h i c (by simpa using e)
theorem noMu_no {L : List En} (h : noMu' L) : noMu' (.no :: L) := fun i c e => by
  cases i with
  | zero => simp at e
  | succ i => exact h i c (by simpa using e)
/-- isinstance of own classes -/
def insB (K : Fg) (x y : Str) (b : Bool) : Bool :=
  decide (PySem.W.findIn K (.ref (He.ga K x)) "__class__" = some (some (.builtin "object.__class__"))) && (decide (PySem.W.specialIn K (.builtin "object.__class__") "__get__" = some (some (.builtin "getset_descriptor.__get__"))) &&
  (decide (PySem.W.takesIn K (.builtin "object.__class__") = some true) && (decide (PySem.W.mroIn K (He.ga K x) (.type "object") = some true) && decide (PySem.W.kitOne K (.ref (He.ga K x)) (.ref (He.ga K y)) = some b))))
structure InsF (K : Fg) (x y : Str) (b : Bool) : Prop where
  ha : PySem.W.findIn K (.ref (He.ga K x)) "__class__" = some (some (.builtin "object.__class__"))
  hn : PySem.W.specialIn K (.builtin "object.__class__") "__get__" = some (some (.builtin "getset_descriptor.__get__"))
  htk : PySem.W.takesIn K (.builtin "object.__class__") = some true
  hm : PySem.W.mroIn K (He.ga K x) (.type "object") = some true
  me : PySem.W.kitOne K (.ref (He.ga K x)) (.ref (He.ga K y)) = some b
theorem insB_ok {K : Fg} {x y : Str} {b : Bool} (h : insB K x y b = true) : InsF K x y b := by
  unfold insB at h
  simp only [Bool.and_eq_true, decide_eq_true_eq] at h
  exact ⟨h.1, h.2.1, h.2.2.1, h.2.2.2.1, h.2.2.2.2⟩
/-! the Hook, widened by facts of one's own -/
def hookX (n : Nat) (fa : List He.Fa) (fn : List He.DefD) (fx : List (Fg → Bool)) : PySem.W.Hook where
  α := He.AlD × Bool
  obs := fun s => (He.obsDG n fa fn s.heap.get?, fx.all fun f => f (He.frG s.heap.get? (He.asD s.heap.get? n)))
  val := fun _ => (He.valD fn, true)
  says := fun _ h => ∃ K : PySem.W.Frag, K.In h ∧ He.SaysD fa fn K ∧ (fx.all fun f => f K) = true
  of := fun _ _ e => ⟨_, He.frG_in, congrArg (fun z : He.AlD × Bool => z.1) e, congrArg (fun z : He.AlD × Bool => z.2) e⟩
  keeps := fun _ _ _ ⟨K, hK, c⟩ k => ⟨K, PySem.W.Frag.In.keeps hK k, c⟩
def obX (n : Nat) (fa : List He.Fa) (fn : List He.DefD) (fx : List (Fg → Bool)) (g : Addr → Option Obj) : He.AlD × Bool := (He.obsDG n fa fn g, fx.all fun f => f (He.frG g (He.asD g n)))
theorem obX_eq {n : Nat} {fa : List He.Fa} {fn : List He.DefD} {fx : List (Fg → Bool)} {g : Addr → Option Obj} {s : Shared} (h : ∀ a, g a = s.heap.get? a) : obX n fa fn fx g = (hookX n fa fn fx).obs s := by
  have e : g = s.heap.get? := funext h
  rw [e] <;> rfl
theorem fx_at {fx : List (Fg → Bool)} {K : Fg} (h : (fx.all fun f => f K) = true) (i : Nat) {f : Fg → Bool} (e : fx[i]? = some f := by rfl) : f K = true := List.all_eq_true.mp h f (List.mem_of_getElem? e)

section
variable {X : Cx} {K : Fg} {mg : Str → Option Value} {b : Bs} {L : List En} {E : XK} {e : Expr} {st : Stmt} {cs fs : List Str} {α β : Type} [PyR α] [Py β] {pos p2 p3 p' : Pos} {f x : Str}
theorem je_fld {m : M (Ins cs fs α)} (i : Nat) {g : α → β} (c : ClsF K cs fs) (h : JE X K b L E e m) (hi : ∀ a, (fs.zip (PyR.prl K a))[i]? = some (f, rp K (g a)) := by intro _; rfl) (hf : f ∈ fs := by decide +kernel) (hn : fs.Nodup := by decide +kernel)
    (hl : ∀ a, (fs.zip (PyR.prl K (α := α) a)).map (·.1) = fs := by intro _; rfl) (hK : X.K = K := by rfl) (hb : attributeBase e f X.env (eval e X.env) = eval e X.env := by rfl) : JE X K b L E (.Attribute e f pos) (m >>= fun x => pure (g x.f)) := by
  subst hK
  refine .of ⟨_, pe_fld pe_wp hb, fun σ Hi H en Q h1 => h.go σ Hi H en _ (h1.bind.imp fun y Hi1 H1 n1 k v rv => ?_)⟩
  obtain ⟨p, nm, dx, kvs, rfl, h2, h3, h4⟩ := rv
  have hnm := List.mem_of_getElem? h2
  obtain ⟨u, g1, g2⟩ := h4.at (hi y.f)
  exact ⟨p, _, dx, kvs, u, rfl, n1.sub _ _ h3, c.cl nm hnm, c.no nm hnm f hf, lookup_at (by rw [h4.keys, hl]; exact hn) g1, k.here n1.sub _ g2⟩
/-! in __init__: the instance at p is under way, nothing else of the caller's is touched -/
def BsI (b : Bs) (p C : Addr) (l : List (Str × Pr)) : Prop := b.own = [] ∧ ∃ dx kvs, b.H p = some (.ins C dx kvs) ∧ FvOk b.Hi l kvs
def prR (p : Addr) : Pr := ⟨fun _ v => v = .ref p, fun _ h => h⟩
abbrev noMu (L : List En) : Prop := noMu' L
structure JN (X : Cx) (K : Fg) (p C : Addr) (L : List En) (l : List (Str × Pr)) (E : XK) (ss : List Stmt) {ρ : Type} (m : M ρ) (fin : ρ → List (Str × Pr)) : Prop where
  go : ∀ σ b, EnvOk b L σ b.Hi b.H → BsI b p C l → b.Hi p = none → ∀ D : Ends, PZ K E ⟨b.Hi, b.H, [p]⟩ m (fun r => ∀ σ' Hi' H' o', Ok ⟨b.Hi, b.H, [p]⟩ Hi' H' → H' p = some o' → Hi' p = none → (ctO C (fin r)).r Hi' o' → D.nx σ' H') → wpB X ss D σ b.H
theorem EnvOk.rebase {σ : L2.St} {b : Bs} {Hi H : Hp} (en : EnvOk b L σ Hi H) (hm : noMu L) {H2 : Hp} (sm : Same Hi H2) : EnvOk ⟨Hi, H2, []⟩ L σ Hi H2 :=
  ⟨⟨sm, Same.refl _, fun _ _ _ h => h, fun _ h => h, fun _ _ h => h⟩, en.len, en.im, fun i c h => absurd h (hm i c), fun i _ c _ _ h => absurd h (hm i c)⟩
theorem okP {b : Bs} {p : Addr} {Hi1 H1 Hi' H' : Hp} {u : HO} (ho : b.own = []) (o : Ok b Hi1 H1) (hp : b.H p ≠ none) (o2 : Ok ⟨Hi1, upd H1 p u, [p]⟩ Hi' H') : Ok ⟨b.Hi, b.H, [p]⟩ Hi' H' where
  sub := o2.sub
  base := o.base.trans o2.base
  fr := fun a w n h => by
    have hn : a ≠ p := fun z => n (List.mem_singleton.mpr z)
    exact o2.fr a w n (by show upd H1 p u a = some w; rw [upd_ne hn]; exact o.fr a w (by rw [ho]; simp) h)
  keep := fun a h => o2.keep a (by
    show upd H1 p u a ≠ none
    by_cases hn : a = p
    · subst hn; rw [upd_same]; exact fun z => nomatch z
    · rw [upd_ne hn]; exact o.keep a h)
  cap := fun a h n => o2.cap a (by
    show upd H1 p u a ≠ none
    by_cases hn : a = p
    · subst hn; rw [upd_same]; exact fun z => nomatch z
    · rw [upd_ne hn]; exact o.keep a h) (o.cap a h n)
theorem jn_nil {p C : Addr} {l : List (Str × Pr)} {ρ : Type} {r : ρ} {fin : ρ → List (Str × Pr)} (e : fin r = l := by rfl) : JN X K p C L l E [] (pure r) fin :=
  ⟨fun σ b en ⟨h1, dx, kvs, h2, h3⟩ hp D hz => PSs.wp pss_nil (show D.nx σ b.H from hz σ b.Hi b.H _ ⟨en.ok.sub, Same.refl _, fun _ _ _ h => h, fun _ h => h, fun _ _ h => h⟩ h2 hp ⟨dx, kvs, rfl, by rw [e]; exact h3⟩)⟩
theorem PZ.pxI {ρ δ : Type} {m : M δ} {b : Bs} {p : Addr} {f : δ → M ρ} {post : ρ → Prop} (ho : b.own = []) (h : PZ K E ⟨b.Hi, b.H, [p]⟩ (m >>= f) post) : PX K E m b.Hi b.H fun a _ _ => PZ K E ⟨b.Hi, b.H, [p]⟩ (f a) post := by
  cases m with
  | ok a => exact fun _ _ _ => h
  | error e =>
    cases e with
    | rs c => exact fun Hi' H' n => h Hi' H' ⟨n.sub, n.im, fun a u _ e => n.al a u e, fun a e => some_ne n.al e, n.cap⟩
    | st => exact h
theorem PZ.base {ρ : Type} {m : M ρ} {b b' : Bs} {post post' : ρ → Prop} (k : ∀ Hi' H', Ok b' Hi' H' → Ok b Hi' H') (i : ∀ a, post a → post' a) (h : PZ K E b m post) : PZ K E b' m post' := by
  cases m with
  | ok a => exact i a h
  | error e =>
    cases e with
    | rs c => exact fun Hi' H' o => h Hi' H' (k _ _ o)
    | st => exact h
theorem jn_fld (ks : List Str) {p : Addr} {m1 : M β} {ρ : Type} {m2 : β → M ρ} {fin : ρ → List (Str × Pr)} {nm : Str} {l : List (Str × Pr)} {pn : Pos} {rest : List Stmt} (c : ClsF K cs fs) (hnm : nm ∈ cs) (h : ∀ b, BsI b p (He.ga K nm) l → JE X K b L E e m1)
    (h2 : ∀ a, JN X K p (He.ga K nm) L (l ++ [(f, rp K a)]) E rest (m2 a) fin) (hm : noMu L) (hL : L[0]? = some (.im (prR p)) := by rfl) (hks : l.map (·.1) = ks := by rfl) (hf : f ∈ fs := by decide +kernel) (hno' : f ∉ ks := by decide +kernel) (hlen' : ks.length < 100 := by decide)
    (hN : X.N[0]? = some x := by rfl) (hv : Vis X.env.scope x := by first | exact Or.inl rfl | exact Or.inr (Or.inl rfl) | exact Or.inr (Or.inr rfl)) (hK : X.K = K := by rfl) (hd : (x == ("__debug__" : Str)) = false := by decide) (hcd : (x == ("__classdict__" : Str)) = false := by decide)
    (hs : swapsWith e (some (.Attribute (.Name x pn) f p')) pos.line X.env = pure false := by rfl) : JN X K p (He.ga K nm) L l E (.Assign [.Attribute (.Name x pn) f p'] e pos :: rest) (m1 >>= fun a => m2 a) fin := by
  subst hK
  have hno : f ∉ l.map (·.1) := by rw [hks]; exact hno'
  have hlen : l.length < 100 := by rw [← List.length_map (f := fun q : Str × Pr => q.1), hks]; exact hlen'
  refine ⟨fun σ b en hb hp D hz => ?_⟩
  obtain ⟨ho, dx, kvs, h3, h4⟩ := id hb
  refine PSs.wp (pss_cons (ps_fld (pe_var hN hv hd hcd) pe_wp hs) pss_wp) ((h b hb).go σ b.Hi b.H en _ ((PZ.pxI ho hz).imp fun a Hi1 H1 n1 q v rv => ?_))
  have en1 := en.nx n1
  obtain ⟨v0, e0, e1⟩ := en.im 0 _ hL
  have e1 : v0 = V.ref p := e1
  subst e1
  have hH1 := n1.al _ _ h3
  have hp1 : Hi1 p = none := n1.cap p (by rw [h3]; exact fun z => nomatch z) hp
  refine ⟨_, e0, p, _, dx, kvs, rfl, hH1, c.cl nm hnm, c.no nm hnm f hf, by rw [← h4.length]; omega, ?_⟩
  have app : ∀ {l : List (Str × Pr)} {kvs : List (Str × V)}, FvOk Hi1 l kvs → FvOk Hi1 (l ++ [(f, rp X.K a)]) (kvs ++ [(f, v)]) := by
    intro l kvs h
    induction h with
    | nil => exact .cons ⟨rfl, rv⟩ .nil
    | cons r _ ih => exact .cons r ih
  have sm : Same Hi1 (upd H1 p (.ins (He.ga X.K nm) dx (putF f v kvs))) := fun a w e => by
    rw [upd_ne (ne_of_none e hp1)]; exact n1.sub a w e
  have hpn : b.H p ≠ none := by rw [h3]; exact fun z => nomatch z
  refine (h2 a).go σ ⟨Hi1, _, []⟩ (en1.rebase hm sm) ⟨rfl, dx, _, upd_same, ?_⟩ hp1 _ (PZ.base (fun Hi' H' o => okP ho en1.ok hpn o) (fun r z σ' Hi' H' o' o g1 g2 g3 => z σ' Hi' H' o' (okP ho en1.ok hpn o) g1 g2 g3) q)
  rw [putF_new (by rw [h4.keys]; exact hno)]
  exact app (h4.mono n1.im)
/-- self.f, in __init__ -/
theorem je_self (ks : List Str) {p : Addr} {nm : Str} {l : List (Str × Pr)} {a : β} {pn : Pos} (i : Nat) (c : ClsF K cs fs) (hnm : nm ∈ cs) (hb : BsI b p (He.ga K nm) l) (hi : l[i]? = some (f, rp K a) := by rfl) (hL : L[0]? = some (.im (prR p)) := by rfl) (hks : l.map (·.1) = ks := by rfl) (hf : f ∈ fs := by decide +kernel) (hn' : ks.Nodup := by decide +kernel)
    (hN : X.N[0]? = some x := by rfl) (hv : Vis X.env.scope x := by first | exact Or.inl rfl | exact Or.inr (Or.inl rfl) | exact Or.inr (Or.inr rfl)) (hK : X.K = K := by rfl) (hd : (x == ("__debug__" : Str)) = false := by decide) (hcd : (x == ("__classdict__" : Str)) = false := by decide)
    (hba : attributeBase (.Name x pn) f X.env (eval (.Name x pn) X.env) = eval (.Name x pn) X.env := by rfl) : JE X K b L E (.Attribute (.Name x pn) f pos) (pure a : M β) := by
  subst hK
  have hn : (l.map (·.1)).Nodup := by rw [hks]; exact hn'
  obtain ⟨ho, dx, kvs, h3, h4⟩ := hb
  refine .of ⟨_, pe_fld (pe_var hN hv hd hcd) hba, fun σ Hi H en Q h => ?_⟩
  obtain ⟨v0, e0, e1⟩ := en.im 0 _ hL
  have e1 : v0 = V.ref p := e1
  subst e1
  obtain ⟨u, g1, g2⟩ := h4.at hi
  exact ⟨_, e0, p, _, dx, kvs, u, rfl, en.ok.fr _ _ (by rw [ho]; simp) h3, c.cl nm hnm, c.no nm hnm f hf, lookup_at (by rw [h4.keys]; exact hn) g1, h.here en.sub u ((rp X.K a).m en.ok.base g2)⟩
theorem jn_st {p C : Addr} {S ρ : Type} {m1 : M S} {Lf : S → List En} {m2 : S → M ρ} {fin : ρ → List (Str × Pr)} {l : List (Str × Pr)} {st : Stmt} {rest : List Stmt} (h : ∀ b, BsI b p C l → J1 X K b L E st m1 Lf) (h2 : ∀ s, JN X K p C (Lf s) l E rest (m2 s) fin) (hm : ∀ s, noMu (Lf s)) :
    JN X K p C L l E (st :: rest) (m1 >>= fun s => m2 s) fin := by
  refine ⟨fun σ b en hb hp D hz => ?_⟩
  obtain ⟨ho, dx, kvs, h3, h4⟩ := id hb
  have hpn : b.H p ≠ none := by rw [h3]; exact fun z => nomatch z
  have lift : ∀ {Hi' H' : Hp}, Ok b Hi' H' → Ok ⟨b.Hi, b.H, [p]⟩ Hi' H' := fun {Hi' H'} o => ⟨o.sub, o.base, fun a u _ e => o.fr a u (by rw [ho]; simp) e, o.keep, o.cap⟩
  refine PSs.wp (pss_cons ps_wp pss_wp) ((h b hb).go σ b.Hi b.H en _ (PZ.base (fun Hi' H' o => lift o) (fun s q σ' Hi' H' en' => ?_) (PZ.bindz hz)))
  have hp1 : Hi' p = none := en'.ok.cap p hpn hp
  have hH : H' p = some (.ins C dx kvs) := en'.ok.fr p _ (by rw [ho]; simp) h3
  have e2 : upd H' p (.ins C dx kvs) = H' := funext fun a => by
    by_cases z : a = p
    · subst z; rw [upd_same]; exact hH.symm
    · rw [upd_ne z]
  have lift2 : ∀ {Hi2 H2 : Hp}, Ok ⟨Hi', H', [p]⟩ Hi2 H2 → Ok ⟨b.Hi, b.H, [p]⟩ Hi2 H2 := fun {Hi2 H2} o => okP (u := .ins C dx kvs) ho en'.ok hpn (by rw [e2]; exact o)
  exact (h2 s).go σ' ⟨Hi', H', []⟩ (en'.rebase (hm s) en'.ok.sub) ⟨rfl, dx, kvs, hH, h4.mono en'.ok.base⟩ hp1 D (PZ.base (fun _ _ o => lift2 o) (fun r z σ2 Hi2 H2 o' o g1 g2 g3 => z σ2 Hi2 H2 o' (lift2 o) g1 g2 g3) q)
theorem je_isiC {m : M (Ins cs fs α)} {y : Str} {bs : List Bool} (c : ClsF K cs fs) (hc : ∀ (j : Nat) (nm : Str), cs[j]? = some nm → InsF K nm y (bs.getD j false)) (hm : mg "isinstance" = none) (hm2 : mg y = some (.ref (He.ga K y))) (h : JE X K b L E e m)
    (hK : X.K = K := by rfl) (hM : X.mg = mg := by rfl) (hg : Gl X "isinstance" := by rfl) (hg2 : Gl X y := by rfl) (hd : (y == ("__debug__" : Str)) = false := by decide)
    (he : starEach [e, .Name y p2] X.env = (false, eval e X.env) :: starEach [.Name y p2] X.env := by rfl) (he2 : starEach [.Name y p2] X.env = (false, eval (.Name y p2) X.env) :: starEach [] X.env := by rfl)
    (hpl : (backTo pos (starEach [.Name y p2] X.env)).any (·.1) = false := by rfl) : JE X K b L E (.Call (.Name "isinstance" p3) [e, .Name y p2] [] pos) (m >>= fun x => (pure (bs.getD x.c false) : M Bool)) := by
  subst hK
  refine .of ⟨_, pe_callB call_isi hg (by rw [hM]; exact hm) bt_isinstance (pa_cons pe_wp (pa_cons (pe_glob (v := .ref (He.ga X.K y)) hg2 (by rw [hM]; exact hm2) rfl hd) pa_nil he2) he) (by decide) (by decide) he hpl, fun σ Hi H en Q hq => h.go σ Hi H en _ (hq.bind.imp fun a Hi1 H1 n1 q v rv => ?_)⟩
  obtain ⟨p, nm, dx, kvs, rfl, h2, h3, h4⟩ := rv
  have i := hc a.c nm h2
  exact ⟨.ref p, .ref (He.ga X.K y), .ref (He.ga X.K nm), .ref (He.ga X.K y), _, rfl, .own _, .base (.ins (n1.sub _ _ h3) (c.cl nm (List.mem_of_getElem? h2)) i.ha i.hn i.htk i.hm), i.me, q.here n1.sub _ rfl⟩
/-- isinstance of a value that is none of the own class -/
theorem rm_isupper : RM0 K E (fun x xs H Q => ∃ a, x = .str a ∧ xs = [] ∧ True ∧ Q (.bl (Txt.isupper a)) H) (fun x : Tx => (pure (Txt.isupper (S x)) : M Bool)) := by
  rintro x v Hi H Q s rfl h
  exact ⟨S x, rfl, rfl, trivial, h.here s _ rfl⟩
end
theorem nxI {Hi H0 H Hi' H' : Hp} {p : Addr} (hp0 : H0 p = none) (al : Same H0 H) (hp : H p ≠ none) (sm : Same Hi H0) (o : Ok ⟨Hi, H, [p]⟩ Hi' H') : Nx Hi H0 Hi' H' where
  im := o.base
  al := fun a u h => o.fr a u (by
    intro z
    rw [List.mem_singleton.mp z] at h
    rw [hp0] at h; cases h) (al a u h)
  sub := o.sub
  cap := fun a h n => o.cap a (some_ne al h) n
theorem nxI2 {Hi H0 H Hi' H' : Hp} {p : Addr} {u : HO} (hp0 : H0 p = none) (al : Same H0 H) (hp : H p ≠ none) (sm : Same Hi H0) (o : Ok ⟨Hi, H, [p]⟩ Hi' H') (h : H' p = some u) : Nx Hi H0 (upd Hi' p u) H' := by
  have n := nxI hp0 al hp sm o
  have hpi : Hi p = none := hi_none sm hp0
  have hpi' : Hi' p = none := o.cap p hp hpi
  refine ⟨fun a w e => ?_, n.al, fun a w e => ?_, fun a e z => ?_⟩
  · rw [upd_ne (ne_of_none e hpi)]; exact n.im a w e
  · by_cases hd : a = p
    · subst hd; rw [upd_same] at e; cases e; exact h
    · rw [upd_ne hd] at e; exact n.sub a w e
  · have hd : a ≠ p := fun y => e (by rw [y]; exact hp0)
    rw [upd_ne hd]; exact n.cap a e z
theorem mkM1 {α0 ρ : Type} [Py α0] [Py ρ] {P : Program} {w : World} {K : Fg} {mg : Str → Option Value} {base : Heap} {x q : Str} {fa : Addr} {N : List Str} {p0 : Str} {args : Arguments} {body : List Stmt} {sc : Scope} {k : Nat} {f : α0 → M ρ} {fd : FuncData} (F : FunD K x q args body sc [] [] fa fd) (S : FnScope N [p0] sc)
    (h : ∀ (cdv : Value) (A : Around) (outer : List Env) (s : Shared) (H : Hp) (E : XK), Room k (cxOf (L2.CX P w) P w K mg base N q sc fa cdv A outer s H E).A → ∀ (a0 : α0) (b : Bs), b.own = [] → JS (cxOf (L2.CX P w) P w K mg base N q sc fa cdv A outer s H E) K b ([.im (rp K a0)] ++ List.replicate (N.length - 1) .no) E body tlFn (f a0) (pRt K b)) : FnOk P w K mg base (L2.CX P w) (k + 1) fa fd [p0] (sp1 K f) := by
  refine F.ok S (fun vs H Q E hh => ?_) (fun cdv A outer s H vs Q E hr hh => ?_)
  · obtain ⟨a0, v0, Hi, rfl, _⟩ := hh
    rfl
  · obtain ⟨a0, v0, Hi, rfl, sm, r0, q⟩ := hh
    refine ⟨_, pss_wp, (h cdv A outer s H E hr a0 ⟨Hi, H, []⟩ rfl).go _ Hi H ?_ _ (fun σ' H' z => z) ?_⟩
    · exact EnvOk.start (ps := [rp K a0]) sm rfl (Paired.cons r0 Paired.nil)
    · exact PZ.of_fn q
theorem mkM2 {α0 α1 ρ : Type} [Py α0] [Py α1] [Py ρ] {P : Program} {w : World} {K : Fg} {mg : Str → Option Value} {base : Heap} {x q : Str} {fa : Addr} {N : List Str} {p0 p1 : Str} {args : Arguments} {body : List Stmt} {sc : Scope} {k : Nat} {f : α0 → α1 → M ρ} {fd : FuncData} (F : FunD K x q args body sc [] [] fa fd) (S : FnScope N [p0, p1] sc)
    (h : ∀ (cdv : Value) (A : Around) (outer : List Env) (s : Shared) (H : Hp) (E : XK), Room k (cxOf (L2.CX P w) P w K mg base N q sc fa cdv A outer s H E).A → ∀ (a0 : α0) (a1 : α1) (b : Bs), b.own = [] → JS (cxOf (L2.CX P w) P w K mg base N q sc fa cdv A outer s H E) K b ([.im (rp K a0), .im (rp K a1)] ++ List.replicate (N.length - 2) .no) E body tlFn (f a0 a1) (pRt K b)) : FnOk P w K mg base (L2.CX P w) (k + 1) fa fd [p0, p1] (sp2 K f) := by
  refine F.ok S (fun vs H Q E hh => ?_) (fun cdv A outer s H vs Q E hr hh => ?_)
  · obtain ⟨a0, a1, v0, v1, Hi, rfl, _⟩ := hh
    rfl
  · obtain ⟨a0, a1, v0, v1, Hi, rfl, sm, r0, r1, q⟩ := hh
    refine ⟨_, pss_wp, (h cdv A outer s H E hr a0 a1 ⟨Hi, H, []⟩ rfl).go _ Hi H ?_ _ (fun σ' H' z => z) ?_⟩
    · exact EnvOk.start (ps := [rp K a0, rp K a1]) sm rfl (Paired.cons r0 (Paired.cons r1 Paired.nil))
    · exact PZ.of_fn q
theorem mkM3 {α0 α1 α2 ρ : Type} [Py α0] [Py α1] [Py α2] [Py ρ] {P : Program} {w : World} {K : Fg} {mg : Str → Option Value} {base : Heap} {x q : Str} {fa : Addr} {N : List Str} {p0 p1 p2 : Str} {args : Arguments} {body : List Stmt} {sc : Scope} {k : Nat} {f : α0 → α1 → α2 → M ρ} {fd : FuncData} (F : FunD K x q args body sc [] [] fa fd) (S : FnScope N [p0, p1, p2] sc)
    (h : ∀ (cdv : Value) (A : Around) (outer : List Env) (s : Shared) (H : Hp) (E : XK), Room k (cxOf (L2.CX P w) P w K mg base N q sc fa cdv A outer s H E).A → ∀ (a0 : α0) (a1 : α1) (a2 : α2) (b : Bs), b.own = [] → JS (cxOf (L2.CX P w) P w K mg base N q sc fa cdv A outer s H E) K b ([.im (rp K a0), .im (rp K a1), .im (rp K a2)] ++ List.replicate (N.length - 3) .no) E body tlFn (f a0 a1 a2) (pRt K b)) : FnOk P w K mg base (L2.CX P w) (k + 1) fa fd [p0, p1, p2] (sp3 K f) := by
  refine F.ok S (fun vs H Q E hh => ?_) (fun cdv A outer s H vs Q E hr hh => ?_)
  · obtain ⟨a0, a1, a2, v0, v1, v2, Hi, rfl, _⟩ := hh
    rfl
  · obtain ⟨a0, a1, a2, v0, v1, v2, Hi, rfl, sm, r0, r1, r2, q⟩ := hh
    refine ⟨_, pss_wp, (h cdv A outer s H E hr a0 a1 a2 ⟨Hi, H, []⟩ rfl).go _ Hi H ?_ _ (fun σ' H' z => z) ?_⟩
    · exact EnvOk.start (ps := [rp K a0, rp K a1, rp K a2]) sm rfl (Paired.cons r0 (Paired.cons r1 (Paired.cons r2 Paired.nil)))
    · exact PZ.of_fn q
theorem mkM4 {α0 α1 α2 α3 ρ : Type} [Py α0] [Py α1] [Py α2] [Py α3] [Py ρ] {P : Program} {w : World} {K : Fg} {mg : Str → Option Value} {base : Heap} {x q : Str} {fa : Addr} {N : List Str} {p0 p1 p2 p3 : Str} {args : Arguments} {body : List Stmt} {sc : Scope} {k : Nat} {f : α0 → α1 → α2 → α3 → M ρ} {fd : FuncData} (F : FunD K x q args body sc [] [] fa fd) (S : FnScope N [p0, p1, p2, p3] sc)
    (h : ∀ (cdv : Value) (A : Around) (outer : List Env) (s : Shared) (H : Hp) (E : XK), Room k (cxOf (L2.CX P w) P w K mg base N q sc fa cdv A outer s H E).A → ∀ (a0 : α0) (a1 : α1) (a2 : α2) (a3 : α3) (b : Bs), b.own = [] → JS (cxOf (L2.CX P w) P w K mg base N q sc fa cdv A outer s H E) K b ([.im (rp K a0), .im (rp K a1), .im (rp K a2), .im (rp K a3)] ++ List.replicate (N.length - 4) .no) E body tlFn (f a0 a1 a2 a3) (pRt K b)) : FnOk P w K mg base (L2.CX P w) (k + 1) fa fd [p0, p1, p2, p3] (sp4 K f) := by
  refine F.ok S (fun vs H Q E hh => ?_) (fun cdv A outer s H vs Q E hr hh => ?_)
  · obtain ⟨a0, a1, a2, a3, v0, v1, v2, v3, Hi, rfl, _⟩ := hh
    rfl
  · obtain ⟨a0, a1, a2, a3, v0, v1, v2, v3, Hi, rfl, sm, r0, r1, r2, r3, q⟩ := hh
    refine ⟨_, pss_wp, (h cdv A outer s H E hr a0 a1 a2 a3 ⟨Hi, H, []⟩ rfl).go _ Hi H ?_ _ (fun σ' H' z => z) ?_⟩
    · exact EnvOk.start (ps := [rp K a0, rp K a1, rp K a2, rp K a3]) sm rfl (Paired.cons r0 (Paired.cons r1 (Paired.cons r2 (Paired.cons r3 Paired.nil))))
    · exact PZ.of_fn q
theorem mkM5 {α0 α1 α2 α3 α4 ρ : Type} [Py α0] [Py α1] [Py α2] [Py α3] [Py α4] [Py ρ] {P : Program} {w : World} {K : Fg} {mg : Str → Option Value} {base : Heap} {x q : Str} {fa : Addr} {N : List Str} {p0 p1 p2 p3 p4 : Str} {args : Arguments} {body : List Stmt} {sc : Scope} {k : Nat} {f : α0 → α1 → α2 → α3 → α4 → M ρ} {fd : FuncData} (F : FunD K x q args body sc [] [] fa fd) (S : FnScope N [p0, p1, p2, p3, p4] sc)
    (h : ∀ (cdv : Value) (A : Around) (outer : List Env) (s : Shared) (H : Hp) (E : XK), Room k (cxOf (L2.CX P w) P w K mg base N q sc fa cdv A outer s H E).A → ∀ (a0 : α0) (a1 : α1) (a2 : α2) (a3 : α3) (a4 : α4) (b : Bs), b.own = [] → JS (cxOf (L2.CX P w) P w K mg base N q sc fa cdv A outer s H E) K b ([.im (rp K a0), .im (rp K a1), .im (rp K a2), .im (rp K a3), .im (rp K a4)] ++ List.replicate (N.length - 5) .no) E body tlFn (f a0 a1 a2 a3 a4) (pRt K b)) : FnOk P w K mg base (L2.CX P w) (k + 1) fa fd [p0, p1, p2, p3, p4] (sp5 K f) := by
  refine F.ok S (fun vs H Q E hh => ?_) (fun cdv A outer s H vs Q E hr hh => ?_)
  · obtain ⟨a0, a1, a2, a3, a4, v0, v1, v2, v3, v4, Hi, rfl, _⟩ := hh
    rfl
  · obtain ⟨a0, a1, a2, a3, a4, v0, v1, v2, v3, v4, Hi, rfl, sm, r0, r1, r2, r3, r4, q⟩ := hh
    refine ⟨_, pss_wp, (h cdv A outer s H E hr a0 a1 a2 a3 a4 ⟨Hi, H, []⟩ rfl).go _ Hi H ?_ _ (fun σ' H' z => z) ?_⟩
    · exact EnvOk.start (ps := [rp K a0, rp K a1, rp K a2, rp K a3, rp K a4]) sm rfl (Paired.cons r0 (Paired.cons r1 (Paired.cons r2 (Paired.cons r3 (Paired.cons r4 Paired.nil)))))
    · exact PZ.of_fn q
theorem mkM6 {α0 α1 α2 α3 α4 α5 ρ : Type} [Py α0] [Py α1] [Py α2] [Py α3] [Py α4] [Py α5] [Py ρ] {P : Program} {w : World} {K : Fg} {mg : Str → Option Value} {base : Heap} {x q : Str} {fa : Addr} {N : List Str} {p0 p1 p2 p3 p4 p5 : Str} {args : Arguments} {body : List Stmt} {sc : Scope} {k : Nat} {f : α0 → α1 → α2 → α3 → α4 → α5 → M ρ} {fd : FuncData} (F : FunD K x q args body sc [] [] fa fd) (S : FnScope N [p0, p1, p2, p3, p4, p5] sc)
    (h : ∀ (cdv : Value) (A : Around) (outer : List Env) (s : Shared) (H : Hp) (E : XK), Room k (cxOf (L2.CX P w) P w K mg base N q sc fa cdv A outer s H E).A → ∀ (a0 : α0) (a1 : α1) (a2 : α2) (a3 : α3) (a4 : α4) (a5 : α5) (b : Bs), b.own = [] → JS (cxOf (L2.CX P w) P w K mg base N q sc fa cdv A outer s H E) K b ([.im (rp K a0), .im (rp K a1), .im (rp K a2), .im (rp K a3), .im (rp K a4), .im (rp K a5)] ++ List.replicate (N.length - 6) .no) E body tlFn (f a0 a1 a2 a3 a4 a5) (pRt K b)) : FnOk P w K mg base (L2.CX P w) (k + 1) fa fd [p0, p1, p2, p3, p4, p5] (sp6 K f) := by
  refine F.ok S (fun vs H Q E hh => ?_) (fun cdv A outer s H vs Q E hr hh => ?_)
  · obtain ⟨a0, a1, a2, a3, a4, a5, v0, v1, v2, v3, v4, v5, Hi, rfl, _⟩ := hh
    rfl
  · obtain ⟨a0, a1, a2, a3, a4, a5, v0, v1, v2, v3, v4, v5, Hi, rfl, sm, r0, r1, r2, r3, r4, r5, q⟩ := hh
    refine ⟨_, pss_wp, (h cdv A outer s H E hr a0 a1 a2 a3 a4 a5 ⟨Hi, H, []⟩ rfl).go _ Hi H ?_ _ (fun σ' H' z => z) ?_⟩
    · exact EnvOk.start (ps := [rp K a0, rp K a1, rp K a2, rp K a3, rp K a4, rp K a5]) sm rfl (Paired.cons r0 (Paired.cons r1 (Paired.cons r2 (Paired.cons r3 (Paired.cons r4 (Paired.cons r5 Paired.nil))))))
    · exact PZ.of_fn q
theorem je_meth0 { ρ α : Type}  [Py ρ] [PyR α] {X : Cx} {K : Fg} {b : Bs} {L : List En} {E : XK} {o  : Expr} {cs fs : List Str} {mo : M (Ins cs fs α)}  {f : Ins cs fs α → M ρ} {m nm0 : Str} {apos pos : Pos} {pl : Sem Bool} {k : Nat} (c : ClsF K cs fs) (hz : cs[0]? = some nm0) (F : ∀ (j : Nat) (nm : Str), cs[j]? = some nm → ∃ g : Ins cs fs α → M ρ, OkM X.prog X.w X.K X.mg X.base (He.ga K nm) m k (sp1 K g) ∧ ∀ x : Ins cs fs α, x.c = j → f x = g x ) (hr : Room k X.A) (hx : Passes (L2.CX X.prog X.w) X E) (ho : JE X K b L E o mo)  (hK : X.K = K := by rfl) (hno : m ∉ fs := by decide +kernel) (hl : ∀ a, (fs.zip (PyR.prl K (α := α) a)).map (·.1) = fs := by intro _; rfl)   (ht : eval (.Call (.Attribute o m apos) [] [] pos) X.env = (do
      let ov ← eval o X.env
      standAt apos.atName
      let (f, first) ← holding [ov] (getMethod ov m pl)
      callWith pos f first (backTo pos (starEach [] X.env)) (backToKw pos (keywordEach [] X.env))) := by rfl) : JE X K b L E (.Call (.Attribute o m apos) [] [] pos) (mo >>= fun x => f x) := by
  subst hK
  refine ⟨fun σ Hi H en Q hq => ?_⟩
  cases hm : mo with
  | error z =>
    obtain ⟨g, ⟨fa, fd, ps, F1, F2, F3⟩, F4⟩ := F 0 nm0 hz
    refine PE.wp (pe_meth0 (m := m) (pl := pl) pe_wp (c.cl nm0 (List.mem_of_getElem? hz)) F1 F2 hr F3 .nil hx ht) (ho.go σ Hi H en _ ?_)
    rw [hm] at hq ⊢
    cases z with
    | rs c => exact hq
    | st => exact hq.elim
  | ok x =>
    rw [hm] at hq
    cases hj : cs[x.c]? with
    | none =>
      obtain ⟨g, ⟨fa, fd, ps, F1, F2, F3⟩, F4⟩ := F 0 nm0 hz
      refine PE.wp (pe_meth0 (m := m) (pl := pl) pe_wp (c.cl nm0 (List.mem_of_getElem? hz)) F1 F2 hr F3 .nil hx ht) (ho.go σ Hi H en _ ?_)
      rw [hm]
      intro Hi0 H0 n0 v' r'
      obtain ⟨p, nm', dx, kvs, rfl, g2, g3, g4⟩ := r'
      rw [hj] at g2; cases g2
    | some nm =>
      obtain ⟨g, ⟨fa, fd, ps, F1, F2, F3⟩, F4⟩ := F x.c nm hj
      refine PE.wp (pe_meth0 (m := m) (pl := pl) pe_wp (c.cl nm (List.mem_of_getElem? hj)) F1 F2 hr F3 .nil hx ht) (ho.go σ Hi H en _ ?_)
      rw [hm]
      intro Hi0 H0 n0 v' r'
      have k0 := PX.nx n0 (show PX X.K E (f x) Hi H _ from hq)
      obtain ⟨p, nm', dx, kvs, rfl, g2, g3, g4⟩ := id r'
      have en0 := en.nx n0
      have e1 : nm' = nm := by rw [hj] at g2; exact (Option.some.inj g2).symm
      subst e1
      refine ⟨p, dx, kvs, rfl, n0.sub _ _ g3, lookup_no (by rw [g4.keys, hl]; exact hno), ?_⟩
      have kk := k0
      rw [F4 x rfl ] at kk
      exact ⟨x, .ref p, _, rfl, n0.sub, r', kk⟩
theorem je_meth1 {α0 ρ α : Type} [Py α0] [Py ρ] [PyR α] {X : Cx} {K : Fg} {b : Bs} {L : List En} {E : XK} {o e0 : Expr} {cs fs : List Str} {mo : M (Ins cs fs α)} {m0 : M α0} {f : Ins cs fs α → α0 → M ρ} {m nm0 : Str} {apos pos : Pos} {pl : Sem Bool} {k : Nat} (c : ClsF K cs fs) (hz : cs[0]? = some nm0) (F : ∀ (j : Nat) (nm : Str), cs[j]? = some nm → ∃ g : Ins cs fs α → α0 → M ρ, OkM X.prog X.w X.K X.mg X.base (He.ga K nm) m k (sp2 K g) ∧ ∀ x : Ins cs fs α, x.c = j → ∀ (a0 : α0), f x a0 = g x a0) (hr : Room k X.A) (hx : Passes (L2.CX X.prog X.w) X E) (ho : JE X K b L E o mo) (h0 : JE X K b L E e0 m0) (hK : X.K = K := by rfl) (hno : m ∉ fs := by decide +kernel) (hl : ∀ a, (fs.zip (PyR.prl K (α := α) a)).map (·.1) = fs := by intro _; rfl) (s0 : starEach [e0] X.env = (false, eval e0 X.env) :: starEach [] X.env := by rfl) (hpl : (backTo pos (starEach [] X.env)).any (·.1) = false := by rfl) (ht : eval (.Call (.Attribute o m apos) [e0] [] pos) X.env = (do
      let ov ← eval o X.env
      standAt apos.atName
      let (f, first) ← holding [ov] (getMethod ov m pl)
      callWith pos f first (backTo pos (starEach [e0] X.env)) (backToKw pos (keywordEach [] X.env))) := by rfl) : JE X K b L E (.Call (.Attribute o m apos) [e0] [] pos) (mo >>= fun x => m0 >>= fun a0 => f x a0) := by
  subst hK
  refine ⟨fun σ Hi H en Q hq => ?_⟩
  cases hm : mo with
  | error z =>
    obtain ⟨g, ⟨fa, fd, ps, F1, F2, F3⟩, F4⟩ := F 0 nm0 hz
    refine PE.wp (pe_meth (m := m) (pl := pl) pe_wp (c.cl nm0 (List.mem_of_getElem? hz)) F1 F2 hr F3 .nil hx (pa_cons pe_wp pa_nil s0) s0 hpl ht) (ho.go σ Hi H en _ ?_)
    rw [hm] at hq ⊢
    cases z with
    | rs c => exact hq
    | st => exact hq.elim
  | ok x =>
    rw [hm] at hq
    cases hj : cs[x.c]? with
    | none =>
      obtain ⟨g, ⟨fa, fd, ps, F1, F2, F3⟩, F4⟩ := F 0 nm0 hz
      refine PE.wp (pe_meth (m := m) (pl := pl) pe_wp (c.cl nm0 (List.mem_of_getElem? hz)) F1 F2 hr F3 .nil hx (pa_cons pe_wp pa_nil s0) s0 hpl ht) (ho.go σ Hi H en _ ?_)
      rw [hm]
      intro Hi0 H0 n0 v' r'
      obtain ⟨p, nm', dx, kvs, rfl, g2, g3, g4⟩ := r'
      rw [hj] at g2; cases g2
    | some nm =>
      obtain ⟨g, ⟨fa, fd, ps, F1, F2, F3⟩, F4⟩ := F x.c nm hj
      refine PE.wp (pe_meth (m := m) (pl := pl) pe_wp (c.cl nm (List.mem_of_getElem? hj)) F1 F2 hr F3 .nil hx (pa_cons pe_wp pa_nil s0) s0 hpl ht) (ho.go σ Hi H en _ ?_)
      rw [hm]
      intro Hi0 H0 n0 v' r'
      have k0 := PX.nx n0 (show PX X.K E (m0 >>= fun a0 => f x a0) Hi H _ from hq)
      obtain ⟨p, nm', dx, kvs, rfl, g2, g3, g4⟩ := id r'
      have en0 := en.nx n0
      have e1 : nm' = nm := by rw [hj] at g2; exact (Option.some.inj g2).symm
      subst e1
      refine ⟨p, dx, kvs, rfl, n0.sub _ _ g3, lookup_no (by rw [g4.keys, hl]; exact hno), ?_⟩
      refine h0.go σ Hi0 H0 en0 _ (PX.imp (PX.bind k0) fun a0 Hi1 H1 n1 k1 v0 r0 => ?_)
      have kk := k1
      rw [F4 x rfl a0] at kk
      exact ⟨x, a0, .ref p, v0, _, rfl, n1.sub, (Py.mono n1.im r'), r0, kk⟩
theorem je_meth2 {α0 α1 ρ α : Type} [Py α0] [Py α1] [Py ρ] [PyR α] {X : Cx} {K : Fg} {b : Bs} {L : List En} {E : XK} {o e0 e1 : Expr} {cs fs : List Str} {mo : M (Ins cs fs α)} {m0 : M α0} {m1 : M α1} {f : Ins cs fs α → α0 → α1 → M ρ} {m nm0 : Str} {apos pos : Pos} {pl : Sem Bool} {k : Nat} (c : ClsF K cs fs) (hz : cs[0]? = some nm0) (F : ∀ (j : Nat) (nm : Str), cs[j]? = some nm → ∃ g : Ins cs fs α → α0 → α1 → M ρ, OkM X.prog X.w X.K X.mg X.base (He.ga K nm) m k (sp3 K g) ∧ ∀ x : Ins cs fs α, x.c = j → ∀ (a0 : α0) (a1 : α1), f x a0 a1 = g x a0 a1) (hr : Room k X.A) (hx : Passes (L2.CX X.prog X.w) X E) (ho : JE X K b L E o mo) (h0 : JE X K b L E e0 m0) (h1 : JE X K b L E e1 m1) (hK : X.K = K := by rfl) (hno : m ∉ fs := by decide +kernel) (hl : ∀ a, (fs.zip (PyR.prl K (α := α) a)).map (·.1) = fs := by intro _; rfl) (s0 : starEach [e0, e1] X.env = (false, eval e0 X.env) :: starEach [e1] X.env := by rfl) (s1 : starEach [e1] X.env = (false, eval e1 X.env) :: starEach [] X.env := by rfl) (hpl : (backTo pos (starEach [e1] X.env)).any (·.1) = false := by rfl) (ht : eval (.Call (.Attribute o m apos) [e0, e1] [] pos) X.env = (do
      let ov ← eval o X.env
      standAt apos.atName
      let (f, first) ← holding [ov] (getMethod ov m pl)
      callWith pos f first (backTo pos (starEach [e0, e1] X.env)) (backToKw pos (keywordEach [] X.env))) := by rfl) : JE X K b L E (.Call (.Attribute o m apos) [e0, e1] [] pos) (mo >>= fun x => m0 >>= fun a0 => m1 >>= fun a1 => f x a0 a1) := by
  subst hK
  refine ⟨fun σ Hi H en Q hq => ?_⟩
  cases hm : mo with
  | error z =>
    obtain ⟨g, ⟨fa, fd, ps, F1, F2, F3⟩, F4⟩ := F 0 nm0 hz
    refine PE.wp (pe_meth (m := m) (pl := pl) pe_wp (c.cl nm0 (List.mem_of_getElem? hz)) F1 F2 hr F3 .nil hx (pa_cons pe_wp (pa_cons pe_wp pa_nil s1) s0) s0 hpl ht) (ho.go σ Hi H en _ ?_)
    rw [hm] at hq ⊢
    cases z with
    | rs c => exact hq
    | st => exact hq.elim
  | ok x =>
    rw [hm] at hq
    cases hj : cs[x.c]? with
    | none =>
      obtain ⟨g, ⟨fa, fd, ps, F1, F2, F3⟩, F4⟩ := F 0 nm0 hz
      refine PE.wp (pe_meth (m := m) (pl := pl) pe_wp (c.cl nm0 (List.mem_of_getElem? hz)) F1 F2 hr F3 .nil hx (pa_cons pe_wp (pa_cons pe_wp pa_nil s1) s0) s0 hpl ht) (ho.go σ Hi H en _ ?_)
      rw [hm]
      intro Hi0 H0 n0 v' r'
      obtain ⟨p, nm', dx, kvs, rfl, g2, g3, g4⟩ := r'
      rw [hj] at g2; cases g2
    | some nm =>
      obtain ⟨g, ⟨fa, fd, ps, F1, F2, F3⟩, F4⟩ := F x.c nm hj
      refine PE.wp (pe_meth (m := m) (pl := pl) pe_wp (c.cl nm (List.mem_of_getElem? hj)) F1 F2 hr F3 .nil hx (pa_cons pe_wp (pa_cons pe_wp pa_nil s1) s0) s0 hpl ht) (ho.go σ Hi H en _ ?_)
      rw [hm]
      intro Hi0 H0 n0 v' r'
      have k0 := PX.nx n0 (show PX X.K E (m0 >>= fun a0 => m1 >>= fun a1 => f x a0 a1) Hi H _ from hq)
      obtain ⟨p, nm', dx, kvs, rfl, g2, g3, g4⟩ := id r'
      have en0 := en.nx n0
      have e1 : nm' = nm := by rw [hj] at g2; exact (Option.some.inj g2).symm
      subst e1
      refine ⟨p, dx, kvs, rfl, n0.sub _ _ g3, lookup_no (by rw [g4.keys, hl]; exact hno), ?_⟩
      refine h0.go σ Hi0 H0 en0 _ (PX.imp (PX.bind k0) fun a0 Hi1 H1 n1 k1 v0 r0 => ?_)
      refine h1.go σ Hi1 H1 (en0.nx n1) _ (PX.imp (PX.bind k1) fun a1 Hi2 H2 n2 k2 v1 r1 => ?_)
      have kk := k2
      rw [F4 x rfl a0 a1] at kk
      exact ⟨x, a0, a1, .ref p, v0, v1, _, rfl, n2.sub, (Py.mono n2.im (Py.mono n1.im r')), (Py.mono n2.im r0), r1, kk⟩
theorem je_meth3 {α0 α1 α2 ρ α : Type} [Py α0] [Py α1] [Py α2] [Py ρ] [PyR α] {X : Cx} {K : Fg} {b : Bs} {L : List En} {E : XK} {o e0 e1 e2 : Expr} {cs fs : List Str} {mo : M (Ins cs fs α)} {m0 : M α0} {m1 : M α1} {m2 : M α2} {f : Ins cs fs α → α0 → α1 → α2 → M ρ} {m nm0 : Str} {apos pos : Pos} {pl : Sem Bool} {k : Nat} (c : ClsF K cs fs) (hz : cs[0]? = some nm0) (F : ∀ (j : Nat) (nm : Str), cs[j]? = some nm → ∃ g : Ins cs fs α → α0 → α1 → α2 → M ρ, OkM X.prog X.w X.K X.mg X.base (He.ga K nm) m k (sp4 K g) ∧ ∀ x : Ins cs fs α, x.c = j → ∀ (a0 : α0) (a1 : α1) (a2 : α2), f x a0 a1 a2 = g x a0 a1 a2) (hr : Room k X.A) (hx : Passes (L2.CX X.prog X.w) X E) (ho : JE X K b L E o mo) (h0 : JE X K b L E e0 m0) (h1 : JE X K b L E e1 m1) (h2 : JE X K b L E e2 m2) (hK : X.K = K := by rfl) (hno : m ∉ fs := by decide +kernel) (hl : ∀ a, (fs.zip (PyR.prl K (α := α) a)).map (·.1) = fs := by intro _; rfl) (s0 : starEach [e0, e1, e2] X.env = (false, eval e0 X.env) :: starEach [e1, e2] X.env := by rfl) (s1 : starEach [e1, e2] X.env = (false, eval e1 X.env) :: starEach [e2] X.env := by rfl) (s2 : starEach [e2] X.env = (false, eval e2 X.env) :: starEach [] X.env := by rfl) (hpl : (backTo pos (starEach [e1, e2] X.env)).any (·.1) = false := by rfl) (ht : eval (.Call (.Attribute o m apos) [e0, e1, e2] [] pos) X.env = (do
      let ov ← eval o X.env
      standAt apos.atName
      let (f, first) ← holding [ov] (getMethod ov m pl)
      callWith pos f first (backTo pos (starEach [e0, e1, e2] X.env)) (backToKw pos (keywordEach [] X.env))) := by rfl) : JE X K b L E (.Call (.Attribute o m apos) [e0, e1, e2] [] pos) (mo >>= fun x => m0 >>= fun a0 => m1 >>= fun a1 => m2 >>= fun a2 => f x a0 a1 a2) := by
  subst hK
  refine ⟨fun σ Hi H en Q hq => ?_⟩
  cases hm : mo with
  | error z =>
    obtain ⟨g, ⟨fa, fd, ps, F1, F2, F3⟩, F4⟩ := F 0 nm0 hz
    refine PE.wp (pe_meth (m := m) (pl := pl) pe_wp (c.cl nm0 (List.mem_of_getElem? hz)) F1 F2 hr F3 .nil hx (pa_cons pe_wp (pa_cons pe_wp (pa_cons pe_wp pa_nil s2) s1) s0) s0 hpl ht) (ho.go σ Hi H en _ ?_)
    rw [hm] at hq ⊢
    cases z with
    | rs c => exact hq
    | st => exact hq.elim
  | ok x =>
    rw [hm] at hq
    cases hj : cs[x.c]? with
    | none =>
      obtain ⟨g, ⟨fa, fd, ps, F1, F2, F3⟩, F4⟩ := F 0 nm0 hz
      refine PE.wp (pe_meth (m := m) (pl := pl) pe_wp (c.cl nm0 (List.mem_of_getElem? hz)) F1 F2 hr F3 .nil hx (pa_cons pe_wp (pa_cons pe_wp (pa_cons pe_wp pa_nil s2) s1) s0) s0 hpl ht) (ho.go σ Hi H en _ ?_)
      rw [hm]
      intro Hi0 H0 n0 v' r'
      obtain ⟨p, nm', dx, kvs, rfl, g2, g3, g4⟩ := r'
      rw [hj] at g2; cases g2
    | some nm =>
      obtain ⟨g, ⟨fa, fd, ps, F1, F2, F3⟩, F4⟩ := F x.c nm hj
      refine PE.wp (pe_meth (m := m) (pl := pl) pe_wp (c.cl nm (List.mem_of_getElem? hj)) F1 F2 hr F3 .nil hx (pa_cons pe_wp (pa_cons pe_wp (pa_cons pe_wp pa_nil s2) s1) s0) s0 hpl ht) (ho.go σ Hi H en _ ?_)
      rw [hm]
      intro Hi0 H0 n0 v' r'
      have k0 := PX.nx n0 (show PX X.K E (m0 >>= fun a0 => m1 >>= fun a1 => m2 >>= fun a2 => f x a0 a1 a2) Hi H _ from hq)
      obtain ⟨p, nm', dx, kvs, rfl, g2, g3, g4⟩ := id r'
      have en0 := en.nx n0
      have e1 : nm' = nm := by rw [hj] at g2; exact (Option.some.inj g2).symm
      subst e1
      refine ⟨p, dx, kvs, rfl, n0.sub _ _ g3, lookup_no (by rw [g4.keys, hl]; exact hno), ?_⟩
      refine h0.go σ Hi0 H0 en0 _ (PX.imp (PX.bind k0) fun a0 Hi1 H1 n1 k1 v0 r0 => ?_)
      refine h1.go σ Hi1 H1 (en0.nx n1) _ (PX.imp (PX.bind k1) fun a1 Hi2 H2 n2 k2 v1 r1 => ?_)
      refine h2.go σ Hi2 H2 ((en0.nx n1).nx n2) _ (PX.imp (PX.bind k2) fun a2 Hi3 H3 n3 k3 v2 r2 => ?_)
      have kk := k3
      rw [F4 x rfl a0 a1 a2] at kk
      exact ⟨x, a0, a1, a2, .ref p, v0, v1, v2, _, rfl, n3.sub, (Py.mono n3.im (Py.mono n2.im (Py.mono n1.im r'))), (Py.mono n3.im (Py.mono n2.im r0)), (Py.mono n3.im r1), r2, kk⟩
def spI1 (K : Fg) {α0 ρ : Type} [Py α0] [PyR ρ] (cs fs : List Str) (f : α0 → M ρ) : Sp := fun vs H Q E => ∃ (a0 : α0) (v0 : V) (Hi : Hp) (p dx : Addr) (nm : Str), vs = [.ref p, v0] ∧ Same Hi H ∧ Hi p = none ∧ nm ∈ cs ∧ H p = some (.ins (He.ga K nm) dx []) ∧ Py.rep K Hi a0 v0 ∧ PZ K E ⟨Hi, H, [p]⟩ (f a0) (fun r => ∀ Hi' H' o', Ok ⟨Hi, H, [p]⟩ Hi' H' → H' p = some o' → Hi' p = none → (ctO (He.ga K nm) (fs.zip (PyR.prl K r))).r Hi' o' → Q .non H')
theorem mkI1 {α0 ρ : Type} [Py α0] [PyR ρ] {P : Program} {w : World} {K : Fg} {mg : Str → Option Value} {base : Heap} {x q : Str} {fa : Addr} {N : List Str} {p0 p1 : Str} {args : Arguments} {body : List Stmt} {sc : Scope} {k : Nat} {cs fs : List Str} {f : α0 → M ρ} {fd : FuncData} (F : FunD K x q args body sc [] [] fa fd) (S : FnScope N [p0, p1] sc)
    (h : ∀ (cdv : Value) (A : Around) (outer : List Env) (s : Shared) (H : Hp) (E : XK), Room k (cxOf (L2.CX P w) P w K mg base N q sc fa cdv A outer s H E).A → ∀ (nm : Str) (p : Addr), nm ∈ cs → ∀ (a0 : α0), JN (cxOf (L2.CX P w) P w K mg base N q sc fa cdv A outer s H E) K p (He.ga K nm) ([.im (prR p), .im (rp K a0)] ++ List.replicate (N.length - 2) .no) [] E body (f a0) (fun r => fs.zip (PyR.prl K r))) : FnOk P w K mg base (L2.CX P w) (k + 1) fa fd [p0, p1] (spI1 K cs fs f) := by
  refine F.ok S (fun vs H Q E hh => ?_) (fun cdv A outer s H vs Q E hr hh => ?_)
  · obtain ⟨a0, v0, Hi, p, dx, nm, rfl, _⟩ := hh
    rfl
  · obtain ⟨a0, v0, Hi, p, dx, nm, rfl, sm, hp0, hnm, hp, r0, q⟩ := hh
    exact ⟨_, pss_wp, (h cdv A outer s H E hr nm p hnm a0).go _ ⟨Hi, H, []⟩ (EnvOk.start (ps := [prR p, rp K a0]) sm rfl (Paired.cons rfl (Paired.cons r0 Paired.nil))) ⟨rfl, dx, [], hp, .nil⟩ hp0 _ (PZ.imp q fun r z σ' Hi' H' o' g1 g2 g3 g4 => z Hi' H' o' g1 g2 g3 g4)⟩
theorem je_new1 {α0 ρ : Type} [Py α0] [PyR ρ] {X : Cx} {K : Fg} {b : Bs} {L : List En} {E : XK} {e0 : Expr} {cs fs : List Str} {m0 : M α0} {f : α0 → M ρ} {x : Str} {p pos : Pos} {k : Nat} (j : Nat) (hj : cs[j]? = some x) (F : OkN X.prog X.w X.K X.mg X.base x k (spI1 K cs fs f)) (hr : Room (k + 1) X.A) (hx : Passes (L2.CX X.prog X.w) X E) (h0 : JE X K b L E e0 m0) (hK : X.K = K := by rfl) (hg : Gl X x := by rfl) (hdb : (x == ("__debug__" : Str)) = false := by decide) (s0 : starEach [e0] X.env = (false, eval e0 X.env) :: starEach [] X.env := by rfl) (hpl : (backTo pos (starEach [] X.env)).any (·.1) = false := by rfl) : JE X K b L E (.Call (.Name x p) [e0] [] pos) (m0 >>= fun a0 => f a0 >>= fun r => (pure ⟨j, r⟩ : M (Ins cs fs ρ))) := by
  subst hK
  obtain ⟨fa, fd, ps, F1, F2, F3⟩ := F.ex
  refine ⟨fun σ Hi H en Q hq => PE.wp (pe_make F1 F2 hr hg F.g F3 .nil hx (pa_cons pe_wp pa_nil s0) hdb s0 hpl) ?_⟩
  refine h0.go σ Hi H en _ (PX.imp (PX.bind hq) fun a0 Hi1 H1 n1 k1 v0 r0 => ?_)
  intro y dx hy hdx hne
  have sm := n1.sub
  have al : Same H1 (upd (upd H1 dx (.own y)) y (.ins (He.ga X.K x) dx [])) := (same_new hdx).trans (same_new (by rw [upd_ne (Ne.symm hne)]; exact hy))
  refine ⟨a0, v0, Hi1, y, dx, x, rfl, sm.trans al, hi_none sm hy, List.mem_of_getElem? hj, upd_same, r0, ?_⟩
  have hpn : (upd (upd H1 dx (.own y)) y (.ins (He.ga X.K x) dx [])) y ≠ none := by rw [upd_same]; exact fun z => nomatch z
  have kk := k1
  cases hf : f a0 with
  | error z =>
    rw [hf] at kk
    cases z with
    | rs c => exact fun Hi' H' o => kk Hi' H' (nxI hy al hpn sm o)
    | st => exact kk.elim
  | ok r =>
    rw [hf] at kk
    intro Hi' H' o' o g1 g2 g3
    obtain ⟨dx', kvs, rfl, g4⟩ := g3
    exact ⟨rfl, kk _ H' (nxI2 hy al hpn sm o g1) (.ref y) ⟨y, x, dx', kvs, rfl, hj, upd_same, g4.mono (same_new g2)⟩⟩
def spI2 (K : Fg) {α0 α1 ρ : Type} [Py α0] [Py α1] [PyR ρ] (cs fs : List Str) (f : α0 → α1 → M ρ) : Sp := fun vs H Q E => ∃ (a0 : α0) (a1 : α1) (v0 v1 : V) (Hi : Hp) (p dx : Addr) (nm : Str), vs = [.ref p, v0, v1] ∧ Same Hi H ∧ Hi p = none ∧ nm ∈ cs ∧ H p = some (.ins (He.ga K nm) dx []) ∧ Py.rep K Hi a0 v0 ∧ Py.rep K Hi a1 v1 ∧ PZ K E ⟨Hi, H, [p]⟩ (f a0 a1) (fun r => ∀ Hi' H' o', Ok ⟨Hi, H, [p]⟩ Hi' H' → H' p = some o' → Hi' p = none → (ctO (He.ga K nm) (fs.zip (PyR.prl K r))).r Hi' o' → Q .non H')
theorem mkI2 {α0 α1 ρ : Type} [Py α0] [Py α1] [PyR ρ] {P : Program} {w : World} {K : Fg} {mg : Str → Option Value} {base : Heap} {x q : Str} {fa : Addr} {N : List Str} {p0 p1 p2 : Str} {args : Arguments} {body : List Stmt} {sc : Scope} {k : Nat} {cs fs : List Str} {f : α0 → α1 → M ρ} {fd : FuncData} (F : FunD K x q args body sc [] [] fa fd) (S : FnScope N [p0, p1, p2] sc)
    (h : ∀ (cdv : Value) (A : Around) (outer : List Env) (s : Shared) (H : Hp) (E : XK), Room k (cxOf (L2.CX P w) P w K mg base N q sc fa cdv A outer s H E).A → ∀ (nm : Str) (p : Addr), nm ∈ cs → ∀ (a0 : α0) (a1 : α1), JN (cxOf (L2.CX P w) P w K mg base N q sc fa cdv A outer s H E) K p (He.ga K nm) ([.im (prR p), .im (rp K a0), .im (rp K a1)] ++ List.replicate (N.length - 3) .no) [] E body (f a0 a1) (fun r => fs.zip (PyR.prl K r))) : FnOk P w K mg base (L2.CX P w) (k + 1) fa fd [p0, p1, p2] (spI2 K cs fs f) := by
  refine F.ok S (fun vs H Q E hh => ?_) (fun cdv A outer s H vs Q E hr hh => ?_)
  · obtain ⟨a0, a1, v0, v1, Hi, p, dx, nm, rfl, _⟩ := hh
    rfl
  · obtain ⟨a0, a1, v0, v1, Hi, p, dx, nm, rfl, sm, hp0, hnm, hp, r0, r1, q⟩ := hh
    exact ⟨_, pss_wp, (h cdv A outer s H E hr nm p hnm a0 a1).go _ ⟨Hi, H, []⟩ (EnvOk.start (ps := [prR p, rp K a0, rp K a1]) sm rfl (Paired.cons rfl (Paired.cons r0 (Paired.cons r1 Paired.nil)))) ⟨rfl, dx, [], hp, .nil⟩ hp0 _ (PZ.imp q fun r z σ' Hi' H' o' g1 g2 g3 g4 => z Hi' H' o' g1 g2 g3 g4)⟩
theorem je_new2 {α0 α1 ρ : Type} [Py α0] [Py α1] [PyR ρ] {X : Cx} {K : Fg} {b : Bs} {L : List En} {E : XK} {e0 e1 : Expr} {cs fs : List Str} {m0 : M α0} {m1 : M α1} {f : α0 → α1 → M ρ} {x : Str} {p pos : Pos} {k : Nat} (j : Nat) (hj : cs[j]? = some x) (F : OkN X.prog X.w X.K X.mg X.base x k (spI2 K cs fs f)) (hr : Room (k + 1) X.A) (hx : Passes (L2.CX X.prog X.w) X E) (h0 : JE X K b L E e0 m0) (h1 : JE X K b L E e1 m1) (hK : X.K = K := by rfl) (hg : Gl X x := by rfl) (hdb : (x == ("__debug__" : Str)) = false := by decide) (s0 : starEach [e0, e1] X.env = (false, eval e0 X.env) :: starEach [e1] X.env := by rfl) (s1 : starEach [e1] X.env = (false, eval e1 X.env) :: starEach [] X.env := by rfl) (hpl : (backTo pos (starEach [e1] X.env)).any (·.1) = false := by rfl) : JE X K b L E (.Call (.Name x p) [e0, e1] [] pos) (m0 >>= fun a0 => m1 >>= fun a1 => f a0 a1 >>= fun r => (pure ⟨j, r⟩ : M (Ins cs fs ρ))) := by
  subst hK
  obtain ⟨fa, fd, ps, F1, F2, F3⟩ := F.ex
  refine ⟨fun σ Hi H en Q hq => PE.wp (pe_make F1 F2 hr hg F.g F3 .nil hx (pa_cons pe_wp (pa_cons pe_wp pa_nil s1) s0) hdb s0 hpl) ?_⟩
  refine h0.go σ Hi H en _ (PX.imp (PX.bind hq) fun a0 Hi1 H1 n1 k1 v0 r0 => ?_)
  refine h1.go σ Hi1 H1 (en.nx n1) _ (PX.imp (PX.bind k1) fun a1 Hi2 H2 n2 k2 v1 r1 => ?_)
  intro y dx hy hdx hne
  have sm := n2.sub
  have al : Same H2 (upd (upd H2 dx (.own y)) y (.ins (He.ga X.K x) dx [])) := (same_new hdx).trans (same_new (by rw [upd_ne (Ne.symm hne)]; exact hy))
  refine ⟨a0, a1, v0, v1, Hi2, y, dx, x, rfl, sm.trans al, hi_none sm hy, List.mem_of_getElem? hj, upd_same, (Py.mono n2.im r0), r1, ?_⟩
  have hpn : (upd (upd H2 dx (.own y)) y (.ins (He.ga X.K x) dx [])) y ≠ none := by rw [upd_same]; exact fun z => nomatch z
  have kk := k2
  cases hf : f a0 a1 with
  | error z =>
    rw [hf] at kk
    cases z with
    | rs c => exact fun Hi' H' o => kk Hi' H' (nxI hy al hpn sm o)
    | st => exact kk.elim
  | ok r =>
    rw [hf] at kk
    intro Hi' H' o' o g1 g2 g3
    obtain ⟨dx', kvs, rfl, g4⟩ := g3
    exact ⟨rfl, kk _ H' (nxI2 hy al hpn sm o g1) (.ref y) ⟨y, x, dx', kvs, rfl, hj, upd_same, g4.mono (same_new g2)⟩⟩
def spI3 (K : Fg) {α0 α1 α2 ρ : Type} [Py α0] [Py α1] [Py α2] [PyR ρ] (cs fs : List Str) (f : α0 → α1 → α2 → M ρ) : Sp := fun vs H Q E => ∃ (a0 : α0) (a1 : α1) (a2 : α2) (v0 v1 v2 : V) (Hi : Hp) (p dx : Addr) (nm : Str), vs = [.ref p, v0, v1, v2] ∧ Same Hi H ∧ Hi p = none ∧ nm ∈ cs ∧ H p = some (.ins (He.ga K nm) dx []) ∧ Py.rep K Hi a0 v0 ∧ Py.rep K Hi a1 v1 ∧ Py.rep K Hi a2 v2 ∧ PZ K E ⟨Hi, H, [p]⟩ (f a0 a1 a2) (fun r => ∀ Hi' H' o', Ok ⟨Hi, H, [p]⟩ Hi' H' → H' p = some o' → Hi' p = none → (ctO (He.ga K nm) (fs.zip (PyR.prl K r))).r Hi' o' → Q .non H')
theorem mkI3 {α0 α1 α2 ρ : Type} [Py α0] [Py α1] [Py α2] [PyR ρ] {P : Program} {w : World} {K : Fg} {mg : Str → Option Value} {base : Heap} {x q : Str} {fa : Addr} {N : List Str} {p0 p1 p2 p3 : Str} {args : Arguments} {body : List Stmt} {sc : Scope} {k : Nat} {cs fs : List Str} {f : α0 → α1 → α2 → M ρ} {fd : FuncData} (F : FunD K x q args body sc [] [] fa fd) (S : FnScope N [p0, p1, p2, p3] sc)
    (h : ∀ (cdv : Value) (A : Around) (outer : List Env) (s : Shared) (H : Hp) (E : XK), Room k (cxOf (L2.CX P w) P w K mg base N q sc fa cdv A outer s H E).A → ∀ (nm : Str) (p : Addr), nm ∈ cs → ∀ (a0 : α0) (a1 : α1) (a2 : α2), JN (cxOf (L2.CX P w) P w K mg base N q sc fa cdv A outer s H E) K p (He.ga K nm) ([.im (prR p), .im (rp K a0), .im (rp K a1), .im (rp K a2)] ++ List.replicate (N.length - 4) .no) [] E body (f a0 a1 a2) (fun r => fs.zip (PyR.prl K r))) : FnOk P w K mg base (L2.CX P w) (k + 1) fa fd [p0, p1, p2, p3] (spI3 K cs fs f) := by
  refine F.ok S (fun vs H Q E hh => ?_) (fun cdv A outer s H vs Q E hr hh => ?_)
  · obtain ⟨a0, a1, a2, v0, v1, v2, Hi, p, dx, nm, rfl, _⟩ := hh
    rfl
  · obtain ⟨a0, a1, a2, v0, v1, v2, Hi, p, dx, nm, rfl, sm, hp0, hnm, hp, r0, r1, r2, q⟩ := hh
    exact ⟨_, pss_wp, (h cdv A outer s H E hr nm p hnm a0 a1 a2).go _ ⟨Hi, H, []⟩ (EnvOk.start (ps := [prR p, rp K a0, rp K a1, rp K a2]) sm rfl (Paired.cons rfl (Paired.cons r0 (Paired.cons r1 (Paired.cons r2 Paired.nil))))) ⟨rfl, dx, [], hp, .nil⟩ hp0 _ (PZ.imp q fun r z σ' Hi' H' o' g1 g2 g3 g4 => z Hi' H' o' g1 g2 g3 g4)⟩
theorem je_new3 {α0 α1 α2 ρ : Type} [Py α0] [Py α1] [Py α2] [PyR ρ] {X : Cx} {K : Fg} {b : Bs} {L : List En} {E : XK} {e0 e1 e2 : Expr} {cs fs : List Str} {m0 : M α0} {m1 : M α1} {m2 : M α2} {f : α0 → α1 → α2 → M ρ} {x : Str} {p pos : Pos} {k : Nat} (j : Nat) (hj : cs[j]? = some x) (F : OkN X.prog X.w X.K X.mg X.base x k (spI3 K cs fs f)) (hr : Room (k + 1) X.A) (hx : Passes (L2.CX X.prog X.w) X E) (h0 : JE X K b L E e0 m0) (h1 : JE X K b L E e1 m1) (h2 : JE X K b L E e2 m2) (hK : X.K = K := by rfl) (hg : Gl X x := by rfl) (hdb : (x == ("__debug__" : Str)) = false := by decide) (s0 : starEach [e0, e1, e2] X.env = (false, eval e0 X.env) :: starEach [e1, e2] X.env := by rfl) (s1 : starEach [e1, e2] X.env = (false, eval e1 X.env) :: starEach [e2] X.env := by rfl) (s2 : starEach [e2] X.env = (false, eval e2 X.env) :: starEach [] X.env := by rfl) (hpl : (backTo pos (starEach [e1, e2] X.env)).any (·.1) = false := by rfl) : JE X K b L E (.Call (.Name x p) [e0, e1, e2] [] pos) (m0 >>= fun a0 => m1 >>= fun a1 => m2 >>= fun a2 => f a0 a1 a2 >>= fun r => (pure ⟨j, r⟩ : M (Ins cs fs ρ))) := by
  subst hK
  obtain ⟨fa, fd, ps, F1, F2, F3⟩ := F.ex
  refine ⟨fun σ Hi H en Q hq => PE.wp (pe_make F1 F2 hr hg F.g F3 .nil hx (pa_cons pe_wp (pa_cons pe_wp (pa_cons pe_wp pa_nil s2) s1) s0) hdb s0 hpl) ?_⟩
  refine h0.go σ Hi H en _ (PX.imp (PX.bind hq) fun a0 Hi1 H1 n1 k1 v0 r0 => ?_)
  refine h1.go σ Hi1 H1 (en.nx n1) _ (PX.imp (PX.bind k1) fun a1 Hi2 H2 n2 k2 v1 r1 => ?_)
  refine h2.go σ Hi2 H2 ((en.nx n1).nx n2) _ (PX.imp (PX.bind k2) fun a2 Hi3 H3 n3 k3 v2 r2 => ?_)
  intro y dx hy hdx hne
  have sm := n3.sub
  have al : Same H3 (upd (upd H3 dx (.own y)) y (.ins (He.ga X.K x) dx [])) := (same_new hdx).trans (same_new (by rw [upd_ne (Ne.symm hne)]; exact hy))
  refine ⟨a0, a1, a2, v0, v1, v2, Hi3, y, dx, x, rfl, sm.trans al, hi_none sm hy, List.mem_of_getElem? hj, upd_same, (Py.mono n3.im (Py.mono n2.im r0)), (Py.mono n3.im r1), r2, ?_⟩
  have hpn : (upd (upd H3 dx (.own y)) y (.ins (He.ga X.K x) dx [])) y ≠ none := by rw [upd_same]; exact fun z => nomatch z
  have kk := k3
  cases hf : f a0 a1 a2 with
  | error z =>
    rw [hf] at kk
    cases z with
    | rs c => exact fun Hi' H' o => kk Hi' H' (nxI hy al hpn sm o)
    | st => exact kk.elim
  | ok r =>
    rw [hf] at kk
    intro Hi' H' o' o g1 g2 g3
    obtain ⟨dx', kvs, rfl, g4⟩ := g3
    exact ⟨rfl, kk _ H' (nxI2 hy al hpn sm o g1) (.ref y) ⟨y, x, dx', kvs, rfl, hj, upd_same, g4.mono (same_new g2)⟩⟩
def spI4 (K : Fg) {α0 α1 α2 α3 ρ : Type} [Py α0] [Py α1] [Py α2] [Py α3] [PyR ρ] (cs fs : List Str) (f : α0 → α1 → α2 → α3 → M ρ) : Sp := fun vs H Q E => ∃ (a0 : α0) (a1 : α1) (a2 : α2) (a3 : α3) (v0 v1 v2 v3 : V) (Hi : Hp) (p dx : Addr) (nm : Str), vs = [.ref p, v0, v1, v2, v3] ∧ Same Hi H ∧ Hi p = none ∧ nm ∈ cs ∧ H p = some (.ins (He.ga K nm) dx []) ∧ Py.rep K Hi a0 v0 ∧ Py.rep K Hi a1 v1 ∧ Py.rep K Hi a2 v2 ∧ Py.rep K Hi a3 v3 ∧ PZ K E ⟨Hi, H, [p]⟩ (f a0 a1 a2 a3) (fun r => ∀ Hi' H' o', Ok ⟨Hi, H, [p]⟩ Hi' H' → H' p = some o' → Hi' p = none → (ctO (He.ga K nm) (fs.zip (PyR.prl K r))).r Hi' o' → Q .non H')
theorem mkI4 {α0 α1 α2 α3 ρ : Type} [Py α0] [Py α1] [Py α2] [Py α3] [PyR ρ] {P : Program} {w : World} {K : Fg} {mg : Str → Option Value} {base : Heap} {x q : Str} {fa : Addr} {N : List Str} {p0 p1 p2 p3 p4 : Str} {args : Arguments} {body : List Stmt} {sc : Scope} {k : Nat} {cs fs : List Str} {f : α0 → α1 → α2 → α3 → M ρ} {fd : FuncData} (F : FunD K x q args body sc [] [] fa fd) (S : FnScope N [p0, p1, p2, p3, p4] sc)
    (h : ∀ (cdv : Value) (A : Around) (outer : List Env) (s : Shared) (H : Hp) (E : XK), Room k (cxOf (L2.CX P w) P w K mg base N q sc fa cdv A outer s H E).A → ∀ (nm : Str) (p : Addr), nm ∈ cs → ∀ (a0 : α0) (a1 : α1) (a2 : α2) (a3 : α3), JN (cxOf (L2.CX P w) P w K mg base N q sc fa cdv A outer s H E) K p (He.ga K nm) ([.im (prR p), .im (rp K a0), .im (rp K a1), .im (rp K a2), .im (rp K a3)] ++ List.replicate (N.length - 5) .no) [] E body (f a0 a1 a2 a3) (fun r => fs.zip (PyR.prl K r))) : FnOk P w K mg base (L2.CX P w) (k + 1) fa fd [p0, p1, p2, p3, p4] (spI4 K cs fs f) := by
  refine F.ok S (fun vs H Q E hh => ?_) (fun cdv A outer s H vs Q E hr hh => ?_)
  · obtain ⟨a0, a1, a2, a3, v0, v1, v2, v3, Hi, p, dx, nm, rfl, _⟩ := hh
    rfl
  · obtain ⟨a0, a1, a2, a3, v0, v1, v2, v3, Hi, p, dx, nm, rfl, sm, hp0, hnm, hp, r0, r1, r2, r3, q⟩ := hh
    exact ⟨_, pss_wp, (h cdv A outer s H E hr nm p hnm a0 a1 a2 a3).go _ ⟨Hi, H, []⟩ (EnvOk.start (ps := [prR p, rp K a0, rp K a1, rp K a2, rp K a3]) sm rfl (Paired.cons rfl (Paired.cons r0 (Paired.cons r1 (Paired.cons r2 (Paired.cons r3 Paired.nil)))))) ⟨rfl, dx, [], hp, .nil⟩ hp0 _ (PZ.imp q fun r z σ' Hi' H' o' g1 g2 g3 g4 => z Hi' H' o' g1 g2 g3 g4)⟩
theorem je_new4 {α0 α1 α2 α3 ρ : Type} [Py α0] [Py α1] [Py α2] [Py α3] [PyR ρ] {X : Cx} {K : Fg} {b : Bs} {L : List En} {E : XK} {e0 e1 e2 e3 : Expr} {cs fs : List Str} {m0 : M α0} {m1 : M α1} {m2 : M α2} {m3 : M α3} {f : α0 → α1 → α2 → α3 → M ρ} {x : Str} {p pos : Pos} {k : Nat} (j : Nat) (hj : cs[j]? = some x) (F : OkN X.prog X.w X.K X.mg X.base x k (spI4 K cs fs f)) (hr : Room (k + 1) X.A) (hx : Passes (L2.CX X.prog X.w) X E) (h0 : JE X K b L E e0 m0) (h1 : JE X K b L E e1 m1) (h2 : JE X K b L E e2 m2) (h3 : JE X K b L E e3 m3) (hK : X.K = K := by rfl) (hg : Gl X x := by rfl) (hdb : (x == ("__debug__" : Str)) = false := by decide) (s0 : starEach [e0, e1, e2, e3] X.env = (false, eval e0 X.env) :: starEach [e1, e2, e3] X.env := by rfl) (s1 : starEach [e1, e2, e3] X.env = (false, eval e1 X.env) :: starEach [e2, e3] X.env := by rfl) (s2 : starEach [e2, e3] X.env = (false, eval e2 X.env) :: starEach [e3] X.env := by rfl) (s3 : starEach [e3] X.env = (false, eval e3 X.env) :: starEach [] X.env := by rfl) (hpl : (backTo pos (starEach [e1, e2, e3] X.env)).any (·.1) = false := by rfl) : JE X K b L E (.Call (.Name x p) [e0, e1, e2, e3] [] pos) (m0 >>= fun a0 => m1 >>= fun a1 => m2 >>= fun a2 => m3 >>= fun a3 => f a0 a1 a2 a3 >>= fun r => (pure ⟨j, r⟩ : M (Ins cs fs ρ))) := by
  subst hK
  obtain ⟨fa, fd, ps, F1, F2, F3⟩ := F.ex
  refine ⟨fun σ Hi H en Q hq => PE.wp (pe_make F1 F2 hr hg F.g F3 .nil hx (pa_cons pe_wp (pa_cons pe_wp (pa_cons pe_wp (pa_cons pe_wp pa_nil s3) s2) s1) s0) hdb s0 hpl) ?_⟩
  refine h0.go σ Hi H en _ (PX.imp (PX.bind hq) fun a0 Hi1 H1 n1 k1 v0 r0 => ?_)
  refine h1.go σ Hi1 H1 (en.nx n1) _ (PX.imp (PX.bind k1) fun a1 Hi2 H2 n2 k2 v1 r1 => ?_)
  refine h2.go σ Hi2 H2 ((en.nx n1).nx n2) _ (PX.imp (PX.bind k2) fun a2 Hi3 H3 n3 k3 v2 r2 => ?_)
  refine h3.go σ Hi3 H3 (((en.nx n1).nx n2).nx n3) _ (PX.imp (PX.bind k3) fun a3 Hi4 H4 n4 k4 v3 r3 => ?_)
  intro y dx hy hdx hne
  have sm := n4.sub
  have al : Same H4 (upd (upd H4 dx (.own y)) y (.ins (He.ga X.K x) dx [])) := (same_new hdx).trans (same_new (by rw [upd_ne (Ne.symm hne)]; exact hy))
  refine ⟨a0, a1, a2, a3, v0, v1, v2, v3, Hi4, y, dx, x, rfl, sm.trans al, hi_none sm hy, List.mem_of_getElem? hj, upd_same, (Py.mono n4.im (Py.mono n3.im (Py.mono n2.im r0))), (Py.mono n4.im (Py.mono n3.im r1)), (Py.mono n4.im r2), r3, ?_⟩
  have hpn : (upd (upd H4 dx (.own y)) y (.ins (He.ga X.K x) dx [])) y ≠ none := by rw [upd_same]; exact fun z => nomatch z
  have kk := k4
  cases hf : f a0 a1 a2 a3 with
  | error z =>
    rw [hf] at kk
    cases z with
    | rs c => exact fun Hi' H' o => kk Hi' H' (nxI hy al hpn sm o)
    | st => exact kk.elim
  | ok r =>
    rw [hf] at kk
    intro Hi' H' o' o g1 g2 g3
    obtain ⟨dx', kvs, rfl, g4⟩ := g3
    exact ⟨rfl, kk _ H' (nxI2 hy al hpn sm o g1) (.ref y) ⟨y, x, dx', kvs, rfl, hj, upd_same, g4.mono (same_new g2)⟩⟩
end G

set_option Elab.async false
set_option linter.all false
set_option maxRecDepth 100000
set_option maxHeartbeats 2000000
namespace G
open PySem L2 TL
section
variable {X : Cx} {K : Fg} {mg : Str → Option Value} {b : Bs} {L L' : List En} {E : XK} {e e1 e2 : Expr} {st : Stmt} {rest body a bb : List Stmt} {α β γ S R : Type} {pos p' p2 p3 p4 : Pos} {tl : Ends → Prop} {post : α → Ends → Prop}
/-! what a name holds alone, read for a while -/
theorem nx_thaw {Hi Hi1 H Hi' H' : Hp} (s : Same Hi Hi1) (n : Nx Hi1 H Hi' H') : Nx Hi H Hi H' := ⟨Same.refl _, n.al, (s.trans n.im).trans n.sub, fun _ _ h => h⟩
theorem PX.thaw {k : α → Hp → Prop} {m : M α} {Hi Hi1 H : Hp} (s : Same Hi Hi1) (h : PX K E m Hi H fun a _ H' => k a H') : PX K E m Hi1 H fun a _ H' => k a H' := by
  cases m with
  | ok a => exact fun Hi' H' n => h Hi H' (nx_thaw s n)
  | error z =>
    cases z with
    | rs c => exact fun Hi' H' n => h Hi H' (nx_thaw s n)
    | st => exact h
theorem EnvOk.frz' [Py α] {σ : L2.St} {Hi H : Hp} (en : EnvOk b L σ Hi H) (i : Nat) {xs : List α} (hn : b.own = []) (hL : L[i]? = some (.mu (ctL K xs))) : ∃ Hi', Same Hi Hi' ∧ EnvOk b (L.set i (.im (rp K xs))) σ Hi' H := by
  obtain ⟨a, o, g1, g2, g3, g4, g5⟩ := en.mu i _ hL
  have g6 : b.H a = none := by
    rcases g4 with z | z
    · rw [hn] at z; cases z
    · exact z
  obtain ⟨vs, rfl, r⟩ := id g5
  have sm : Same Hi (upd Hi a (.lst vs)) := same_new g3
  obtain ⟨hl, _⟩ := List.getElem?_eq_some_iff.mp hL
  refine ⟨upd Hi a (.lst vs), sm, ⟨⟨fun d u h => ?_, en.ok.base.trans sm, en.ok.fr, en.ok.keep, fun d h n => ?_⟩, by rw [List.length_set]; exact en.len, fun j q h => ?_, fun j d h => ?_, fun j k d f a' h1 h2 h3 h4 => ?_⟩⟩
  · by_cases hd : d = a
    · subst hd; rw [upd_same] at h; cases h; exact g2
    · rw [upd_ne hd] at h; exact en.ok.sub d u h
  · have hd : d ≠ a := fun z => h (by rw [z]; exact g6)
    rw [upd_ne hd]; exact en.ok.cap d h n
  · by_cases hj : i = j
    · subst hj
      rw [List.getElem?_set_self hl] at h
      cases h
      exact ⟨_, g1, a, vs, rfl, .of upd_same, r.mono sm⟩
    · rw [List.getElem?_set_ne hj] at h
      obtain ⟨v, k1, k2⟩ := en.im j q h
      exact ⟨v, k1, q.m sm k2⟩
  · by_cases hj : i = j
    · subst hj
      rw [List.getElem?_set_self hl] at h
      cases h
    · rw [List.getElem?_set_ne hj] at h
      obtain ⟨a2, o2, k1, k2, k3, k4, k5⟩ := en.mu j d h
      have hne : a2 ≠ a := fun z => by
        subst z
        exact hj (en.dis i j _ d a2 hL h g1 k1)
      exact ⟨a2, o2, k1, k2, by rw [upd_ne hne]; exact k3, k4, d.m sm k5⟩
  · have back : ∀ {j : Nat} {d : Ct}, (L.set i (En.im (rp K xs)))[j]? = some (.mu d) → L[j]? = some (.mu d) := fun {j d} h => by
      by_cases hj : i = j
      · subst hj
        rw [List.getElem?_set_self hl] at h
        cases h
      · rw [List.getElem?_set_ne hj] at h; exact h
    exact en.dis j k d f a' (back h1) (back h2) h3 h4
theorem jt_thaw [Py α] {m : M Bool} (i : Nat) {xs : List α} (h : JT X K b (L.set i (.im (rp K xs))) E e m) (hn : b.own = []) (hL : L[i]? = some (.mu (ctL K xs)) := by rfl) : JT X K b L E e m :=
  ⟨fun σ Hi H en Q hq => by
    obtain ⟨Hi', s, en'⟩ := en.frz' i hn hL
    exact h.go σ Hi' H en' Q (hq.thaw (k := Q) s)⟩
theorem je_thawB [Py α] {m : M Bool} (i : Nat) {xs : List α} (h : JE X K b (L.set i (.im (rp K xs))) E e m) (hn : b.own = []) (hL : L[i]? = some (.mu (ctL K xs)) := by rfl) : JE X K b L E e m :=
  ⟨fun σ Hi H en Q hq => by
    obtain ⟨Hi', s, en'⟩ := en.frz' i hn hL
    exact h.go σ Hi' H en' Q (PX.thaw (k := fun a H' => ∀ v, v = V.bl a → Q v H') s hq)⟩
theorem je_thawI [Py α] {m : M Int} (i : Nat) {xs : List α} (h : JE X K b (L.set i (.im (rp K xs))) E e m) (hn : b.own = []) (hL : L[i]? = some (.mu (ctL K xs)) := by rfl) : JE X K b L E e m :=
  ⟨fun σ Hi H en Q hq => by
    obtain ⟨Hi', s, en'⟩ := en.frz' i hn hL
    exact h.go σ Hi' H en' Q (PX.thaw (k := fun a H' => ∀ v, v = V.int a → Q v H') s hq)⟩
theorem je_thawT [Py α] {m : M Tx} (i : Nat) {xs : List α} (h : JE X K b (L.set i (.im (rp K xs))) E e m) (hn : b.own = []) (hL : L[i]? = some (.mu (ctL K xs)) := by rfl) : JE X K b L E e m :=
  ⟨fun σ Hi H en Q hq => by
    obtain ⟨Hi', s, en'⟩ := en.frz' i hn hL
    exact h.go σ Hi' H en' Q (PX.thaw (k := fun a H' => ∀ v, v = V.str (G.S a) → Q v H') s hq)⟩
/-- a part of it, a new list -/
theorem je_slM [Py α] {lo hi : Option Expr} {ml mh : M (Option Int)} (i : Nat) {x : Str} {xs : List α} {pn : Pos} (hl : JO X K b L E lo ml) (hh : JO X K b L E hi mh) (hL : L[i]? = some (.mu (ctL K xs)) := by rfl) (hN : X.N[i]? = some x := by rfl) (hK : X.K = K := by rfl) (hv : Vis X.env.scope x := by first | exact Or.inl rfl | exact Or.inr (Or.inl rfl) | exact Or.inr (Or.inr rfl))
    (hd : (x == ("__debug__" : Str)) = false := by decide) (hcd : (x == ("__classdict__" : Str)) = false := by decide) :
    JE X K b L E (.Subscript (.Name x pn) (.Slice lo hi none p2) pos) (ml >>= fun l => mh >>= fun u => pure (cut xs l u)) :=
  ⟨fun σ Hi H en Q h => by
    subst hK
    obtain ⟨p, vs, h1, h2, r⟩ := en.muL hL
    obtain ⟨t1, d1, p1⟩ := hl.ex
    obtain ⟨t2, d2, p2⟩ := hh.ex
    refine PE.wp (pe_slice sl_list (pe_var hN hv hd hcd) d1 d2) ⟨_, h1, p1 σ Hi H en _ (h.bind.imp fun l Hi2 H2 n2 k2 => p2 σ Hi2 H2 (en.nx n2) _ (k2.bind.imp fun u Hi3 H3 n3 k3 => ?_))⟩
    have s3 := (n2.im.trans n3.im)
    refine ⟨p, vs, rfl, SqL.of ((n2.al.trans n3.al) _ _ h2), fun r' hr => k3.go (Nx.new n3.sub hr) _ ⟨r', _, rfl, .of upd_same, ?_⟩⟩
    exact ((r.mono s3).cut l u).mono (same_new (hi_none n3.sub hr))⟩
/-! a value or nothing -/
theorem je_get [Py α] {m : M (Option α)} (h : JE X K b L E e m) : JE X K b L E e (m >>= fun x => ofO x) :=
  ⟨fun σ Hi H en Q hq => h.go σ Hi H en Q ((PX.bind hq).imp fun x Hi1 H1 n1 k v rv => by
    obtain ⟨a, e, k⟩ := PX.ofO1 k
    subst e
    exact k.here n1.sub v rv)⟩
/-- what is never None -/
class NoNon (α : Type) [Py α] : Prop where
  ne : ∀ {K : Fg} {H : Hp} {a : α} {v : V}, Py.rep K H a v → v ≠ .non
instance : NoNon Int := ⟨fun h => by rw [show _ = _ from h]; exact fun z => nomatch z⟩
instance : NoNon Bool := ⟨fun h => by rw [show _ = _ from h]; exact fun z => nomatch z⟩
instance : NoNon Tx := ⟨fun h => by rw [show _ = V.str _ from h]; exact fun z => nomatch z⟩
instance [Py α] : NoNon (List α) := ⟨fun ⟨p, vs, h, _⟩ => by rw [h]; exact fun z => nomatch z⟩
instance [Py α] : NoNon (Tup α) := ⟨fun ⟨p, vs, h, _⟩ => by rw [h]; exact fun z => nomatch z⟩
instance [Py α] [Py β] : NoNon (α × β) := ⟨fun ⟨p, _, _, h, _⟩ => by rw [h]; exact fun z => nomatch z⟩
instance [Py α] [Py β] [Py γ] : NoNon (T3 α β γ) := ⟨fun ⟨p, _, _, _, h, _⟩ => by rw [h]; exact fun z => nomatch z⟩
instance [PyR α] {cs fs : List Str} : NoNon (Ins cs fs α) := ⟨fun ⟨p, _, _, _, h, _⟩ => by rw [h]; exact fun z => nomatch z⟩
theorem isn_dec [Py α] [NoNon α] {H : Hp} {x : Option α} {v : V} (h : Py.rep K H x v) : decide (v = V.non) = x.isNone := by
  cases x with
  | none => rw [show v = V.non from h]; rfl
  | some a => exact decide_eq_false (NoNon.ne (α := α) (K := K) (H := H) (a := a) h)
theorem ro_isN [Py α] [NoNon α] : RO K E (fun x y H Q => y = .non ∧ Q (.bl (decide (x = .non))) H) (fun (x : Option α) (_ : Unit) => (pure x.isNone : M Bool)) := by
  rintro x y v w Hi H Q s hx rfl h
  exact ⟨rfl, h.here s _ (congrArg V.bl (isn_dec hx))⟩
theorem ro_notN [Py α] [NoNon α] : RO K E (fun x y H Q => y = .non ∧ Q (.bl (!decide (x = .non))) H) (fun (x : Option α) (_ : Unit) => (pure (!x.isNone) : M Bool)) := by
  rintro x y v w Hi H Q s hx rfl h
  exact ⟨rfl, h.here s _ (by rw [isn_dec hx]; rfl)⟩
/-- isinstance of a value or nothing, a built-in class -/
theorem je_isiO [Py α] {m : M (Option α)} {tn T : String} {r : Bool} (ht : TyxOk K α tn) (hk : kitB tn T = some r) (hk0 : kitB "NoneType" T = some false) (hm : mg "isinstance" = none) (hm2 : mg (Str.ofString T) = none) (hv : bootBuiltins (Str.ofString T) = some (.type T)) (h : JE X K b L E e m)
    (hK : X.K = K := by rfl) (hM : X.mg = mg := by rfl) (hg : Gl X "isinstance" := by rfl) (hg2 : Gl X (Str.ofString T) := by rfl) (hn : Str.ofString T ≠ "__name__" := by decide) (hd : (Str.ofString T == ("__debug__" : Str)) = false := by decide)
    (he : starEach [e, .Name (Str.ofString T) p2] X.env = (false, eval e X.env) :: starEach [.Name (Str.ofString T) p2] X.env := by rfl) (he2 : starEach [.Name (Str.ofString T) p2] X.env = (false, eval (.Name (Str.ofString T) p2) X.env) :: starEach [] X.env := by rfl)
    (hpl : (backTo pos (starEach [.Name (Str.ofString T) p2] X.env)).any (·.1) = false := by rfl) : JE X K b L E (.Call (.Name "isinstance" p3) [e, .Name (Str.ofString T) p2] [] pos) (m >>= fun x => (pure (x.isSome && r) : M Bool)) := by
  subst hK
  refine .of ⟨_, pe_callB call_isi hg (by rw [hM]; exact hm) bt_isinstance (pa_cons pe_wp (pa_cons (pe_bltn (v := .ty T) hg2 (by rw [hM]; exact hm2) hv rfl hn hd) pa_nil he2) he) (by decide) (by decide) he hpl, fun σ Hi H en Q hq => h.go σ Hi H en _ (hq.bind.imp fun a Hi1 H1 n1 q v rv => ?_)⟩
  cases a with
  | none => exact ⟨v, .ty T, .type "NoneType", .type T, false, rfl, .ty T, by rw [show v = V.non from rv]; exact .base .non, kit_ty hk0, q.here n1.sub _ rfl⟩
  | some a => exact ⟨v, .ty T, .type tn, .type T, r, rfl, .ty T, ht H1 a v (Py.mono (α := α) n1.sub rv), kit_ty hk, q.here n1.sub _ rfl⟩
/-! an if that ends in part -/
def pPt (K : Fg) (b : Bs) {S R : Type} [Py R] (Lf : S → List En) (t : Tl S R) (D : Ends) : Prop := match t with
  | .ct s => ∀ σ' Hi' H', EnvOk b (Lf s) σ' Hi' H' → D.nx σ' H'
  | .bk _ => False
  | .rt r => pRt K b r D
theorem js_nilQ [Py R] {Lf : S → List En} {s : S} (w : Wk L (Lf s)) : JS X K b L E [] tl (pure (.ct s) : M (Tl S R)) (pPt K b Lf) :=
  ⟨fun σ Hi H en D _ hz => PSs.wp pss_nil (show D.nx σ H from (show ∀ σ' Hi' H', EnvOk b (Lf s) σ' Hi' H' → D.nx σ' H' from hz) σ Hi H (en.wk w))⟩
theorem js_retQ [Py R] {m : M R} {Lf : S → List En} (h : JE X K b L E e m) : JS X K b L E (.Return (some e) pos :: rest) tl (m >>= fun r => pure (.rt r) : M (Tl S R)) (pPt K b Lf) :=
  ⟨fun σ Hi H en D _ hz => PSs.wp (pss_cons (ps_ret pe_wp) pss_wp) (h.go σ Hi H en D.rt (PZ.ret en (hz.bindz.imp fun r q => q)))⟩
def partT {β : Type} (mr : S → M β) (wr : R → β) : Tl S R → M β
  | .ct s => mr s
  | .rt r => pure (wr r)
  | .bk _ => stuck
theorem js_ifT [Py R] {c : Expr} {mc : M Bool} {ma mb : M (Tl S R)} {Lf : S → List En} {mr : S → M α} {wr : R → α} (hw : ∀ r D, post (wr r) D → pRt K b r D) (h : JT X K b L E c mc) (h1 : JS X K b L E a tlAny ma (pPt K b Lf)) (h2 : JS X K b L E bb tlAny mb (pPt K b Lf)) (h3 : ∀ s, JS X K b (Lf s) E rest tl (mr s) post) :
    JS X K b L E (.If c a bb pos :: rest) tl ((mc >>= fun t => if t = true then ma else mb) >>= partT mr wr) post :=
  ⟨fun σ Hi H en D ht hz => by
    have fin : ∀ {m : M (Tl S R)} {σ' Hi' H'}, EnvOk b L σ' Hi' H' → ∀ ss, JS X K b L E ss tlAny m (pPt K b Lf) → PZ K E b (m >>= partT mr wr) (fun a => post a D) → wpB X ss { D with nx := fun σ H => wpB X rest D σ H } σ' H' := fun {m σ' Hi' H'} en' ss hj hq =>
      hj.go σ' Hi' H' en' _ trivial (hq.bindz.imp fun z k => by
        cases z with
        | ct s => exact fun σ2 Hi2 H2 en2 => (h3 s).go σ2 Hi2 H2 en2 D ht k
        | bk s => exact k.elim
        | rt r => exact hw r D k)
    rw [bind_assoc] at hz
    exact PSs.wp (pss_cons (ps_if pt_wp pss_wp pss_wp) pss_wp) (h.go σ Hi H en _ ((PZ.bind en hz).imp fun t Hi' H' x q => by
      cases t with
      | true => exact fin (en.nx x) _ h1 q
      | false => exact fin (en.nx x) _ h2 q))⟩
/-! try .. except X as e, the body one call -/
structure JC (X : Cx) (K : Fg) (b : Bs) (L : List En) (e : Expr) {α : Type} [Py α] (m : M α) : Prop where
  go : ∀ (W : WX), Takes X W → ∀ σ Hi H, EnvOk b L σ Hi H → ∀ Q : VK, PV K (WE W σ) m Hi H Q → wpE X e σ H Q
/-- the raising way: known classes, by the handler -/
def tryM {α S : Type} (cs : List Str) (sOk : α → S) (h : Str → M S) (m : M α) : M S := match m with
  | .ok a => pure (sOk a)
  | .error (.rs c) => if c ∈ cs then nr (h c) else stuck
  | .error .st => stuck
abbrev E0 : XK := fun _ _ _ => False
theorem pz_nr {m : M S} {post : S → Prop} (h : PZ K E b (nr m) post) : PZ K E0 b m post := by
  cases m with
  | ok a => exact h
  | error z => exact h.elim
theorem j1_try_core [Py α] {body1 : Stmt} {m : M α} {sOk : α → S} {hh : Str → M S} {cs : List Str} {Lf : S → List En} (ie : Nat) {n C : Str} {b₀ : Stmt} {suite : List Stmt} {Lb : α → List En}
    (hb : ∀ pn xe (W : WX), Takes (X.tr pn xe) W → ∀ σ Hi H, EnvOk b L σ Hi H → ∀ D : Ends, PX K (WE W σ) m Hi H (fun a Hi' H' => ∀ σ', EnvOk b (Lb a) σ' Hi' H' → D.nx σ' H') → wpB (X.tr pn xe) [body1] D σ H) (hw : ∀ a, Wk (Lb a) (Lf (sOk a)))
    (hx : ∀ c ∈ cs, (He.Fa.exm c C true).ok K = true)
    (hs : ∀ c ∈ cs, ∀ (a : Addr) (oe : Obj) (pn : List (Addr × Obj)), Zc (.ref (He.ga K c)) none oe → (∃ vs, oe.data = .fields vs) → JS (X.suite a ((a, oe) :: pn)) K b (L.set ie (.im (prR a))) E0 (b₀ :: suite) tlAny (hh c) (pNx b Lf))
    (gC : X.mg C = some (.ref (He.ga K C))) (hN : X.N.Nodup) (hE : ∀ s, (Lf s).set ie .no = Lf s := by intro _; rfl) (hi : X.N[ie]? = some n := by rfl) (hln : X.env.kindOf n = some .local := by rfl) (hK : X.K = K := by rfl) (hst : X.stack = X.env :: X.outer := by rfl) (hf : X.env.frame = some X.env.locals := by rfl) (hg : Gl X C := by rfl) (hd : (C == ("__debug__" : Str)) = false := by decide) :
    J1 X K b L E (.Try [body1] [.ExceptHandler (some (.Name C p2)) (some n) (b₀ :: suite) p3] [] [] pos) (tryM cs sOk hh m) Lf := by
  subst hK
  refine ⟨fun σ Hi H en D hz => PS.wp (ps_try_as (i := ie) (tb := fun W D σ H => ∀ pn xe, Takes (X.tr pn xe) W → wpB (X.tr pn xe) [body1] D σ H)
    (ts := fun a cls d D σ H => ∀ oe pn, Zc cls d oe → (∃ vs, oe.data = .fields vs) → wpB (X.suite a ((a, oe) :: pn)) (b₀ :: suite) D σ H) hst hf hN hi hln ⟨hg, hd, .inl gC⟩ takes0
    (fun W pn xe tk _ => ⟨fun pins s σ H D I h => h pn xe tk pins s I⟩) (fun a oe cls d pn hz hv => ⟨fun pins s σ H D I h => h oe pn hz hv pins s I⟩)) ?_⟩
  intro pn xe tk
  refine hb pn xe _ tk σ Hi H en D ?_
  cases m with
  | ok a => exact fun Hi' H' n σ' en' => hz σ' Hi' H' (en'.wk (hw a))
  | error z =>
    cases z with
    | st => exact hz.elim
    | rs c =>
      have hz : PZ X.K E b (if c ∈ cs then nr (hh c) else stuck) _ := hz
      by_cases hc : c ∈ cs
      · rw [if_pos hc] at hz
        intro Hi' H' nx
        refine ⟨true, He.exm_ok (hx c hc), fun _ a ha => ?_, fun q => nomatch q⟩
        intro oe pn' z1 z2
        have en1 := (en.nx nx).set (i := ie) (p := prR a) (v := .ref a) rfl
        refine (hs c hc a oe pn' z1 z2).go _ Hi' H' en1 _ trivial ((pz_nr hz).imp fun s k σ2 Hi2 H2 en2 => ?_)
        have := en2.unset (i := ie)
        rw [hE s] at this
        exact k _ Hi2 H2 this
      · rw [if_neg hc] at hz; exact hz.elim
theorem j1_tryE [Py α] {m : M α} {sOk : α → S} {hh : Str → M S} {cs : List Str} {Lf : S → List En} (ie : Nat) {n C : Str} {b₀ : Stmt} {suite : List Stmt}
    (hb : ∀ pn xe, JC (X.tr pn xe) K b L e m) (hw : ∀ a, Wk L (Lf (sOk a))) (hx : ∀ c ∈ cs, (He.Fa.exm c C true).ok K = true)
    (hs : ∀ c ∈ cs, ∀ (a : Addr) (oe : Obj) (pn : List (Addr × Obj)), Zc (.ref (He.ga K c)) none oe → (∃ vs, oe.data = .fields vs) → JS (X.suite a ((a, oe) :: pn)) K b (L.set ie (.im (prR a))) E0 (b₀ :: suite) tlAny (hh c) (pNx b Lf))
    (gC : X.mg C = some (.ref (He.ga K C))) (hN : X.N.Nodup) (hE : ∀ s, (Lf s).set ie .no = Lf s := by intro _; rfl) (hi : X.N[ie]? = some n := by rfl) (hln : X.env.kindOf n = some .local := by rfl) (hK : X.K = K := by rfl) (hst : X.stack = X.env :: X.outer := by rfl) (hf : X.env.frame = some X.env.locals := by rfl) (hg : Gl X C := by rfl) (hd : (C == ("__debug__" : Str)) = false := by decide)
    (hsw : ∀ pn xe, swapsWith e none p'.line (X.tr pn xe).env = pure false := by intro _ _; rfl) :
    J1 X K b L E (.Try [.Expr e p'] [.ExceptHandler (some (.Name C p2)) (some n) (b₀ :: suite) p3] [] [] pos) (tryM cs sOk hh m) Lf :=
  j1_try_core (Lb := fun _ => L) ie (fun pn xe W tk σ Hi H en D hq => PSs.wp (pss_one (ps_expr pe_wp (hsw pn xe))) ((hb pn xe).go W tk σ Hi H en _ (hq.imp fun a Hi' H' x q v rv => q σ (en.nx x)))) hw hx hs gC hN hE hi hln hK hst hf hg hd
theorem j1_tryS [Py α] {m : M α} {sOk : α → S} {hh : Str → M S} {cs : List Str} {Lf : S → List En} (i ie : Nat) {x n C : Str} {b₀ : Stmt} {suite : List Stmt}
    (hb : ∀ pn xe, JC (X.tr pn xe) K b L e m) (hw : ∀ a, Wk (L.set i (.im (rp K a))) (Lf (sOk a))) (hx : ∀ c ∈ cs, (He.Fa.exm c C true).ok K = true)
    (hs : ∀ c ∈ cs, ∀ (a : Addr) (oe : Obj) (pn : List (Addr × Obj)), Zc (.ref (He.ga K c)) none oe → (∃ vs, oe.data = .fields vs) → JS (X.suite a ((a, oe) :: pn)) K b (L.set ie (.im (prR a))) E0 (b₀ :: suite) tlAny (hh c) (pNx b Lf))
    (gC : X.mg C = some (.ref (He.ga K C))) (hN : X.N.Nodup) (hE : ∀ s, (Lf s).set ie .no = Lf s := by intro _; rfl) (hi : X.N[ie]? = some n := by rfl) (hln : X.env.kindOf n = some .local := by rfl) (hK : X.K = K := by rfl) (hst : X.stack = X.env :: X.outer := by rfl) (hf : X.env.frame = some X.env.locals := by rfl) (hg : Gl X C := by rfl) (hd : (C == ("__debug__" : Str)) = false := by decide)
    (hi2 : X.N[i]? = some x := by rfl) (hlx : Loc X.env.scope x := by first | exact Or.inl rfl | exact Or.inr rfl) (hsw : ∀ pn xe, swapsWith e (some (.Name x p4)) p'.line (X.tr pn xe).env = pure false := by intro _ _; rfl) (hfx : X.fn x = true ∨ X.env.scope.names.lookup x = some .local := by first | exact .inl rfl | exact .inr rfl) :
    J1 X K b L E (.Try [.Assign [.Name x p4] e p'] [.ExceptHandler (some (.Name C p2)) (some n) (b₀ :: suite) p3] [] [] pos) (tryM cs sOk hh m) Lf :=
  j1_try_core (Lb := fun a => L.set i (.im (rp K a))) ie (fun pn xe W tk σ Hi H en D hq => PSs.wp (pss_one (ps_set (X := X.tr pn xe) hN hi2 hlx pe_wp (hsw pn xe) hfx)) ((hb pn xe).go W tk σ Hi H en _ (hq.imp fun a Hi' H' y q v rv => q _ ((en.nx y).set (p := rp K a) rv)))) hw hx hs gC hN hE hi hln hK hst hf hg hd
theorem jc_call1 {α0 ρ : Type} [Py α0] [Py ρ] {e0 : Expr} {m0 : M α0} {f : α0 → M ρ} {x : Str} {p : Pos} {k : Nat} (F : OkF X.prog X.w X.K X.mg X.base x k (sp1 K f)) (hr : Room k X.A) (h0 : ∀ E, JE X K b L E e0 m0) (hg : Gl X x := by rfl) (hdb : (x == ("__debug__" : Str)) = false := by decide) (s0 : starEach [e0] X.env = (false, eval e0 X.env) :: starEach [] X.env := by rfl) (hpl : (backTo pos (starEach [] X.env)).any (·.1) = false := by rfl) : JC X K b L (.Call (.Name x p) [e0] [] pos) (m0 >>= fun a0 => f a0) := by
  obtain ⟨fa, fd, ps, F1, F2, F3, F4⟩ := F.ex
  refine ⟨fun W tk σ Hi H en Q h => PE.wp (pe_callS F3 hr hg F1 F2 F4 (fun σ => passAt tk σ) (pa_cons pe_wp pa_nil s0) hdb s0 hpl) ?_⟩
  refine (h0 (WE W σ)).go σ Hi H en _ (PX.imp (PX.bind h) fun a0 Hi1 H1 n1 k1 v0 r0 => ?_)
  exact ⟨a0, v0, _, rfl, n1.sub, r0, k1⟩
/-- isinstance of the error that the suite holds -/
def excB (K : Fg) (c : Str) : Bool := decide (PySem.W.findIn K (.ref (He.ga K c)) "__getattribute__" = some (some (.builtin "BaseException.__getattribute__"))) && (decide (PySem.W.findIn K (.ref (He.ga K c)) "__getattr__" = some none) && (decide (PySem.W.subIn K (.ref (He.ga K c)) (.type "BaseException") = some true) && (PySem.W.hasDictIn K (He.ga K c) &&
  (decide (PySem.W.findIn K (.ref (He.ga K c)) "__class__" = some (some (.builtin "object.__class__"))) && (decide (PySem.W.specialIn K (.builtin "object.__class__") "__get__" = some (some (.builtin "getset_descriptor.__get__"))) && (decide (PySem.W.takesIn K (.builtin "object.__class__") = some true) && decide (PySem.W.mroIn K (He.ga K c) (.type "object") = some true)))))))
theorem excB_ok {c : Str} (h : excB K c = true) : ExcC K (He.ga K c) := by
  unfold excB at h
  simp only [Bool.and_eq_true, decide_eq_true_eq] at h
  obtain ⟨h1, h2, h3, h4, h5, h6, h7, h8⟩ := h
  exact ⟨h1, h2, h3, h4, h5, h6, h7, h8⟩
def kitOwnB (K : Fg) (c y : Str) (r : Bool) : Bool := decide (PySem.W.kitOne K (.ref (He.ga K c)) (.ref (He.ga K y)) = some r)
def kitTyB (K : Fg) (c : Str) (y : String) (r : Bool) : Bool := decide (PySem.W.kitOne K (.ref (He.ga K c)) (.type y) = some r)
theorem je_isE {a : Addr} {oe : Obj} {pn : List (Addr × Obj)} {c y n : Str} {r : Bool} (ie : Nat) (C : excB K c = true) (hz : Zc (.ref (He.ga K c)) none oe) (hv : ∃ vs, oe.data = .fields vs) (hk : kitOwnB K c y r = true) (hm : mg "isinstance" = none) (hm2 : mg y = some (.ref (He.ga K y)))
    (hL : L[ie]? = some (.im (prR a)) := by rfl) (hN : X.N[ie]? = some n := by rfl) (hvs : Vis X.env.scope n := by first | exact Or.inl rfl | exact Or.inr (Or.inl rfl) | exact Or.inr (Or.inr rfl)) (hdn : (n == ("__debug__" : Str)) = false := by decide) (hcd : (n == ("__classdict__" : Str)) = false := by decide)
    (hK : X.K = K := by rfl) (hM : X.mg = mg := by rfl) (hg : Gl X "isinstance" := by rfl) (hg2 : Gl X y := by rfl) (hd : (y == ("__debug__" : Str)) = false := by decide)
    (he : starEach [.Name n p4, .Name y p2] X.env = (false, eval (.Name n p4) X.env) :: starEach [.Name y p2] X.env := by rfl) (he2 : starEach [.Name y p2] X.env = (false, eval (.Name y p2) X.env) :: starEach [] X.env := by rfl)
    (hpl : (backTo pos (starEach [.Name y p2] X.env)).any (·.1) = false := by rfl) : JE (X.suite a ((a, oe) :: pn)) K b L E0 (.Call (.Name "isinstance" p3) [.Name n p4, .Name y p2] [] pos) (pure r : M Bool) := by
  subst hK
  refine .of ⟨_, pe_callB (call_isE (excB_ok C) hz hv) hg (by rw [hM]; exact hm) bt_isinstance (pa_cons (pe_var hN hvs hdn hcd) (pa_cons (pe_glob (v := .ref (He.ga X.K y)) hg2 (by rw [hM]; exact hm2) rfl hd) pa_nil he2) he) (by decide) (by decide) he hpl, fun σ Hi H en Q hq => ?_⟩
  obtain ⟨v, e0, e1⟩ := en.im ie _ hL
  have e1 : v = V.ref a := e1
  subst e1
  exact ⟨_, e0, .ref (He.ga X.K y), .ref (He.ga X.K y), r, rfl, fun u r => r, of_decide_eq_true hk, hq.here en.sub _ rfl⟩
theorem je_isET {a : Addr} {oe : Obj} {pn : List (Addr × Obj)} {c n : Str} {T : String} {r : Bool} (ie : Nat) (C : excB K c = true) (hz : Zc (.ref (He.ga K c)) none oe) (hv : ∃ vs, oe.data = .fields vs) (hk : kitTyB K c T r = true) (hm : mg "isinstance" = none) (hm2 : mg (Str.ofString T) = none) (hb : bootBuiltins (Str.ofString T) = some (.type T))
    (hL : L[ie]? = some (.im (prR a)) := by rfl) (hN : X.N[ie]? = some n := by rfl) (hvs : Vis X.env.scope n := by first | exact Or.inl rfl | exact Or.inr (Or.inl rfl) | exact Or.inr (Or.inr rfl)) (hdn : (n == ("__debug__" : Str)) = false := by decide) (hcd : (n == ("__classdict__" : Str)) = false := by decide)
    (hK : X.K = K := by rfl) (hM : X.mg = mg := by rfl) (hg : Gl X "isinstance" := by rfl) (hg2 : Gl X (Str.ofString T) := by rfl) (hn : Str.ofString T ≠ "__name__" := by decide) (hd : (Str.ofString T == ("__debug__" : Str)) = false := by decide)
    (he : starEach [.Name n p4, .Name (Str.ofString T) p2] X.env = (false, eval (.Name n p4) X.env) :: starEach [.Name (Str.ofString T) p2] X.env := by rfl) (he2 : starEach [.Name (Str.ofString T) p2] X.env = (false, eval (.Name (Str.ofString T) p2) X.env) :: starEach [] X.env := by rfl)
    (hpl : (backTo pos (starEach [.Name (Str.ofString T) p2] X.env)).any (·.1) = false := by rfl) : JE (X.suite a ((a, oe) :: pn)) K b L E0 (.Call (.Name "isinstance" p3) [.Name n p4, .Name (Str.ofString T) p2] [] pos) (pure r : M Bool) := by
  subst hK
  refine .of ⟨_, pe_callB (call_isE (excB_ok C) hz hv) hg (by rw [hM]; exact hm) bt_isinstance (pa_cons (pe_var hN hvs hdn hcd) (pa_cons (pe_bltn (v := .ty T) hg2 (by rw [hM]; exact hm2) hb rfl hn hd) pa_nil he2) he) (by decide) (by decide) he hpl, fun σ Hi H en Q hq => ?_⟩
  obtain ⟨v, e0, e1⟩ := en.im ie _ hL
  have e1 : v = V.ref a := e1
  subst e1
  exact ⟨_, e0, .ty T, .type T, r, rfl, fun u r => r, of_decide_eq_true hk, hq.here en.sub _ rfl⟩
/-! texts -/
def findT (x y : Tx) : Int := Txt.find (G.S x) (G.S y)
theorem rm_find : RM1 K E (fun x xs H Q => ∃ a b, x = .str a ∧ xs = [.str b] ∧ Q (.int (Txt.find a b)) H) (fun x y : Tx => (pure (findT x y) : M Int)) := by
  rintro x y v w Hi H Q s rfl rfl h
  exact ⟨G.S x, G.S y, rfl, rfl, h.here s _ rfl⟩
def stripT (x y : Tx) : M Tx := chk (x.length ≤ SZ) >>= fun _ => pure (Txt.stripChars (G.S x) (G.S y)).cps.toList
theorem rm_strip : RM1 K E (fun x xs H Q => ∃ a b, x = .str a ∧ xs = [.str b] ∧ a.length ≤ sizeLine ∧ Q (.str (Txt.stripChars a b)) H) stripT := by
  rintro x y v w Hi H Q s rfl rfl h
  obtain ⟨c, h⟩ := PX.chk h
  exact ⟨G.S x, G.S y, rfl, rfl, by rw [S_length]; exact c, h.here s _ rfl⟩
/-- the greatest of a list of numbers -/
def maxL : List Int → M Int
  | [] => stuck
  | x :: xs => pure (xs.foldl (fun a c => if a < c then c else a) x)
theorem foldmax : ∀ (xs : List Int) (x : Int), (xs.foldl (fun a c => if a < c then c else a) x) ∈ x :: xs ∧ ∀ y ∈ x :: xs, y ≤ xs.foldl (fun a c => if a < c then c else a) x
  | [], x => ⟨List.mem_cons_self .., fun y hy => (List.mem_cons.mp hy).elim (fun h => h ▸ Int.le_refl _) fun h => nomatch h⟩
  | z :: xs, x => by
    obtain ⟨h1, h2⟩ := foldmax xs (if x < z then z else x)
    refine ⟨?_, fun y hy => ?_⟩
    · rcases List.mem_cons.mp h1 with h | h
      · show List.foldl _ (if x < z then z else x) xs ∈ _
        rw [h]
        by_cases hz : x < z
        · rw [if_pos hz]; exact List.mem_cons_of_mem _ (List.mem_cons_self ..)
        · rw [if_neg hz]; exact List.mem_cons_self ..
      · exact List.mem_cons_of_mem _ (List.mem_cons_of_mem _ h)
    · have hm := h2 _ (List.mem_cons_self ..)
      show y ≤ List.foldl _ (if x < z then z else x) xs
      rcases List.mem_cons.mp hy with h | h
      · subst h
        by_cases hz : y < z
        · rw [if_pos hz] at hm ⊢; omega
        · rw [if_neg hz] at hm ⊢; exact hm
      · rcases List.mem_cons.mp h with h | h
        · subst h
          by_cases hz : x < y
          · rw [if_pos hz] at hm ⊢; exact hm
          · rw [if_neg hz] at hm ⊢; omega
        · exact h2 y (List.mem_cons_of_mem _ h)
theorem ra_max (hK : X.K = K := by rfl) : RA1 K E (rMax X.K) maxL := by
  subst hK
  rintro xs v Hi H Q s ⟨p, vs, rfl, h1, h2⟩ h
  cases xs with
  | nil => exact h.elim
  | cons x xs =>
    have e := h2.ints
    subst e
    refine ⟨p, x :: xs, rfl, Same.seq s h1, by rw [List.length_cons]; omega, fun m hm hle => ?_⟩
    obtain ⟨g1, g2⟩ := foldmax xs x
    have : m = xs.foldl (fun a c => if a < c then c else a) x := Int.le_antisymm (g2 m hm) (hle _ g1)
    subst this
    exact h.here s _ rfl
end
end G

set_option Elab.async false
set_option linter.all false
set_option maxRecDepth 100000
set_option maxHeartbeats 2000000
namespace G
open PySem L2 TL
theorem bt_ValueError : bootBuiltins "ValueError" = some (.type "ValueError") := by decide +kernel
section
variable {X : Cx} {K : Fg} {mg : Str → Option Value} {b : Bs} {L L' : List En} {E : XK} {e e1 e2 : Expr} {st : Stmt} {rest body a bb : List Stmt} {α β γ S R : Type} {pos p' p2 p3 p4 : Pos} {tl : Ends → Prop} {post : α → Ends → Prop}
theorem js_if1Q [Py R] {c : Expr} {mc : M Bool} {ma : M R} {mr : M (Tl S R)} {Lf : S → List En} (h : JT X K b L E c mc) (h1 : JS X K b L E a tlAny ma (pRt K b)) (h2 : JS X K b L E rest tl mr (pPt K b Lf)) :
    JS X K b L E (.If c a [] pos :: rest) tl (mc >>= fun t => if t = true then (ma >>= fun r => pure (.rt r)) else mr) (pPt K b Lf) :=
  ⟨fun σ Hi H en D ht hz => PSs.wp (pss_cons (ps_if pt_wp pss_wp pss_nil) pss_wp) (h.go σ Hi H en _ ((PZ.bind en hz).imp fun t Hi' H' x q => by
    cases t with
    | true =>
      rw [if_pos rfl] at q ⊢
      exact h1.go σ Hi' H' (en.nx x) _ trivial (q.bindz.imp fun a h => h)
    | false =>
      rw [if_neg Bool.false_ne_true] at q ⊢
      exact h2.go σ Hi' H' (en.nx x) D ht q))⟩
end
end G

set_option Elab.async false
set_option linter.all false
set_option maxRecDepth 100000
set_option maxHeartbeats 2000000
namespace G
open PySem L2 TL
/-! ### plain lemmas about the mirrors -/
theorem okb {α β : Type} {a : α} {f : α → M β} : ((Except.ok a : M α) >>= f) = f a := rfl
theorem chk_t {p : Prop} [Decidable p] (h : p) : chk p = pure () := by unfold chk; rw [if_pos h]
theorem chk_b {p : Prop} [Decidable p] {α : Type} {f : Unit → M α} (h : p) : (chk p >>= f) = f () := by rw [chk_t h]; rfl
theorem modI_ok {i j : Int} (h : 0 < j) : modI i j = pure (i % j) := by unfold modI; rw [chk_t h]; rfl
theorem divI_ok {i j : Int} (h : 0 < j) (h2 : j < 1073741824) : divI i j = pure (i / j) := by unfold divI; rw [chk_t ⟨h, h2⟩]; rfl
theorem mulI_l {i j : Int} (h : -(2 ^ 64) < i) (h2 : i < 2 ^ 64) : mulI i j = pure (i * j) := by unfold mulI; rw [chk_t (.inl ⟨h, h2⟩)]; rfl
theorem mulI_r {i j : Int} (h : -(2 ^ 64) < j) (h2 : j < 2 ^ 64) : mulI i j = pure (i * j) := by unfold mulI; rw [chk_t (.inr ⟨h, h2⟩)]; rfl
theorem addT_ok {a c : Tx} (h : a.length + c.length ≤ SZ) : addT a c = pure (a ++ c) := by unfold addT; rw [chk_t h]; rfl
theorem lenT_ok {a : Tx} (h : a.length ≤ SZ) : lenT a = pure (a.length : Int) := by unfold lenT; rw [chk_t h]; rfl
theorem inS_one {c : Nat} {t : Tx} : inS [c] t = pure (decide (c ∈ t)) := rfl
theorem ixN_nat {n : Nat} {i : Int} (h0 : 0 ≤ i) (h : i < n) : ixN n i = some i.toNat := by unfold ixN; rw [if_pos h0, if_pos h]
theorem atI_some {α : Type} {xs : List α} {i : Int} (h0 : 0 ≤ i) (h : i < xs.length) : ∃ a, atI xs i = some a ∧ xs[i.toNat]? = some a := by
  unfold atI
  rw [ixN_nat h0 h]
  have hl : i.toNat < xs.length := by omega
  exact ⟨xs[i.toNat], List.getElem?_eq_getElem hl, List.getElem?_eq_getElem hl⟩
theorem atL_ok {α : Type} {xs : List α} {i : Int} (h0 : 0 ≤ i) (h : i < xs.length) : ∃ a, atL xs i = pure a ∧ a ∈ xs := by
  obtain ⟨a, e, e2⟩ := atI_some h0 h
  exact ⟨a, by unfold atL; rw [e]; rfl, List.mem_of_getElem? e2⟩
theorem atT_ok {x : Tx} {i : Int} (h0 : 0 ≤ i) (h : i < x.length) (hz : x.length ≤ SZ) : ∃ c, atT x i = pure [c] ∧ x[i.toNat]? = some c := by
  obtain ⟨a, e, e2⟩ := atI_some h0 h
  exact ⟨a, by unfold atT; rw [chk_t hz, e]; rfl, e2⟩
/-- it comes to an end that is so -/
def Okp {α : Type} (m : M α) (P : α → Prop) : Prop := ∃ a, m = .ok a ∧ P a
section
variable {α β : Type} {m : M α} {f : α → M β} {P : α → Prop} {Q : β → Prop}
theorem Okp.bind (h : Okp m P) (k : ∀ a, P a → Okp (f a) Q) : Okp (m >>= f) Q := by
  obtain ⟨a, rfl, p⟩ := h
  exact k a p
theorem Okp.pure {a : α} (h : P a) : Okp (pure a) P := ⟨a, rfl, h⟩
theorem Okp.chk {p : Prop} [Decidable p] {g : Unit → M β} (h : p) (k : Okp (g ()) Q) : Okp (chk p >>= g) Q := by rw [chk_b h]; exact k
theorem Okp.imp {P' : α → Prop} (h : Okp m P) (k : ∀ a, P a → P' a) : Okp m P' := let ⟨a, e, p⟩ := h; ⟨a, e, k a p⟩
theorem mapE_ok {f : α → M β} : ∀ {xs : List α}, (∀ x ∈ xs, Okp (f x) Q) → Okp (mapE f xs) fun ys => ys.length = xs.length ∧ ∀ y ∈ ys, Q y
  | [], _ => ⟨[], rfl, rfl, fun y h => nomatch h⟩
  | x :: xs, h => by
    obtain ⟨y, e, q⟩ := h x (List.mem_cons_self ..)
    obtain ⟨ys, e2, l, q2⟩ := mapE_ok (xs := xs) fun z hz => h z (List.mem_cons_of_mem _ hz)
    refine ⟨y :: ys, by unfold mapE; rw [e, e2]; rfl, by rw [List.length_cons, List.length_cons, l], fun z hz => ?_⟩
    rcases List.mem_cons.mp hz with e | hz
    · rw [e]; exact q
    · exact q2 z hz
theorem lc_ok {f : α → M β} {xs : List α} (hl : xs.length ≤ SZ) (h : ∀ x ∈ xs, Okp (f x) Q) : Okp (lc f xs) fun ys => ys.length = xs.length ∧ ∀ y ∈ ys, Q y := by
  obtain ⟨ys, e, q⟩ := mapE_ok h
  exact ⟨ys, by unfold lc; rw [chk_b hl, e]; rfl, q⟩
/-- .. with its value -/
theorem mapE_map {f : α → M β} {g : α → β} : ∀ {xs : List α}, (∀ x ∈ xs, f x = .ok (g x)) → mapE f xs = .ok (xs.map g)
  | [], _ => rfl
  | x :: xs, h => by
    unfold mapE
    rw [h x (List.mem_cons_self ..), mapE_map (g := g) fun z hz => h z (List.mem_cons_of_mem _ hz)]
    rfl
theorem lc_map {f : α → M β} {g : α → β} {xs : List α} (hl : xs.length ≤ SZ) (h : ∀ x ∈ xs, f x = .ok (g x)) : lc f xs = .ok (xs.map g) := by
  unfold lc
  rw [chk_b hl, mapE_map h]
  rfl
theorem filE_fil {t : α → M Bool} {p : α → Bool} {f : α → M β} {g : α → β} : ∀ {xs : List α}, (∀ x ∈ xs, t x = .ok (p x)) → (∀ x ∈ xs, p x = true → f x = .ok (g x)) → filE t f xs = .ok ((xs.filter p).map g)
  | [], _, _ => rfl
  | x :: xs, h, h2 => by
    have ih := filE_fil (xs := xs) (t := t) (p := p) (f := f) (g := g) (fun z hz => h z (List.mem_cons_of_mem _ hz)) (fun z hz => h2 z (List.mem_cons_of_mem _ hz))
    unfold filE
    rw [h x (List.mem_cons_self ..), ih]
    show (if p x = true then _ else _) = _
    cases hp : p x with
    | true =>
      rw [if_pos rfl, h2 x (List.mem_cons_self ..) hp, List.filter_cons_of_pos hp]
      rfl
    | false =>
      rw [if_neg Bool.false_ne_true, List.filter_cons_of_neg (by rw [hp]; exact Bool.false_ne_true)]
theorem lf_fil {t : α → M Bool} {p : α → Bool} {f : α → M β} {g : α → β} {xs : List α} (hl : xs.length ≤ SZ) (h : ∀ x ∈ xs, t x = .ok (p x)) (h2 : ∀ x ∈ xs, p x = true → f x = .ok (g x)) : lf t f xs = .ok ((xs.filter p).map g) := by
  unfold lf
  rw [chk_b hl, filE_fil h h2]
  rfl
/-- a search: the first item that answers -/
theorem forT_search {R : Type} {f : Unit → α → M (Tl Unit R)} {p : α → Bool} {r : R} : ∀ {xs : List α}, (∀ x ∈ xs, f () x = .ok (if p x = true then .rt r else .ct ())) → forT f () xs = .ok (if xs.any p = true then .inr r else .inl ())
  | [], _ => rfl
  | x :: xs, h => by
    unfold forT
    rw [h x (List.mem_cons_self ..), List.any_cons]
    cases hp : p x with
    | true => rfl
    | false =>
      show forT f () xs = _
      rw [forT_search (p := p) (r := r) fun z hz => h z (List.mem_cons_of_mem _ hz)]
      rfl
end
theorem SZ_val : SZ = 16777216 := sizeLine_eq
theorem joinL_len : ∀ (s : Tx) (xs : List Tx), (joinL s xs).length ≤ (xs.map (·.length)).sum + xs.length * s.length
  | s, [] => by simp [joinL]
  | s, [x] => by simp [joinL]
  | s, x :: y :: r => by
    have ih := joinL_len s (y :: r)
    have e : joinL s (x :: y :: r) = x ++ (s ++ joinL s (y :: r)) := rfl
    rw [e, List.length_append, List.length_append, List.map_cons, List.sum_cons]
    have : (x :: y :: r).length * s.length = s.length + (y :: r).length * s.length := by
      rw [List.length_cons, Nat.add_mul]; omega
    omega
theorem sum_le {k : Nat} : ∀ {xs : List Tx}, (∀ x ∈ xs, x.length ≤ k) → (xs.map (·.length)).sum ≤ xs.length * k
  | [], _ => by simp
  | x :: xs, h => by
    have ih := sum_le (k := k) (xs := xs) fun z hz => h z (List.mem_cons_of_mem _ hz)
    have h1 := h x (List.mem_cons_self ..)
    rw [List.map_cons, List.sum_cons, List.length_cons, Nat.add_mul]
    omega
theorem joinM_ok {s : Tx} {xs : List Tx} (h : (xs.map (·.length)).sum + xs.length * s.length ≤ 16777216) : joinM s xs = .ok (joinL s xs) := by unfold joinM; rw [chk_b h]; rfl
theorem cut_len {α : Type} (xs : List α) (lo hi : Option Int) : (cut xs lo hi).length ≤ xs.length := by
  unfold cut
  rw [List.length_take, List.length_drop]; omega
theorem rangeL_len (lo : Int) (n : Nat) : (rangeL lo n).length = n := by unfold rangeL; rw [List.length_map, List.length_range]
theorem range1_ok {n : Int} (h : -(2 ^ 62) ≤ n) (h2 : n < 2 ^ 62) : range1 n = .ok (rangeL 0 n.toNat) := by unfold range1; rw [chk_b ⟨h, h2⟩]; rfl
theorem mem_rangeL {lo : Int} {n : Nat} {x : Int} (h : x ∈ rangeL lo n) : lo ≤ x ∧ x < lo + n := by
  unfold rangeL at h
  obtain ⟨i, hi, rfl⟩ := List.mem_map.mp h
  have := List.mem_range.mp hi
  omega
end G

set_option Elab.async false
set_option linter.all false
set_option maxRecDepth 100000
set_option maxHeartbeats 4000000
namespace Q
open PySem L2 G
def top (i : Nat) : Stmt := PySem.Challenge.pw_poolrules_k03_rows_of_facts_read.main.body.getD i (.Pass ⟨0, 0, 0, 0⟩)
abbrev exc_PoolError : List Str := ["NoLine"]
def isx (c y : Str) : Bool := ([("NoLine", "NoLine"), ("NoLine", "ValueError")] : List (Str × Str)).contains (c, y)
/-! the mirrors -/
def m_is_name (p0 : Tx) : M Bool :=
  ((((pure (1 : Int) : M Int) >>= fun x2 => ((pure p0 : M Tx) >>= fun x1 => lenT x1) >>= fun y3 => (pure (decide (x2 ≤ y3)) : M Bool) >>= fun c5 => if c5 = true then (pure (12 : Int) : M Int) >>= fun z4 => (pure (decide (y3 ≤ z4)) : M Bool) else pure false) >>= fun c6 => pure (!c6)) >>= fun c7 => if c7 = true then (pure false : M Bool) else
  (((pure p0 : M Tx) >>= fun x8 => pure (signs x8)) >>= fun l11 => forT (fun (s9 : Unit) (e10 : Tx) => ((((pure e10 : M Tx) >>= fun x15 => (pure (tx "abcdefghijklmnopqrstuvwxyz") : M Tx) >>= fun y16 => (inS x15 y16 >>= fun c17 => pure (!c17))) >>= fun c25 => if c25 = true then (((pure e10 : M Tx) >>= fun x18 => (pure (tx "ABCDEFGHIJKLMNOPQRSTUVWXYZ") : M Tx) >>= fun y19 => (inS x18 y19 >>= fun c20 => pure (!c20))) >>= fun c24 => if c24 = true then ((pure e10 : M Tx) >>= fun x21 => (pure (tx "0123456789") : M Tx) >>= fun y22 => (inS x21 y22 >>= fun c23 => pure (!c23))) else pure false) else pure false) >>= fun c26 => if c26 = true then ((pure false : M Bool) >>= fun r27 => (pure (.rt r27) : M (Tl Unit Bool))) else (pure (.ct ()) : M (Tl Unit Bool)))) () l11 >>= thenT (fun s9 =>
  (pure true : M Bool)) id))

def m_is_kind (p0 : Tx) : M Bool :=
  (((pure p0 : M Tx) >>= fun x1 => m_is_name x1) >>= fun c6 => if c6 = true then (((pure p0 : M Tx) >>= fun x2 => (pure (0 : Int) : M Int) >>= fun y3 => atT x2 y3) >>= fun x4 => (pure (tx "abcdefghijklmnopqrstuvwxyz") : M Tx) >>= fun y5 => inS x4 y5) else pure false)

def m_pieces (p0 : Tx) : M (List Tx) :=
  ((pure [] : M (List Tx)) >>= fun a1 =>
  ((pure (tx "") : M Tx) >>= fun a2 =>
  ((((pure p0 : M Tx) >>= fun x3 => pure (signs x3)) >>= fun l6 => forB (fun (s4 : ((List Tx) × Tx)) (e5 : Tx) => ((((pure e5 : M Tx) >>= fun x10 => (pure (tx "abcdefghijklmnopqrstuvwxyz") : M Tx) >>= fun y11 => inS x10 y11) >>= fun c17 => if c17 = true then pure true else (((pure e5 : M Tx) >>= fun x12 => (pure (tx "ABCDEFGHIJKLMNOPQRSTUVWXYZ") : M Tx) >>= fun y13 => inS x12 y13) >>= fun c16 => if c16 = true then pure true else ((pure e5 : M Tx) >>= fun x14 => (pure (tx "0123456789") : M Tx) >>= fun y15 => inS x14 y15))) >>= fun c18 => if c18 = true then (((pure e5 : M Tx) >>= fun y20 => addT s4.2 y20) >>= fun a19 =>
  (pure (.ct (s4.1, a19)) : M (Tl ((List Tx) × Tx) No))) else
  ((((pure s4.2 : M Tx) >>= fun x21 => (pure (tx "") : M Tx) >>= fun y22 => (pure (!decide (x21 = y22)) : M Bool)) >>= fun c23 => if c23 = true then (((pure s4.2 : M Tx) >>= fun a26 => chk (s4.1.length < SZ) >>= fun _u27 => pure a26) >>= fun a25 =>
  ((pure (tx "") : M Tx) >>= fun a28 =>
  (pure ((s4.1 ++ [a25]), a28) : M ((List Tx) × Tx)))) else (pure (s4.1, s4.2) : M ((List Tx) × Tx))) >>= fun s24 =>
  (((pure e5 : M Tx) >>= fun x29 => (pure (tx "(),;:=-") : M Tx) >>= fun y30 => inS x29 y30) >>= fun c31 => if c31 = true then (((pure e5 : M Tx) >>= fun a33 => chk (s24.1.length < SZ) >>= fun _u34 => pure a33) >>= fun a32 =>
  (pure (.ct ((s24.1 ++ [a32]), s24.2)) : M (Tl ((List Tx) × Tx) No))) else (((pure e5 : M Tx) >>= fun x35 => (pure (tx " ") : M Tx) >>= fun y36 => (pure (!decide (x35 = y36)) : M Bool)) >>= fun c37 => if c37 = true then (raise "NoLine" : M (Tl ((List Tx) × Tx) No)) else (pure (.ct (s24.1, s24.2)) : M (Tl ((List Tx) × Tx) No))))))) (a1, a2) l6) >>= fun s4 =>
  ((((pure s4.2 : M Tx) >>= fun x38 => (pure (tx "") : M Tx) >>= fun y39 => (pure (!decide (x38 = y39)) : M Bool)) >>= fun c40 => if c40 = true then (((pure s4.2 : M Tx) >>= fun a43 => chk (s4.1.length < SZ) >>= fun _u44 => pure a43) >>= fun a42 =>
  (pure (s4.1 ++ [a42]) : M (List Tx))) else (pure s4.1 : M (List Tx))) >>= fun s41 =>
  (pure s41 : M (List Tx))))))

def m_piece_at (p0 : (List Tx)) (p1 : Int) : M Tx :=
  (((pure p1 : M Int) >>= fun x2 => ((pure p0 : M (List Tx)) >>= fun x1 => (pure (x1.length : Int) : M Int)) >>= fun y3 => (pure (decide (x2 < y3)) : M Bool)) >>= fun c4 => if c4 = true then ((pure p0 : M (List Tx)) >>= fun x5 => (pure p1 : M Int) >>= fun y6 => atL x5 y6) else
  (pure (tx "") : M Tx))

def m_take_arguments (p0 : (List Tx)) (p1 : Int) : M ((Tup Tx) × Int) :=
  ((((pure p0 : M (List Tx)) >>= fun x1 => (pure p1 : M Int) >>= fun x2 => m_piece_at x1 x2) >>= fun x3 => (pure (tx ")") : M Tx) >>= fun y4 => (pure (decide (x3 = y4)) : M Bool)) >>= fun c5 => if c5 = true then (((pure [] : M (List Tx)) >>= fun x6 => (pure x6 : M (Tup Tx))) >>= fun x9 => ((pure p1 : M Int) >>= fun x7 => (pure (1 : Int) : M Int) >>= fun y8 => (pure (x7 + y8) : M Int)) >>= fun x10 => pure (x9, x10)) else
  ((pure [] : M (List Tx)) >>= fun a11 =>
  (whT (fun (s12 : (Int × (List Tx))) => (pure true : M Bool)) (fun (s12 : (Int × (List Tx))) => (((pure p0 : M (List Tx)) >>= fun x16 => (pure s12.1 : M Int) >>= fun x17 => m_piece_at x16 x17) >>= fun a15 =>
  ((((pure a15 : M Tx) >>= fun x18 => m_is_name x18) >>= fun c19 => pure (!c19)) >>= fun c20 => if c20 = true then (raise "NoLine" : M (Tl (Int × (List Tx)) ((Tup Tx) × Int))) else
  (((pure a15 : M Tx) >>= fun a22 => chk (s12.2.length < SZ) >>= fun _u23 => pure a22) >>= fun a21 =>
  (((pure p0 : M (List Tx)) >>= fun x27 => ((pure s12.1 : M Int) >>= fun x25 => (pure (1 : Int) : M Int) >>= fun y26 => (pure (x25 + y26) : M Int)) >>= fun x28 => m_piece_at x27 x28) >>= fun a24 =>
  (((pure (2 : Int) : M Int) >>= fun y30 => (pure (s12.1 + y30) : M Int)) >>= fun a29 =>
  (((pure a24 : M Tx) >>= fun x31 => (pure (tx ")") : M Tx) >>= fun y32 => (pure (decide (x31 = y32)) : M Bool)) >>= fun c33 => if c33 = true then ((((pure (s12.2 ++ [a21]) : M (List Tx)) >>= fun x34 => (pure x34 : M (Tup Tx))) >>= fun x35 => (pure a29 : M Int) >>= fun x36 => pure (x35, x36)) >>= fun r37 => (pure (.rt r37) : M (Tl (Int × (List Tx)) ((Tup Tx) × Int)))) else
  (((pure a24 : M Tx) >>= fun x38 => (pure (tx ",") : M Tx) >>= fun y39 => (pure (!decide (x38 = y39)) : M Bool)) >>= fun c40 => if c40 = true then (raise "NoLine" : M (Tl (Int × (List Tx)) ((Tup Tx) × Int))) else (pure (.ct (a29, (s12.2 ++ [a21]))) : M (Tl (Int × (List Tx)) ((Tup Tx) × Int))))))))))) FUEL (p1, a11) >>= thenT (fun s12 =>
  (stuck : M ((Tup Tx) × Int))) id)))

def m_take_fact (p0 : (List Tx)) (p1 : Int) : M ((Tx × (Tup Tx)) × Int) :=
  (((pure p0 : M (List Tx)) >>= fun x2 => (pure p1 : M Int) >>= fun x3 => m_piece_at x2 x3) >>= fun a1 =>
  ((((pure a1 : M Tx) >>= fun x4 => m_is_kind x4) >>= fun c5 => pure (!c5)) >>= fun c6 => if c6 = true then (raise "NoLine" : M ((Tx × (Tup Tx)) × Int)) else
  ((((pure p0 : M (List Tx)) >>= fun x9 => ((pure p1 : M Int) >>= fun x7 => (pure (1 : Int) : M Int) >>= fun y8 => (pure (x7 + y8) : M Int)) >>= fun x10 => m_piece_at x9 x10) >>= fun x11 => (pure (tx "(") : M Tx) >>= fun y12 => (pure (!decide (x11 = y12)) : M Bool)) >>= fun c13 => if c13 = true then (((pure a1 : M Tx) >>= fun x15 => ((pure [] : M (List Tx)) >>= fun x14 => (pure x14 : M (Tup Tx))) >>= fun x16 => pure (x15, x16)) >>= fun x19 => ((pure p1 : M Int) >>= fun x17 => (pure (1 : Int) : M Int) >>= fun y18 => (pure (x17 + y18) : M Int)) >>= fun x20 => pure (x19, x20)) else
  (((pure p0 : M (List Tx)) >>= fun x24 => ((pure p1 : M Int) >>= fun x22 => (pure (2 : Int) : M Int) >>= fun y23 => (pure (x22 + y23) : M Int)) >>= fun x25 => m_take_arguments x24 x25) >>= fun a21 =>
  (((pure a1 : M Tx) >>= fun x28 => ((pure a21 : M ((Tup Tx) × Int)) >>= fun x26 => pure x26.1) >>= fun x29 => pure (x28, x29)) >>= fun x32 => ((pure a21 : M ((Tup Tx) × Int)) >>= fun x30 => pure x30.2) >>= fun x33 => pure (x32, x33))))))

def m_take_facts (p0 : (List Tx)) (p1 : Int) : M ((List (Tx × (Tup Tx))) × Int) :=
  ((pure [] : M (List (Tx × (Tup Tx)))) >>= fun a1 =>
  (whT (fun (s2 : (Int × (List (Tx × (Tup Tx))))) => (pure true : M Bool)) (fun (s2 : (Int × (List (Tx × (Tup Tx))))) => (((pure p0 : M (List Tx)) >>= fun x6 => (pure s2.1 : M Int) >>= fun x7 => m_take_fact x6 x7) >>= fun a5 =>
  ((((pure a5 : M ((Tx × (Tup Tx)) × Int)) >>= fun x9 => pure x9.1) >>= fun a11 => chk (s2.2.length < SZ) >>= fun _u12 => pure a11) >>= fun a8 =>
  (((pure a5 : M ((Tx × (Tup Tx)) × Int)) >>= fun x14 => pure x14.2) >>= fun a13 =>
  ((((pure p0 : M (List Tx)) >>= fun x16 => (pure a13 : M Int) >>= fun x17 => m_piece_at x16 x17) >>= fun x18 => (pure (tx ",") : M Tx) >>= fun y19 => (pure (!decide (x18 = y19)) : M Bool)) >>= fun c20 => if c20 = true then (((pure (s2.2 ++ [a8]) : M (List (Tx × (Tup Tx)))) >>= fun x21 => (pure a13 : M Int) >>= fun x22 => pure (x21, x22)) >>= fun r23 => (pure (.rt r23) : M (Tl (Int × (List (Tx × (Tup Tx)))) ((List (Tx × (Tup Tx))) × Int)))) else
  (((pure (1 : Int) : M Int) >>= fun y25 => (pure (a13 + y25) : M Int)) >>= fun a24 =>
  (pure (.ct (a24, (s2.2 ++ [a8]))) : M (Tl (Int × (List (Tx × (Tup Tx)))) ((List (Tx × (Tup Tx))) × Int))))))))) FUEL (p1, a1) >>= thenT (fun s2 =>
  (stuck : M ((List (Tx × (Tup Tx))) × Int))) id))

def m_fact_text (p0 : (Tx × (Tup Tx))) : M Tx :=
  (((((pure p0 : M (Tx × (Tup Tx))) >>= fun x1 => pure x1.2) >>= fun x3 => (pure ((List.length (α := Tx) x3 : Nat) : Int) : M Int)) >>= fun x4 => (pure (0 : Int) : M Int) >>= fun y5 => (pure (decide (x4 = y5)) : M Bool)) >>= fun c6 => if c6 = true then ((pure p0 : M (Tx × (Tup Tx))) >>= fun x7 => pure x7.1) else
  (((((pure p0 : M (Tx × (Tup Tx))) >>= fun x9 => pure x9.1) >>= fun x11 => (pure (tx "(") : M Tx) >>= fun y12 => addT x11 y12) >>= fun x17 => ((pure (tx ",") : M Tx) >>= fun x15 => ((pure p0 : M (Tx × (Tup Tx))) >>= fun x13 => pure x13.2) >>= fun y16 => joinM x15 y16) >>= fun y18 => addT x17 y18) >>= fun x19 => (pure (tx ")") : M Tx) >>= fun y20 => addT x19 y20))

def m_read_fact (p0 : Tx) : M (Tx × (Tup Tx)) :=
  (((pure p0 : M Tx) >>= fun x2 => m_pieces x2) >>= fun a1 =>
  (((pure a1 : M (List Tx)) >>= fun x4 => (pure (0 : Int) : M Int) >>= fun x5 => m_take_fact x4 x5) >>= fun a3 =>
  ((((pure a3 : M ((Tx × (Tup Tx)) × Int)) >>= fun x6 => pure x6.2) >>= fun x9 => ((pure a1 : M (List Tx)) >>= fun x8 => (pure (x8.length : Int) : M Int)) >>= fun y10 => (pure (!decide (x9 = y10)) : M Bool)) >>= fun c11 => if c11 = true then (raise "NoLine" : M (Tx × (Tup Tx))) else
  ((pure a3 : M ((Tx × (Tup Tx)) × Int)) >>= fun x12 => pure x12.1))))

def m_facts_text (p0 : (List (Tx × (Tup Tx)))) : M Tx :=
  ((pure (tx ", ") : M Tx) >>= fun x4 => ((pure p0 : M (List (Tx × (Tup Tx)))) >>= fun y3 => lc (fun e1 => ((pure e1 : M (Tx × (Tup Tx))) >>= fun x2 => m_fact_text x2)) y3) >>= fun y5 => joinM x4 y5)

def m_facts_text_v1 (p0 : (Tup (Tx × (Tup Tx)))) : M Tx :=
  ((pure (tx ", ") : M Tx) >>= fun x4 => (((pure p0 : M (Tup (Tx × (Tup Tx)))) : M (List (Tx × (Tup Tx)))) >>= fun y3 => lc (fun e1 => ((pure e1 : M (Tx × (Tup Tx))) >>= fun x2 => m_fact_text x2)) y3) >>= fun y5 => joinM x4 y5)

def m_read_facts (p0 : Tx) : M (List (Tx × (Tup Tx))) :=
  (((pure p0 : M Tx) >>= fun x2 => m_pieces x2) >>= fun a1 =>
  ((((pure a1 : M (List Tx)) >>= fun x3 => (pure (x3.length : Int) : M Int)) >>= fun x4 => (pure (0 : Int) : M Int) >>= fun y5 => (pure (decide (x4 = y5)) : M Bool)) >>= fun c6 => if c6 = true then (pure [] : M (List (Tx × (Tup Tx)))) else
  (((pure a1 : M (List Tx)) >>= fun x8 => (pure (0 : Int) : M Int) >>= fun x9 => m_take_facts x8 x9) >>= fun a7 =>
  ((((pure a7 : M ((List (Tx × (Tup Tx))) × Int)) >>= fun x10 => pure x10.2) >>= fun x13 => ((pure a1 : M (List Tx)) >>= fun x12 => (pure (x12.length : Int) : M Int)) >>= fun y14 => (pure (!decide (x13 = y14)) : M Bool)) >>= fun c15 => if c15 = true then (raise "NoLine" : M (List (Tx × (Tup Tx)))) else
  ((pure a7 : M ((List (Tx × (Tup Tx))) × Int)) >>= fun x16 => pure x16.1)))))

def m__law_cell_at (p0 : (List Int)) (p1 : Int) : M Int :=
  (((pure p1 : M Int) >>= fun x2 => ((pure p0 : M (List Int)) >>= fun x1 => (pure (x1.length : Int) : M Int)) >>= fun y3 => (pure (decide (x2 < y3)) : M Bool)) >>= fun c4 => if c4 = true then ((pure p0 : M (List Int)) >>= fun x5 => (pure p1 : M Int) >>= fun y6 => atL x5 y6) else
  (pure (0 : Int) : M Int))

def m__law_mix (p0 : Int) (p1 : Int) : M Int :=
  ((((pure (48271 : Int) : M Int) >>= fun x14 => ((pure (69621 : Int) : M Int) >>= fun x12 => ((pure (16807 : Int) : M Int) >>= fun x10 => ((pure (40692 : Int) : M Int) >>= fun x8 => ((pure (30269 : Int) : M Int) >>= fun x6 => ((pure (62089 : Int) : M Int) >>= fun x4 => ((pure (45991 : Int) : M Int) >>= fun x2 => (pure [] : M (List Int)) >>= fun r3 => pure (x2 :: r3)) >>= fun r5 => pure (x4 :: r5)) >>= fun r7 => pure (x6 :: r7)) >>= fun r9 => pure (x8 :: r9)) >>= fun r11 => pure (x10 :: r11)) >>= fun r13 => pure (x12 :: r13)) >>= fun r15 => pure (x14 :: r15)) >>= fun x16 => ((pure p1 : M Int) >>= fun x18 => (pure (7 : Int) : M Int) >>= fun y19 => modI x18 y19) >>= fun y17 => atL x16 y17) >>= fun a1 =>
  (((((pure p0 : M Int) >>= fun x20 => (pure (1000003 : Int) : M Int) >>= fun y21 => modI x20 y21) >>= fun x24 => ((pure (31 : Int) : M Int) >>= fun x22 => (pure p1 : M Int) >>= fun y23 => mulI x22 y23) >>= fun y25 => (pure (x24 + y25) : M Int)) >>= fun x26 => (pure a1 : M Int) >>= fun y27 => mulI x26 y27) >>= fun x28 => (pure (999983 : Int) : M Int) >>= fun y29 => modI x28 y29))

def m__law_names (p0 : Int) (p1 : Int) (p2 : Tx) : M (List Tx) :=
  ((pure (tx "abcdefghijklmnopqrstuvwxyz0123456789ABCDEFGHIJKLMNOPQRSTUVWXYZ") : M Tx) >>= fun a1 =>
  (((pure p0 : M Int) >>= fun x3 => (pure (0 : Int) : M Int) >>= fun x4 => m__law_mix x3 x4) >>= fun a2 =>
  ((((pure a2 : M Int) >>= fun x6 => (pure (5 : Int) : M Int) >>= fun y7 => divI x6 y7) >>= fun x9 => ((pure p2 : M Tx) >>= fun x8 => lenT x8) >>= fun y10 => modI x9 y10) >>= fun a5 =>
  (((pure (tx "") : M Tx) >>= fun x27 => (((pure (11 : Int) : M Int) >>= fun x12 => range1 x12) >>= fun y26 => lc (fun e13 => ((pure a1 : M Tx) >>= fun x14 => ((((pure a2 : M Int) >>= fun x18 => ((pure e13 : M Int) >>= fun x16 => (pure (1 : Int) : M Int) >>= fun y17 => (pure (x16 + y17) : M Int)) >>= fun y19 => divI x18 y19) >>= fun x22 => ((pure e13 : M Int) >>= fun x20 => (pure e13 : M Int) >>= fun y21 => mulI x20 y21) >>= fun y23 => (pure (x22 + y23) : M Int)) >>= fun x24 => (pure (62 : Int) : M Int) >>= fun y25 => modI x24 y25) >>= fun y15 => atT x14 y15)) y26) >>= fun y28 => joinM x27 y28) >>= fun a11 =>
  ((((pure a2 : M Int) >>= fun x29 => (pure (3 : Int) : M Int) >>= fun y30 => modI x29 y30) >>= fun x31 => (pure (0 : Int) : M Int) >>= fun y32 => (pure (decide (x31 = y32)) : M Bool)) >>= fun c33 => if c33 = true then (((pure p1 : M Int) >>= fun x34 => range1 x34) >>= fun y44 => lc (fun e35 => (((pure p2 : M Tx) >>= fun x36 => (pure a5 : M Int) >>= fun y37 => atT x36 y37) >>= fun x42 => ((pure a11 : M Tx) >>= fun s39 => (pure none : M (Option Int)) >>= fun l40 => ((pure e35 : M Int) >>= fun x38 => pure (some x38)) >>= fun u41 => cutT s39 l40 u41) >>= fun y43 => addT x42 y43)) y44) else
  ((((pure a2 : M Int) >>= fun x45 => (pure (3 : Int) : M Int) >>= fun y46 => modI x45 y46) >>= fun x47 => (pure (1 : Int) : M Int) >>= fun y48 => (pure (decide (x47 = y48)) : M Bool)) >>= fun c49 => if c49 = true then ((((pure a2 : M Int) >>= fun x51 => (pure (3 : Int) : M Int) >>= fun y52 => divI x51 y52) >>= fun x53 => (pure (12 : Int) : M Int) >>= fun y54 => modI x53 y54) >>= fun a50 =>
  (((pure p1 : M Int) >>= fun x55 => range1 x55) >>= fun y70 => lc (fun e56 => (((pure p2 : M Tx) >>= fun x57 => (((pure a5 : M Int) >>= fun x59 => (pure e56 : M Int) >>= fun y60 => (pure (x59 + y60) : M Int)) >>= fun x62 => ((pure p2 : M Tx) >>= fun x61 => lenT x61) >>= fun y63 => modI x62 y63) >>= fun y58 => atT x57 y58) >>= fun x68 => ((pure a11 : M Tx) >>= fun s65 => (pure none : M (Option Int)) >>= fun l66 => ((pure a50 : M Int) >>= fun x64 => pure (some x64)) >>= fun u67 => cutT s65 l66 u67) >>= fun y69 => addT x68 y69)) y70)) else
  ((((pure a2 : M Int) >>= fun x72 => (pure (3 : Int) : M Int) >>= fun y73 => divI x72 y73) >>= fun x74 => (pure (11 : Int) : M Int) >>= fun y75 => modI x74 y75) >>= fun a71 =>
  ((((pure a2 : M Int) >>= fun x77 => (pure (33 : Int) : M Int) >>= fun y78 => divI x77 y78) >>= fun x81 => ((pure a71 : M Int) >>= fun x79 => (pure (1 : Int) : M Int) >>= fun y80 => (pure (x79 + y80) : M Int)) >>= fun y82 => modI x81 y82) >>= fun a76 =>
  ((((pure p1 : M Int) >>= fun x84 => range1 x84) >>= fun y94 => lc (fun e85 => ((pure a1 : M Tx) >>= fun x86 => ((((pure a2 : M Int) >>= fun x88 => (pure (7 : Int) : M Int) >>= fun y89 => divI x88 y89) >>= fun x90 => (pure e85 : M Int) >>= fun y91 => (pure (x90 + y91) : M Int)) >>= fun x92 => (pure (62 : Int) : M Int) >>= fun y93 => modI x92 y93) >>= fun y87 => atT x86 y87)) y94) >>= fun a83 =>
  ((pure a83 : M (List Tx)) >>= fun y113 => lc (fun e95 => (((((pure p2 : M Tx) >>= fun x96 => (pure a5 : M Int) >>= fun y97 => atT x96 y97) >>= fun x102 => ((pure a11 : M Tx) >>= fun s99 => (pure none : M (Option Int)) >>= fun l100 => ((pure a76 : M Int) >>= fun x98 => pure (some x98)) >>= fun u101 => cutT s99 l100 u101) >>= fun y103 => addT x102 y103) >>= fun x104 => (pure e95 : M Tx) >>= fun y105 => addT x104 y105) >>= fun x111 => ((pure a11 : M Tx) >>= fun s108 => ((pure a76 : M Int) >>= fun x106 => pure (some x106)) >>= fun l109 => ((pure a71 : M Int) >>= fun x107 => pure (some x107)) >>= fun u110 => cutT s108 l109 u110) >>= fun y112 => addT x111 y112)) y113))))))))))

def m__law_titles (p0 : Int) (p1 : Int) : M (List Tx) :=
  ((pure p0 : M Int) >>= fun x1 => (pure p1 : M Int) >>= fun x2 => (pure (tx "abcdefghijklmnopqrstuvwxyz") : M Tx) >>= fun x3 => m__law_names x1 x2 x3)

def m__law_opens (p0 : Int) (p1 : Int) : M (List Tx) :=
  ((pure p0 : M Int) >>= fun x1 => (pure p1 : M Int) >>= fun x2 => (pure (tx "ABCDEFGHIJKLMNOPQRSTUVWXYZ") : M Tx) >>= fun x3 => m__law_names x1 x2 x3)

def m__law_words (p0 : Int) (p1 : Int) : M (List Tx) :=
  ((pure p0 : M Int) >>= fun x1 => (pure p1 : M Int) >>= fun x2 => (pure (tx "abcdefghijklmnopqrstuvwxyz0123456789") : M Tx) >>= fun x3 => m__law_names x1 x2 x3)

def m__law_sign (p0 : Int) : M Tx :=
  ((pure (tx " !\"#$&'()*+,-./0123456789:;<=>?@ABCDEFGHIJKLMNOPQRSTUVWXYZ[\\]^_`") : M Tx) >>= fun a1 =>
  (((pure a1 : M Tx) >>= fun x3 => (pure (tx "abcdefghijklmnopqrstuvwxyz{|}~\n") : M Tx) >>= fun y4 => addT x3 y4) >>= fun a2 =>
  ((pure a2 : M Tx) >>= fun x5 => ((pure p0 : M Int) >>= fun x7 => (pure (95 : Int) : M Int) >>= fun y8 => modI x7 y8) >>= fun y6 => atT x5 y6)))

def m__law_fact_text (p0 : (Tx × (Tup Tx))) : M Tx :=
  (((((pure p0 : M (Tx × (Tup Tx))) >>= fun x1 => pure x1.2) >>= fun x3 => (pure ((List.length (α := Tx) x3 : Nat) : Int) : M Int)) >>= fun x4 => (pure (0 : Int) : M Int) >>= fun y5 => (pure (decide (x4 = y5)) : M Bool)) >>= fun c6 => if c6 = true then ((pure p0 : M (Tx × (Tup Tx))) >>= fun x7 => pure x7.1) else
  (((((pure p0 : M (Tx × (Tup Tx))) >>= fun x9 => pure x9.1) >>= fun x11 => (pure (tx "(") : M Tx) >>= fun y12 => addT x11 y12) >>= fun x17 => ((pure (tx ",") : M Tx) >>= fun x15 => ((pure p0 : M (Tx × (Tup Tx))) >>= fun x13 => pure x13.2) >>= fun y16 => joinM x15 y16) >>= fun y18 => addT x17 y18) >>= fun x19 => (pure (tx ")") : M Tx) >>= fun y20 => addT x19 y20))

def m__law_sort (p0 : Tx) : M Tx :=
  (((pure p0 : M Tx) >>= fun x1 => (pure (tx "abcdefghijklmnopqrstuvwxyz0123456789ABCDEFGHIJKLMNOPQRSTUVWXYZ") : M Tx) >>= fun y2 => inS x1 y2) >>= fun c3 => if c3 = true then (pure (tx "n") : M Tx) else
  (((pure p0 : M Tx) >>= fun x4 => (pure (tx " (),") : M Tx) >>= fun y5 => inS x4 y5) >>= fun c6 => if c6 = true then (pure p0 : M Tx) else
  (pure (tx "x") : M Tx)))

def m__law_next (p0 : Int) (p1 : Tx) : M Int :=
  (((pure (tx " n") : M Tx) >>= fun x16 => ((pure (tx "n (,") : M Tx) >>= fun x14 => ((pure (tx " (,") : M Tx) >>= fun x12 => ((pure (tx " n)") : M Tx) >>= fun x10 => ((pure (tx "n ,)") : M Tx) >>= fun x8 => ((pure (tx " ,)") : M Tx) >>= fun x6 => ((pure (tx " n") : M Tx) >>= fun x4 => ((pure (tx " ,") : M Tx) >>= fun x2 => (pure [] : M (List Tx)) >>= fun r3 => pure (x2 :: r3)) >>= fun r5 => pure (x4 :: r5)) >>= fun r7 => pure (x6 :: r7)) >>= fun r9 => pure (x8 :: r9)) >>= fun r11 => pure (x10 :: r11)) >>= fun r13 => pure (x12 :: r13)) >>= fun r15 => pure (x14 :: r15)) >>= fun r17 => pure (x16 :: r17)) >>= fun a1 =>
  (((((pure (0 : Int) : M Int) >>= fun x21 => ((pure (1 : Int) : M Int) >>= fun x19 => (pure [] : M (List Int)) >>= fun r20 => pure (x19 :: r20)) >>= fun r22 => pure (x21 :: r22)) >>= fun x23 => (pure x23 : M (Tup Int))) >>= fun x87 => ((((pure (1 : Int) : M Int) >>= fun x30 => ((pure (2 : Int) : M Int) >>= fun x28 => ((pure (3 : Int) : M Int) >>= fun x26 => ((pure (0 : Int) : M Int) >>= fun x24 => (pure [] : M (List Int)) >>= fun r25 => pure (x24 :: r25)) >>= fun r27 => pure (x26 :: r27)) >>= fun r29 => pure (x28 :: r29)) >>= fun r31 => pure (x30 :: r31)) >>= fun x32 => (pure x32 : M (Tup Int))) >>= fun x85 => ((((pure (2 : Int) : M Int) >>= fun x37 => ((pure (3 : Int) : M Int) >>= fun x35 => ((pure (0 : Int) : M Int) >>= fun x33 => (pure [] : M (List Int)) >>= fun r34 => pure (x33 :: r34)) >>= fun r36 => pure (x35 :: r36)) >>= fun r38 => pure (x37 :: r38)) >>= fun x39 => (pure x39 : M (Tup Int))) >>= fun x83 => ((((pure (3 : Int) : M Int) >>= fun x44 => ((pure (4 : Int) : M Int) >>= fun x42 => ((pure (7 : Int) : M Int) >>= fun x40 => (pure [] : M (List Int)) >>= fun r41 => pure (x40 :: r41)) >>= fun r43 => pure (x42 :: r43)) >>= fun r45 => pure (x44 :: r45)) >>= fun x46 => (pure x46 : M (Tup Int))) >>= fun x81 => ((((pure (4 : Int) : M Int) >>= fun x53 => ((pure (5 : Int) : M Int) >>= fun x51 => ((pure (6 : Int) : M Int) >>= fun x49 => ((pure (7 : Int) : M Int) >>= fun x47 => (pure [] : M (List Int)) >>= fun r48 => pure (x47 :: r48)) >>= fun r50 => pure (x49 :: r50)) >>= fun r52 => pure (x51 :: r52)) >>= fun r54 => pure (x53 :: r54)) >>= fun x55 => (pure x55 : M (Tup Int))) >>= fun x79 => ((((pure (5 : Int) : M Int) >>= fun x60 => ((pure (6 : Int) : M Int) >>= fun x58 => ((pure (7 : Int) : M Int) >>= fun x56 => (pure [] : M (List Int)) >>= fun r57 => pure (x56 :: r57)) >>= fun r59 => pure (x58 :: r59)) >>= fun r61 => pure (x60 :: r61)) >>= fun x62 => (pure x62 : M (Tup Int))) >>= fun x77 => ((((pure (6 : Int) : M Int) >>= fun x65 => ((pure (4 : Int) : M Int) >>= fun x63 => (pure [] : M (List Int)) >>= fun r64 => pure (x63 :: r64)) >>= fun r66 => pure (x65 :: r66)) >>= fun x67 => (pure x67 : M (Tup Int))) >>= fun x75 => ((((pure (7 : Int) : M Int) >>= fun x70 => ((pure (0 : Int) : M Int) >>= fun x68 => (pure [] : M (List Int)) >>= fun r69 => pure (x68 :: r69)) >>= fun r71 => pure (x70 :: r71)) >>= fun x72 => (pure x72 : M (Tup Int))) >>= fun x73 => (pure [] : M (List (Tup Int))) >>= fun r74 => pure (x73 :: r74)) >>= fun r76 => pure (x75 :: r76)) >>= fun r78 => pure (x77 :: r78)) >>= fun r80 => pure (x79 :: r80)) >>= fun r82 => pure (x81 :: r82)) >>= fun r84 => pure (x83 :: r84)) >>= fun r86 => pure (x85 :: r86)) >>= fun r88 => pure (x87 :: r88)) >>= fun a18 =>
  ((((pure a1 : M (List Tx)) >>= fun x90 => (pure p0 : M Int) >>= fun y91 => atL x90 y91) >>= fun x92 => (pure p1 : M Tx) >>= fun y93 => (pure (findT x92 y93) : M Int)) >>= fun a89 =>
  (((pure a89 : M Int) >>= fun x94 => (pure (0 : Int) : M Int) >>= fun y95 => (pure (decide (x94 < y95)) : M Bool)) >>= fun c96 => if c96 = true then ((pure (1 : Int) : M Int) >>= fun x97 => pure (-x97)) else
  (((pure a18 : M (List (Tup Int))) >>= fun x98 => (pure p0 : M Int) >>= fun y99 => atL x98 y99) >>= fun x100 => (pure a89 : M Int) >>= fun y101 => atL (α := Int) x100 y101)))))

def m__law_read (p0 : Tx) : M (Option (List (Tx × (Tup Tx)))) :=
  ((((pure p0 : M Tx) >>= fun x1 => (pure (tx " ") : M Tx) >>= fun y2 => stripT x1 y2) >>= fun x3 => (pure (tx "") : M Tx) >>= fun y4 => (pure (decide (x3 = y4)) : M Bool)) >>= fun c5 => if c5 = true then ((pure [] : M (List (Tx × (Tup Tx)))) >>= fun x6 => (pure (some x6) : M (Option (List (Tx × (Tup Tx)))))) else
  ((pure [] : M (List (Tx × (Tup Tx)))) >>= fun a7 =>
  ((pure [] : M (List Tx)) >>= fun a8 =>
  ((pure (0 : Int) : M Int) >>= fun a9 =>
  ((((pure p0 : M Tx) >>= fun x10 => (pure (tx ",") : M Tx) >>= fun y11 => addT x10 y11) >>= fun x12 => pure (signs x12)) >>= fun l15 => forT (fun (s13 : ((List (Tx × (Tup Tx))) × (List Tx) × Int)) (e14 : Tx) => (((pure s13.2.2 : M Int) >>= fun x21 => ((pure e14 : M Tx) >>= fun x20 => m__law_sort x20) >>= fun x22 => m__law_next x21 x22) >>= fun a19 =>
  (((pure a19 : M Int) >>= fun x23 => (pure (0 : Int) : M Int) >>= fun y24 => (pure (decide (x23 < y24)) : M Bool)) >>= fun c25 => if c25 = true then ((pure none : M (Option (List (Tx × (Tup Tx))))) >>= fun r26 => (pure (.rt r26) : M (Tl ((List (Tx × (Tup Tx))) × (List Tx) × Int) (Option (List (Tx × (Tup Tx))))))) else
  (((((pure a19 : M Int) >>= fun x27 => (pure s13.2.2 : M Int) >>= fun y28 => (pure (decide (x27 = y28)) : M Bool)) >>= fun c34 => if c34 = true then (((pure a19 : M Int) >>= fun x29 => (pure (1 : Int) : M Int) >>= fun y30 => (pure (decide (x29 = y30)) : M Bool)) >>= fun c33 => if c33 = true then pure true else ((pure a19 : M Int) >>= fun x31 => (pure (4 : Int) : M Int) >>= fun y32 => (pure (decide (x31 = y32)) : M Bool))) else pure false) >>= fun c35 => if c35 = true then ((((((pure (s13.2.1.length : Int) : M Int) >>= fun x38 => (pure (1 : Int) : M Int) >>= fun y39 => (pure (x38 - y39) : M Int)) >>= fun k40 => atL s13.2.1 k40) >>= fun x41 => (pure e14 : M Tx) >>= fun y42 => addT x41 y42) >>= fun a45 => ((pure (s13.2.1.length : Int) : M Int) >>= fun x43 => (pure (1 : Int) : M Int) >>= fun y44 => (pure (x43 - y44) : M Int)) >>= fun k46 => ofO (L2.ixN s13.2.1.length k46) >>= fun j47 => pure (s13.2.1.set j47 a45)) >>= fun a37 =>
  (pure a37 : M (List Tx))) else (pure s13.2.1 : M (List Tx))) >>= fun s36 =>
  (((((pure a19 : M Int) >>= fun x48 => (pure s13.2.2 : M Int) >>= fun y49 => (pure (!decide (x48 = y49)) : M Bool)) >>= fun c52 => if c52 = true then ((pure a19 : M Int) >>= fun x50 => (pure (1 : Int) : M Int) >>= fun y51 => (pure (decide (x50 = y51)) : M Bool)) else pure false) >>= fun c53 => if c53 = true then (((pure e14 : M Tx) >>= fun x56 => (pure [] : M (List Tx)) >>= fun r57 => pure (x56 :: r57)) >>= fun a55 =>
  (pure a55 : M (List Tx))) else (pure s36 : M (List Tx))) >>= fun s54 =>
  (((((pure a19 : M Int) >>= fun x58 => (pure s13.2.2 : M Int) >>= fun y59 => (pure (!decide (x58 = y59)) : M Bool)) >>= fun c62 => if c62 = true then ((pure a19 : M Int) >>= fun x60 => (pure (4 : Int) : M Int) >>= fun y61 => (pure (decide (x60 = y61)) : M Bool)) else pure false) >>= fun c63 => if c63 = true then (((pure s54 : M (List Tx)) >>= fun x68 => ((pure e14 : M Tx) >>= fun x66 => (pure [] : M (List Tx)) >>= fun r67 => pure (x66 :: r67)) >>= fun y69 => catM x68 y69) >>= fun a65 =>
  (pure a65 : M (List Tx))) else (pure s54 : M (List Tx))) >>= fun s64 =>
  (((((pure a19 : M Int) >>= fun x70 => (pure s13.2.2 : M Int) >>= fun y71 => (pure (!decide (x70 = y71)) : M Bool)) >>= fun c74 => if c74 = true then ((pure a19 : M Int) >>= fun x72 => (pure (0 : Int) : M Int) >>= fun y73 => (pure (decide (x72 = y73)) : M Bool)) else pure false) >>= fun c75 => if c75 = true then ((((((pure s64 : M (List Tx)) >>= fun y79 => lc (fun e77 => ((pure e77 : M Tx) >>= fun x78 => lenT x78)) y79) >>= fun x80 => maxL x80) >>= fun x81 => (pure (12 : Int) : M Int) >>= fun y82 => (pure (decide (y82 < x81)) : M Bool)) >>= fun c90 => if c90 = true then pure true else ((((pure s64 : M (List Tx)) >>= fun x83 => (pure (0 : Int) : M Int) >>= fun y84 => atL x83 y84) >>= fun x85 => (pure (0 : Int) : M Int) >>= fun y86 => atT x85 y86) >>= fun x87 => (pure (tx "abcdefghijklmnopqrstuvwxyz") : M Tx) >>= fun y88 => (inS x87 y88 >>= fun c89 => pure (!c89)))) >>= fun c91 => if c91 = true then ((pure none : M (Option (List (Tx × (Tup Tx))))) >>= fun r103 => (pure (.rt r103) : M (Tl (List (Tx × (Tup Tx))) (Option (List (Tx × (Tup Tx))))))) else
  (((((pure (0 : Int) : M Int) >>= fun k93 => atL s64 k93) >>= fun x99 => ((((pure (1 : Int) : M Int) >>= fun x94 => pure (some x94)) >>= fun l96 => (pure none : M (Option Int)) >>= fun u97 => pure (cut s64 l96 u97)) >>= fun x98 => (pure x98 : M (Tup Tx))) >>= fun x100 => pure (x99, x100)) >>= fun a101 => chk (s13.1.length < SZ) >>= fun _u102 => pure a101) >>= fun a92 =>
  (pure (.ct (s13.1 ++ [a92])) : M (Tl (List (Tx × (Tup Tx))) (Option (List (Tx × (Tup Tx)))))))) else (pure (.ct s13.1) : M (Tl (List (Tx × (Tup Tx))) (Option (List (Tx × (Tup Tx))))))) >>= partT (fun (s76 : (List (Tx × (Tup Tx)))) =>
  ((pure a19 : M Int) >>= fun a104 =>
  (pure (.ct (s76, s64, a104)) : M (Tl ((List (Tx × (Tup Tx))) × (List Tx) × Int) (Option (List (Tx × (Tup Tx)))))))) Tl.rt))))))) (a7, a8, a9) l15 >>= thenT (fun s13 =>
  (((pure s13.2.2 : M Int) >>= fun x105 => (pure (0 : Int) : M Int) >>= fun y106 => (pure (!decide (x105 = y106)) : M Bool)) >>= fun c107 => if c107 = true then (pure none : M (Option (List (Tx × (Tup Tx))))) else
  ((pure s13.1 : M (List (Tx × (Tup Tx)))) >>= fun x108 => (pure (some x108) : M (Option (List (Tx × (Tup Tx)))))))) id)))))

def m__law_spoiled (p0 : Tx) (p1 : Int) (p2 : Int) (p3 : Tx) : M Tx :=
  (((pure p1 : M Int) >>= fun x1 => (pure (0 : Int) : M Int) >>= fun y2 => (pure (decide (x1 = y2)) : M Bool)) >>= fun c3 => if c3 = true then ((((pure p0 : M Tx) >>= fun s5 => (pure none : M (Option Int)) >>= fun l6 => ((pure p2 : M Int) >>= fun x4 => pure (some x4)) >>= fun u7 => cutT s5 l6 u7) >>= fun x8 => (pure (tx " ") : M Tx) >>= fun y9 => addT x8 y9) >>= fun x14 => ((pure p0 : M Tx) >>= fun s11 => ((pure p2 : M Int) >>= fun x10 => pure (some x10)) >>= fun l12 => (pure none : M (Option Int)) >>= fun u13 => cutT s11 l12 u13) >>= fun y15 => addT x14 y15) else
  (((pure p1 : M Int) >>= fun x16 => (pure (1 : Int) : M Int) >>= fun y17 => (pure (decide (x16 = y17)) : M Bool)) >>= fun c18 => if c18 = true then ((((pure p0 : M Tx) >>= fun s20 => (pure none : M (Option Int)) >>= fun l21 => ((pure p2 : M Int) >>= fun x19 => pure (some x19)) >>= fun u22 => cutT s20 l21 u22) >>= fun x23 => (pure p3 : M Tx) >>= fun y24 => addT x23 y24) >>= fun x29 => ((pure p0 : M Tx) >>= fun s26 => ((pure p2 : M Int) >>= fun x25 => pure (some x25)) >>= fun l27 => (pure none : M (Option Int)) >>= fun u28 => cutT s26 l27 u28) >>= fun y30 => addT x29 y30) else
  (((pure p1 : M Int) >>= fun x31 => (pure (2 : Int) : M Int) >>= fun y32 => (pure (decide (x31 = y32)) : M Bool)) >>= fun c33 => if c33 = true then (((pure p0 : M Tx) >>= fun s35 => (pure none : M (Option Int)) >>= fun l36 => ((pure p2 : M Int) >>= fun x34 => pure (some x34)) >>= fun u37 => cutT s35 l36 u37) >>= fun x44 => ((pure p0 : M Tx) >>= fun s41 => (((pure p2 : M Int) >>= fun x38 => (pure (1 : Int) : M Int) >>= fun y39 => (pure (x38 + y39) : M Int)) >>= fun x40 => pure (some x40)) >>= fun l42 => (pure none : M (Option Int)) >>= fun u43 => cutT s41 l42 u43) >>= fun y45 => addT x44 y45) else
  ((((pure p0 : M Tx) >>= fun s47 => (pure none : M (Option Int)) >>= fun l48 => ((pure p2 : M Int) >>= fun x46 => pure (some x46)) >>= fun u49 => cutT s47 l48 u49) >>= fun x50 => (pure p3 : M Tx) >>= fun y51 => addT x50 y51) >>= fun x58 => ((pure p0 : M Tx) >>= fun s55 => (((pure p2 : M Int) >>= fun x52 => (pure (1 : Int) : M Int) >>= fun y53 => (pure (x52 + y53) : M Int)) >>= fun x54 => pure (some x54)) >>= fun l56 => (pure none : M (Option Int)) >>= fun u57 => cutT s55 l56 u57) >>= fun y59 => addT x58 y59))))

def m__law_place (p0 : Tx) (p1 : Int) (p2 : Int) : M Int :=
  (((((pure p2 : M Int) >>= fun x1 => (pure (2 : Int) : M Int) >>= fun y2 => modI x1 y2) >>= fun x3 => (pure (0 : Int) : M Int) >>= fun y4 => (pure (decide (x3 = y4)) : M Bool)) >>= fun c5 => if c5 = true then (((pure p1 : M Int) >>= fun x8 => ((pure p0 : M Tx) >>= fun x7 => lenT x7) >>= fun y9 => range2 x8 y9) >>= fun l12 => forT (fun (s10 : Unit) (e11 : Int) => ((((pure p0 : M Tx) >>= fun x16 => (pure e11 : M Int) >>= fun y17 => atT x16 y17) >>= fun x18 => (pure (tx " (),") : M Tx) >>= fun y19 => inS x18 y19) >>= fun c20 => if c20 = true then ((pure e11 : M Int) >>= fun r21 => (pure (.rt r21) : M (Tl Unit Int))) else (pure (.ct ()) : M (Tl Unit Int)))) () l12 >>= thenT (fun s10 =>
  (pure (.ct ()) : M (Tl Unit Int))) Tl.rt) else (pure (.ct ()) : M (Tl Unit Int))) >>= partT (fun (s6 : Unit) =>
  (pure p1 : M Int)) id)

def m__law_row (p0 : (List Int)) : M (List (Tx × (Tup Tx))) :=
  ((((pure p0 : M (List Int)) >>= fun x2 => (pure (0 : Int) : M Int) >>= fun x3 => m__law_cell_at x2 x3) >>= fun x4 => (pure (6 : Int) : M Int) >>= fun x5 => m__law_titles x4 x5) >>= fun a1 =>
  (((((pure p0 : M (List Int)) >>= fun x7 => (pure (1 : Int) : M Int) >>= fun x8 => m__law_cell_at x7 x8) >>= fun x9 => (pure (5 : Int) : M Int) >>= fun x10 => m__law_opens x9 x10) >>= fun x15 => (((pure p0 : M (List Int)) >>= fun x11 => (pure (2 : Int) : M Int) >>= fun x12 => m__law_cell_at x11 x12) >>= fun x13 => (pure (5 : Int) : M Int) >>= fun x14 => m__law_words x13 x14) >>= fun y16 => catM x15 y16) >>= fun a6 =>
  ((pure [] : M (List (Tx × (Tup Tx)))) >>= fun a17 =>
  (((pure p0 : M (List Int)) >>= fun s21 => ((pure (3 : Int) : M Int) >>= fun x19 => pure (some x19)) >>= fun l22 => ((pure (55 : Int) : M Int) >>= fun x20 => pure (some x20)) >>= fun u23 => pure (cut s21 l22 u23)) >>= fun a18 =>
  ((((((pure p0 : M (List Int)) >>= fun x24 => (pure (1 : Int) : M Int) >>= fun x25 => m__law_cell_at x24 x25) >>= fun x26 => (pure (3 : Int) : M Int) >>= fun y27 => modI x26 y27) >>= fun x28 => (pure (0 : Int) : M Int) >>= fun y29 => (pure (decide (x28 = y29)) : M Bool)) >>= fun c30 => if c30 = true then (((pure p0 : M (List Int)) >>= fun s35 => ((pure (3 : Int) : M Int) >>= fun x33 => pure (some x33)) >>= fun l36 => ((pure (5 : Int) : M Int) >>= fun x34 => pure (some x34)) >>= fun u37 => pure (cut s35 l36 u37)) >>= fun a32 =>
  (pure a32 : M (List Int))) else (pure a18 : M (List Int))) >>= fun s31 =>
  (((pure s31 : M (List Int)) >>= fun l40 => forP (fun (s38 : (List (Tx × (Tup Tx)))) (e39 : Int) => (((pure e39 : M Int) >>= fun x45 => (pure (4 : Int) : M Int) >>= fun x46 => m__law_mix x45 x46) >>= fun a44 =>
  (((((pure a44 : M Int) >>= fun x48 => (pure (4 : Int) : M Int) >>= fun y49 => modI x48 y49) >>= fun x50 => range1 x50) >>= fun y62 => lc (fun e51 => ((pure a6 : M (List Tx)) >>= fun x52 => (((pure a44 : M Int) >>= fun x58 => ((pure (24 : Int) : M Int) >>= fun x56 => ((pure (7 : Int) : M Int) >>= fun x54 => (pure e51 : M Int) >>= fun y55 => mulI x54 y55) >>= fun y57 => (pure (x56 + y57) : M Int)) >>= fun y59 => divI x58 y59) >>= fun x60 => (pure (10 : Int) : M Int) >>= fun y61 => modI x60 y61) >>= fun y53 => atL x52 y53)) y62) >>= fun a47 =>
  (((((pure a1 : M (List Tx)) >>= fun x64 => (((pure a44 : M Int) >>= fun x66 => (pure (4 : Int) : M Int) >>= fun y67 => divI x66 y67) >>= fun x68 => (pure (6 : Int) : M Int) >>= fun y69 => modI x68 y69) >>= fun y65 => atL x64 y65) >>= fun x71 => ((pure a47 : M (List Tx)) >>= fun x70 => (pure x70 : M (Tup Tx))) >>= fun x72 => pure (x71, x72)) >>= fun a73 => chk (s38.length < SZ) >>= fun _u74 => pure a73) >>= fun a63 =>
  (pure (s38 ++ [a63]) : M (List (Tx × (Tup Tx)))))))) a17 l40) >>= fun s38 =>
  (pure s38 : M (List (Tx × (Tup Tx))))))))))

def m__law_refusal (p0 : Tx) : M (List Bool) :=
  ((pure [] : M (List Bool)) >>= fun a1 =>
  (tryM exc_PoolError (fun (a3 : (List (Tx × (Tup Tx)))) => (a1 : (List Bool))) (fun (ec4 : Str) => ((((pure (isx ec4 "NoLine") : M Bool) >>= fun x9 => ((pure (isx ec4 "ValueError") : M Bool) >>= fun x7 => (pure [] : M (List Bool)) >>= fun r8 => pure (x7 :: r8)) >>= fun r10 => pure (x9 :: r10)) >>= fun a6 =>
  (((pure a6 : M (List Bool)) >>= fun x18 => ((pure (isx ec4 "NoKind") : M Bool) >>= fun x16 => ((pure (isx ec4 "NoFact") : M Bool) >>= fun x14 => ((pure (isx ec4 "NoName") : M Bool) >>= fun x12 => (pure [] : M (List Bool)) >>= fun r13 => pure (x12 :: r13)) >>= fun r15 => pure (x14 :: r15)) >>= fun r17 => pure (x16 :: r17)) >>= fun y19 => catM x18 y19) >>= fun a11 =>
  (pure a11 : M (List Bool)))) : M (List Bool))) ((pure p0 : M Tx) >>= fun x2 => m_read_facts x2) >>= fun (s5 : (List Bool)) =>
  (pure s5 : M (List Bool))))

def m__law_single (p0 : Tx) (p1 : (Option (List (Tx × (Tup Tx))))) : M Bool :=
  ((pure none : M (Option (Tx × (Tup Tx)))) >>= fun a1 =>
  ((pure [] : M (List Bool)) >>= fun a2 =>
  (tryM exc_PoolError (fun (a4 : (Tx × (Tup Tx))) => (((some a4), a2) : ((Option (Tx × (Tup Tx))) × (List Bool)))) (fun (ec5 : Str) => ((((pure (isx ec5 "NoLine") : M Bool) >>= fun x10 => ((pure (isx ec5 "ValueError") : M Bool) >>= fun x8 => (pure [] : M (List Bool)) >>= fun r9 => pure (x8 :: r9)) >>= fun r11 => pure (x10 :: r11)) >>= fun a7 =>
  (pure (a1, a7) : M ((Option (Tx × (Tup Tx))) × (List Bool)))) : M ((Option (Tx × (Tup Tx))) × (List Bool)))) ((pure p0 : M Tx) >>= fun x3 => m_read_fact x3) >>= fun (s6 : ((Option (Tx × (Tup Tx))) × (List Bool))) =>
  ((((pure p1 : M (Option (List (Tx × (Tup Tx))))) >>= fun x12 => (pure () : M Unit) >>= fun _y13 => (pure x12.isNone : M Bool)) >>= fun c18 => if c18 = true then pure true else ((((pure p1 : M (Option (List (Tx × (Tup Tx))))) >>= fun x14 => (ofO x14 : M (List (Tx × (Tup Tx))))) >>= fun x15 => (pure (x15.length : Int) : M Int)) >>= fun x16 => (pure (1 : Int) : M Int) >>= fun y17 => (pure (!decide (x16 = y17)) : M Bool))) >>= fun c19 => if c19 = true then ((pure s6.2 : M (List Bool)) >>= fun x24 => ((pure true : M Bool) >>= fun x22 => ((pure true : M Bool) >>= fun x20 => (pure [] : M (List Bool)) >>= fun r21 => pure (x20 :: r21)) >>= fun r23 => pure (x22 :: r23)) >>= fun y25 => (pure (decide (x24 = y25)) : M Bool)) else
  (((pure s6.2 : M (List Bool)) >>= fun x26 => (pure [] : M (List Bool)) >>= fun y27 => (pure (decide (x26 = y27)) : M Bool)) >>= fun c37 => if c37 = true then (((pure s6.1 : M (Option (Tx × (Tup Tx)))) >>= fun x29 => (pure (x29.isSome && true) : M Bool)) >>= fun c36 => if c36 = true then (((pure s6.1 : M (Option (Tx × (Tup Tx)))) >>= fun x33 => (ofO x33 : M (Tx × (Tup Tx)))) >>= fun x34 => (((pure p1 : M (Option (List (Tx × (Tup Tx))))) >>= fun x30 => (ofO x30 : M (List (Tx × (Tup Tx))))) >>= fun x31 => (pure (0 : Int) : M Int) >>= fun y32 => atL x31 y32) >>= fun y35 => (pure (decide (x34 = y35)) : M Bool)) else pure false) else pure false)))))

def m_law (p0 : (List Int)) : M Bool :=
  (((pure p0 : M (List Int)) >>= fun x2 => m__law_row x2) >>= fun a1 =>
  (((pure (tx ", ") : M Tx) >>= fun x7 => ((pure a1 : M (List (Tx × (Tup Tx)))) >>= fun y6 => lc (fun e4 => ((pure e4 : M (Tx × (Tup Tx))) >>= fun x5 => m__law_fact_text x5)) y6) >>= fun y8 => joinM x7 y8) >>= fun a3 =>
  (((pure a1 : M (List (Tx × (Tup Tx)))) >>= fun x10 => (pure x10 : M (List (Tx × (Tup Tx))))) >>= fun a9 =>
  ((((pure a9 : M (List (Tx × (Tup Tx)))) >>= fun x12 => m_facts_text x12) >>= fun x17 => ((((pure a1 : M (List (Tx × (Tup Tx)))) >>= fun x13 => (pure x13 : M (Tup (Tx × (Tup Tx))))) >>= fun x14 => m_facts_text_v1 x14) >>= fun x15 => (pure [] : M (List Tx)) >>= fun r16 => pure (x15 :: r16)) >>= fun r18 => pure (x17 :: r18)) >>= fun a11 =>
  ((((((pure a11 : M (List Tx)) >>= fun x19 => (pure (0 : Int) : M Int) >>= fun y20 => atL x19 y20) >>= fun _x21 => (pure true : M Bool)) >>= fun c22 => pure (!c22)) >>= fun c32 => if c32 = true then pure true else (((pure a11 : M (List Tx)) >>= fun x27 => ((pure a3 : M Tx) >>= fun x25 => ((pure a3 : M Tx) >>= fun x23 => (pure [] : M (List Tx)) >>= fun r24 => pure (x23 :: r24)) >>= fun r26 => pure (x25 :: r26)) >>= fun y28 => (pure (!decide (x27 = y28)) : M Bool)) >>= fun c31 => if c31 = true then pure true else ((pure a9 : M (List (Tx × (Tup Tx)))) >>= fun x29 => (pure a1 : M (List (Tx × (Tup Tx)))) >>= fun y30 => (pure (!decide (x29 = y30)) : M Bool)))) >>= fun c33 => if c33 = true then (pure false : M Bool) else
  (((pure a3 : M Tx) >>= fun x35 => m_read_facts x35) >>= fun a34 =>
  (((((pure a34 : M (List (Tx × (Tup Tx)))) >>= fun _x36 => (pure true : M Bool)) >>= fun c37 => pure (!c37)) >>= fun c40 => if c40 = true then pure true else ((pure a34 : M (List (Tx × (Tup Tx)))) >>= fun x38 => (pure a1 : M (List (Tx × (Tup Tx)))) >>= fun y39 => (pure (!decide (x38 = y39)) : M Bool))) >>= fun c41 => if c41 = true then (pure false : M Bool) else
  ((((pure p0 : M (List Int)) >>= fun x43 => (pure (0 : Int) : M Int) >>= fun x44 => m__law_cell_at x43 x44) >>= fun x45 => (pure (4 : Int) : M Int) >>= fun y46 => modI x45 y46) >>= fun a42 =>
  (((((pure p0 : M (List Int)) >>= fun x48 => (pure (1 : Int) : M Int) >>= fun x49 => m__law_cell_at x48 x49) >>= fun x50 => (pure (3 : Int) : M Int) >>= fun x51 => m__law_mix x50 x51) >>= fun x55 => (((pure a3 : M Tx) >>= fun x52 => lenT x52) >>= fun x53 => (pure (1 : Int) : M Int) >>= fun y54 => (pure (x53 + y54) : M Int)) >>= fun y56 => modI x55 y56) >>= fun a47 =>
  ((((pure p0 : M (List Int)) >>= fun x58 => (pure (2 : Int) : M Int) >>= fun x59 => m__law_cell_at x58 x59) >>= fun x60 => (pure (5 : Int) : M Int) >>= fun x61 => m__law_mix x60 x61) >>= fun a57 =>
  ((((pure a57 : M Int) >>= fun x63 => (pure (2 : Int) : M Int) >>= fun y64 => divI x63 y64) >>= fun x65 => m__law_sign x65) >>= fun a62 =>
  (((((pure a57 : M Int) >>= fun x66 => (pure (2 : Int) : M Int) >>= fun y67 => modI x66 y67) >>= fun x68 => (pure (1 : Int) : M Int) >>= fun y69 => (pure (decide (x68 = y69)) : M Bool)) >>= fun c70 => if c70 = true then (((pure (tx "(), aA1;\n") : M Tx) >>= fun x73 => (((pure a57 : M Int) >>= fun x75 => (pure (2 : Int) : M Int) >>= fun y76 => divI x75 y76) >>= fun x77 => (pure (9 : Int) : M Int) >>= fun y78 => modI x77 y78) >>= fun y74 => atT x73 y74) >>= fun a72 =>
  (pure a72 : M Tx)) else (pure a62 : M Tx)) >>= fun s71 =>
  (((pure a3 : M Tx) >>= fun x85 => (pure a42 : M Int) >>= fun x86 => ((pure a3 : M Tx) >>= fun x82 => (pure a47 : M Int) >>= fun x83 => ((pure a57 : M Int) >>= fun x80 => (pure (18 : Int) : M Int) >>= fun y81 => divI x80 y81) >>= fun x84 => m__law_place x82 x83 x84) >>= fun x87 => (pure s71 : M Tx) >>= fun x88 => m__law_spoiled x85 x86 x87 x88) >>= fun a79 =>
  (((pure a79 : M Tx) >>= fun x90 => m__law_read x90) >>= fun a89 =>
  ((((pure a79 : M Tx) >>= fun x91 => (pure a89 : M (Option (List (Tx × (Tup Tx))))) >>= fun x92 => m__law_single x91 x92) >>= fun c93 => pure (!c93)) >>= fun c94 => if c94 = true then (pure false : M Bool) else
  (((pure a89 : M (Option (List (Tx × (Tup Tx))))) >>= fun x95 => (pure () : M Unit) >>= fun _y96 => (pure x95.isNone : M Bool)) >>= fun c97 => if c97 = true then (((pure a79 : M Tx) >>= fun x98 => m__law_refusal x98) >>= fun x109 => ((pure true : M Bool) >>= fun x107 => ((pure true : M Bool) >>= fun x105 => ((pure false : M Bool) >>= fun x103 => ((pure false : M Bool) >>= fun x101 => ((pure false : M Bool) >>= fun x99 => (pure [] : M (List Bool)) >>= fun r100 => pure (x99 :: r100)) >>= fun r102 => pure (x101 :: r102)) >>= fun r104 => pure (x103 :: r104)) >>= fun r106 => pure (x105 :: r106)) >>= fun r108 => pure (x107 :: r108)) >>= fun y110 => (pure (decide (x109 = y110)) : M Bool)) else
  (((pure a79 : M Tx) >>= fun x112 => m_read_facts x112) >>= fun a111 =>
  (((pure a111 : M (List (Tx × (Tup Tx)))) >>= fun _x113 => (pure true : M Bool)) >>= fun c117 => if c117 = true then ((pure a111 : M (List (Tx × (Tup Tx)))) >>= fun x115 => ((pure a89 : M (Option (List (Tx × (Tup Tx))))) >>= fun x114 => (ofO x114 : M (List (Tx × (Tup Tx))))) >>= fun y116 => (pure (decide (x115 = y116)) : M Bool)) else pure false))))))))))))))))))
end Q

set_option Elab.async false
set_option linter.all false
set_option maxRecDepth 100000
set_option maxHeartbeats 4000000
namespace Q
open PySem L2 G
/-! what the top has left -/
structure Fx (K : Fg) (mg : Str → Option Value) : Prop where
  f_is_name : ∃ fd, FunD K "is_name" "is_name" (defArgs (top 11)) (defBody (top 11)) (defScope (top 11)) [] [] (He.ga K "is_name") fd
  g_is_name : mg "is_name" = some (.ref (He.ga K "is_name"))
  f_is_kind : ∃ fd, FunD K "is_kind" "is_kind" (defArgs (top 12)) (defBody (top 12)) (defScope (top 12)) [] [] (He.ga K "is_kind") fd
  g_is_kind : mg "is_kind" = some (.ref (He.ga K "is_kind"))
  f_pieces : ∃ fd, FunD K "pieces" "pieces" (defArgs (top 13)) (defBody (top 13)) (defScope (top 13)) [] [] (He.ga K "pieces") fd
  g_pieces : mg "pieces" = some (.ref (He.ga K "pieces"))
  f_piece_at : ∃ fd, FunD K "piece_at" "piece_at" (defArgs (top 14)) (defBody (top 14)) (defScope (top 14)) [] [] (He.ga K "piece_at") fd
  g_piece_at : mg "piece_at" = some (.ref (He.ga K "piece_at"))
  f_take_arguments : ∃ fd, FunD K "take_arguments" "take_arguments" (defArgs (top 15)) (defBody (top 15)) (defScope (top 15)) [] [] (He.ga K "take_arguments") fd
  g_take_arguments : mg "take_arguments" = some (.ref (He.ga K "take_arguments"))
  f_take_fact : ∃ fd, FunD K "take_fact" "take_fact" (defArgs (top 16)) (defBody (top 16)) (defScope (top 16)) [] [] (He.ga K "take_fact") fd
  g_take_fact : mg "take_fact" = some (.ref (He.ga K "take_fact"))
  f_take_facts : ∃ fd, FunD K "take_facts" "take_facts" (defArgs (top 17)) (defBody (top 17)) (defScope (top 17)) [] [] (He.ga K "take_facts") fd
  g_take_facts : mg "take_facts" = some (.ref (He.ga K "take_facts"))
  f_fact_text : ∃ fd, FunD K "fact_text" "fact_text" (defArgs (top 18)) (defBody (top 18)) (defScope (top 18)) [] [] (He.ga K "fact_text") fd
  g_fact_text : mg "fact_text" = some (.ref (He.ga K "fact_text"))
  f_read_fact : ∃ fd, FunD K "read_fact" "read_fact" (defArgs (top 19)) (defBody (top 19)) (defScope (top 19)) [] [] (He.ga K "read_fact") fd
  g_read_fact : mg "read_fact" = some (.ref (He.ga K "read_fact"))
  f_facts_text : ∃ fd, FunD K "facts_text" "facts_text" (defArgs (top 20)) (defBody (top 20)) (defScope (top 20)) [] [] (He.ga K "facts_text") fd
  g_facts_text : mg "facts_text" = some (.ref (He.ga K "facts_text"))
  f_read_facts : ∃ fd, FunD K "read_facts" "read_facts" (defArgs (top 21)) (defBody (top 21)) (defScope (top 21)) [] [] (He.ga K "read_facts") fd
  g_read_facts : mg "read_facts" = some (.ref (He.ga K "read_facts"))
  f__law_cell_at : ∃ fd, FunD K "_law_cell_at" "_law_cell_at" (defArgs (top 23)) (defBody (top 23)) (defScope (top 23)) [] [] (He.ga K "_law_cell_at") fd
  g__law_cell_at : mg "_law_cell_at" = some (.ref (He.ga K "_law_cell_at"))
  f__law_mix : ∃ fd, FunD K "_law_mix" "_law_mix" (defArgs (top 24)) (defBody (top 24)) (defScope (top 24)) [] [] (He.ga K "_law_mix") fd
  g__law_mix : mg "_law_mix" = some (.ref (He.ga K "_law_mix"))
  f__law_names : ∃ fd, FunD K "_law_names" "_law_names" (defArgs (top 25)) (defBody (top 25)) (defScope (top 25)) [] [] (He.ga K "_law_names") fd
  g__law_names : mg "_law_names" = some (.ref (He.ga K "_law_names"))
  f__law_titles : ∃ fd, FunD K "_law_titles" "_law_titles" (defArgs (top 26)) (defBody (top 26)) (defScope (top 26)) [] [] (He.ga K "_law_titles") fd
  g__law_titles : mg "_law_titles" = some (.ref (He.ga K "_law_titles"))
  f__law_opens : ∃ fd, FunD K "_law_opens" "_law_opens" (defArgs (top 27)) (defBody (top 27)) (defScope (top 27)) [] [] (He.ga K "_law_opens") fd
  g__law_opens : mg "_law_opens" = some (.ref (He.ga K "_law_opens"))
  f__law_words : ∃ fd, FunD K "_law_words" "_law_words" (defArgs (top 28)) (defBody (top 28)) (defScope (top 28)) [] [] (He.ga K "_law_words") fd
  g__law_words : mg "_law_words" = some (.ref (He.ga K "_law_words"))
  f__law_sign : ∃ fd, FunD K "_law_sign" "_law_sign" (defArgs (top 29)) (defBody (top 29)) (defScope (top 29)) [] [] (He.ga K "_law_sign") fd
  g__law_sign : mg "_law_sign" = some (.ref (He.ga K "_law_sign"))
  f__law_fact_text : ∃ fd, FunD K "_law_fact_text" "_law_fact_text" (defArgs (top 30)) (defBody (top 30)) (defScope (top 30)) [] [] (He.ga K "_law_fact_text") fd
  g__law_fact_text : mg "_law_fact_text" = some (.ref (He.ga K "_law_fact_text"))
  f__law_sort : ∃ fd, FunD K "_law_sort" "_law_sort" (defArgs (top 31)) (defBody (top 31)) (defScope (top 31)) [] [] (He.ga K "_law_sort") fd
  g__law_sort : mg "_law_sort" = some (.ref (He.ga K "_law_sort"))
  f__law_next : ∃ fd, FunD K "_law_next" "_law_next" (defArgs (top 32)) (defBody (top 32)) (defScope (top 32)) [] [] (He.ga K "_law_next") fd
  g__law_next : mg "_law_next" = some (.ref (He.ga K "_law_next"))
  f__law_read : ∃ fd, FunD K "_law_read" "_law_read" (defArgs (top 33)) (defBody (top 33)) (defScope (top 33)) [] [] (He.ga K "_law_read") fd
  g__law_read : mg "_law_read" = some (.ref (He.ga K "_law_read"))
  f__law_spoiled : ∃ fd, FunD K "_law_spoiled" "_law_spoiled" (defArgs (top 34)) (defBody (top 34)) (defScope (top 34)) [] [] (He.ga K "_law_spoiled") fd
  g__law_spoiled : mg "_law_spoiled" = some (.ref (He.ga K "_law_spoiled"))
  f__law_place : ∃ fd, FunD K "_law_place" "_law_place" (defArgs (top 35)) (defBody (top 35)) (defScope (top 35)) [] [] (He.ga K "_law_place") fd
  g__law_place : mg "_law_place" = some (.ref (He.ga K "_law_place"))
  f__law_row : ∃ fd, FunD K "_law_row" "_law_row" (defArgs (top 36)) (defBody (top 36)) (defScope (top 36)) [] [] (He.ga K "_law_row") fd
  g__law_row : mg "_law_row" = some (.ref (He.ga K "_law_row"))
  f__law_refusal : ∃ fd, FunD K "_law_refusal" "_law_refusal" (defArgs (top 37)) (defBody (top 37)) (defScope (top 37)) [] [] (He.ga K "_law_refusal") fd
  g__law_refusal : mg "_law_refusal" = some (.ref (He.ga K "_law_refusal"))
  f__law_single : ∃ fd, FunD K "_law_single" "_law_single" (defArgs (top 38)) (defBody (top 38)) (defScope (top 38)) [] [] (He.ga K "_law_single") fd
  g__law_single : mg "_law_single" = some (.ref (He.ga K "_law_single"))
  f_law : ∃ fd, FunD K "law" "law" (defArgs (top 39)) (defBody (top 39)) (defScope (top 39)) [] [] (He.ga K "law") fd
  g_law : mg "law" = some (.ref (He.ga K "law"))
  em_PoolError : ∀ c ∈ exc_PoolError, (He.Fa.exm c "PoolError" true).ok K = true
  ex_PoolError : ∀ c ∈ exc_PoolError, excB K c = true
  kx_PoolError_NoFact : ∀ c ∈ exc_PoolError, kitOwnB K c "NoFact" (isx c "NoFact") = true
  kx_PoolError_NoKind : ∀ c ∈ exc_PoolError, kitOwnB K c "NoKind" (isx c "NoKind") = true
  kx_PoolError_NoLine : ∀ c ∈ exc_PoolError, kitOwnB K c "NoLine" (isx c "NoLine") = true
  kx_PoolError_NoName : ∀ c ∈ exc_PoolError, kitOwnB K c "NoName" (isx c "NoName") = true
  kx_PoolError_ValueError : ∀ c ∈ exc_PoolError, kitTyB K c "ValueError" (isx c "ValueError") = true
  g_NoFact : mg "NoFact" = some (.ref (He.ga K "NoFact"))
  g_NoKind : mg "NoKind" = some (.ref (He.ga K "NoKind"))
  g_NoName : mg "NoName" = some (.ref (He.ga K "NoName"))
  g_PoolError : mg "PoolError" = some (.ref (He.ga K "PoolError"))
  n_ValueError : mg "ValueError" = none
  n_isinstance : mg "isinstance" = none
  n_len : mg "len" = none
  n_list : mg "list" = none
  n_max : mg "max" = none
  n_range : mg "range" = none
  n_str : mg "str" = none
  n_tuple : mg "tuple" = none
  s_FIGURES : ∃ t, mg "FIGURES" = some (.str (Str.ofString "0123456789") t)
  s_GREAT : ∃ t, mg "GREAT" = some (.str (Str.ofString "ABCDEFGHIJKLMNOPQRSTUVWXYZ") t)
  s_SIGNS : ∃ t, mg "SIGNS" = some (.str (Str.ofString "(),;:=-") t)
  s_SMALL : ∃ t, mg "SMALL" = some (.str (Str.ofString "abcdefghijklmnopqrstuvwxyz") t)
  g_NoLine : mg "NoLine" = some (.ref (He.ga K "NoLine"))
  x_NoLine : (He.Fa.exc "NoLine").ok K = true
/-! each def keeps its promise -/
abbrev N_is_name : List Str := ["text", "sign"]
theorem nd_is_name : N_is_name.Nodup := by decide +kernel
theorem ok_is_name {P : Program} {w : World} {K : Fg} {mg : Str → Option Value} {base : Heap} (T : Fx K mg) : OkF P w K mg base "is_name" 1 (sp1 K m_is_name) :=
  mkF1 (N := N_is_name) T.f_is_name T.g_is_name ⟨rfl, rfl, rfl, nd_is_name, rfl, by decide +kernel, by decide +kernel⟩ (fun _ _ _ _ _ _ us hl => match us, hl with | [_], _ => rfl) fun cdv A outer s H E hr p0 b hown => by
    unfold m_is_name
    exact (js_if1 pi_rt (jt_not (jt_chain op_le ro_le op_le ro_le je_int (je_callB call_len_str ra_lenS T.n_len bt_len (je_var 0 rfl)) je_int)) (js_ret je_bl)
  (js_forR (Lf := fun (s9 : Unit) => [.im (rp K p0), .no]) (wr := id) (fun _ _ h => h) (ji_str (je_var 0 rfl)) (jg_name 1 (fun _ => nd_is_name)) (Wk.s (Wk.s Wk.nil)) (fun F14 s9 e10 => (js_if2 (jw_jt (jw_and (jt_cmp op_notInS ro_notIn (je_var 1 rfl) (je_gstr T.s_SMALL)) (jw_and (jt_cmp op_notInS ro_notIn (je_var 1 rfl) (je_gstr T.s_GREAT)) (jw_and1 (jt_cmp op_notInS ro_notIn (je_var 1 rfl) (je_gstr T.s_FIGURES)))))) (js_retL je_bl) (js_nilL (Wk.s (Wk.n Wk.nil))))) (fun s9 =>
  (js_ret je_bl)) pasO))

abbrev N_is_kind : List Str := ["text"]
theorem nd_is_kind : N_is_kind.Nodup := by decide +kernel
theorem ok_is_kind {P : Program} {w : World} {K : Fg} {mg : Str → Option Value} {base : Heap} (T : Fx K mg) : OkF P w K mg base "is_kind" 2 (sp1 K m_is_kind) :=
  mkF1 (N := N_is_kind) T.f_is_kind T.g_is_kind ⟨rfl, rfl, rfl, nd_is_kind, rfl, by decide +kernel, by decide +kernel⟩ (fun _ _ _ _ _ _ us hl => match us, hl with | [_], _ => rfl) fun cdv A outer s H E hr p0 b hown => by
    unfold m_is_kind
    exact (js_ret (je_and (je_call1 (ok_is_name T) (hr.mono (by decide)) pasF (je_var 0 rfl)) (je_one (je_cmp op_inS ro_in (je_ix ix_str ro_ixS (je_var 0 rfl) je_int) (je_gstr T.s_SMALL)))))

abbrev N_pieces : List Str := ["text", "found", "name", "sign"]
theorem nd_pieces : N_pieces.Nodup := by decide +kernel
theorem ok_pieces {P : Program} {w : World} {K : Fg} {mg : Str → Option Value} {base : Heap} (T : Fx K mg) : OkF P w K mg base "pieces" 1 (sp1 K m_pieces) :=
  mkF1 (N := N_pieces) T.f_pieces T.g_pieces ⟨rfl, rfl, rfl, nd_pieces, rfl, by decide +kernel, by decide +kernel⟩ (fun _ _ _ _ _ _ us hl => match us, hl with | [_], _ => rfl) fun cdv A outer s H E hr p0 b hown => by
    unfold m_pieces
    exact (js_cons (j1_setF 1 (jf_lst jl_nil) nd_pieces) fun a1 =>
  (js_cons (j1_set 2 je_str nd_pieces) fun a2 =>
  (js_cons (j1_forB (Lf := fun (s4 : ((List Tx) × Tx)) => [.im (rp K p0), .mu (ctL K s4.1), .im (rp K s4.2), .no]) (ji_str (je_var 0 rfl)) (jg_name 3 (fun _ => nd_pieces)) (Wk.s (Wk.s (Wk.s (Wk.s Wk.nil)))) (fun F9 s4 e5 => (js_if1 pi_tl (jw_jt (jw_or (jt_cmp op_inS ro_in (je_var 3 rfl) (je_gstr T.s_SMALL)) (jw_or (jt_cmp op_inS ro_in (je_var 3 rfl) (je_gstr T.s_GREAT)) (jw_or1 (jt_cmp op_inS ro_in (je_var 3 rfl) (je_gstr T.s_FIGURES)))))) (js_cons (j1_aug 2 iop_add_str ro_addT (je_var 3 rfl) nd_pieces) fun a19 =>
  (js_cnt (Wk.s (Wk.s (Wk.s (Wk.n Wk.nil))))))
  (js_cons (j1_if (Lf := fun (s24 : ((List Tx) × Tx)) => [.im (rp K p0), .mu (ctL K s24.1), .im (rp K s24.2), .im (rp K e5)]) (jt_cmp op_ne ro_neT (je_var 2 rfl) je_str) (js_cons (j1_append 1 (je_var 2 rfl)) fun a25 =>
  (js_cons (j1_set 2 je_str nd_pieces) fun a28 =>
  (js_nilP (Wk.s (Wk.s (Wk.s (Wk.s Wk.nil))))))) (js_nilP (Wk.s (Wk.s (Wk.s (Wk.s Wk.nil)))))) fun s24 =>
  (js_if2 (jt_cmp op_inS ro_in (je_var 3 rfl) (je_gstr T.s_SIGNS)) (js_cons (j1_append 1 (je_var 3 rfl)) fun a32 =>
  (js_nilL (Wk.s (Wk.s (Wk.s (Wk.n Wk.nil)))))) (js_if2 (jt_cmp op_ne ro_neT (je_var 3 rfl) je_str) (js_raise takF rfl T.g_NoLine T.x_NoLine) (js_nilL (Wk.s (Wk.s (Wk.s (Wk.n Wk.nil)))))))))) pasO) fun s4 =>
  (js_cons (j1_if (Lf := fun (s41 : (List Tx)) => [.im (rp K p0), .mu (ctL K s41), .im (rp K s4.2), .no]) (jt_cmp op_ne ro_neT (je_var 2 rfl) je_str) (js_cons (j1_append 1 (je_var 2 rfl)) fun a42 =>
  (js_nilP (Wk.s (Wk.s (Wk.s (Wk.s Wk.nil)))))) (js_nilP (Wk.s (Wk.s (Wk.s (Wk.s Wk.nil)))))) fun s41 =>
  (js_frz 1 (js_ret (je_var 1 rfl)) hown)))))

abbrev N_piece_at : List Str := ["found", "at"]
theorem nd_piece_at : N_piece_at.Nodup := by decide +kernel
theorem ok_piece_at {P : Program} {w : World} {K : Fg} {mg : Str → Option Value} {base : Heap} (T : Fx K mg) : OkF P w K mg base "piece_at" 1 (sp2 K m_piece_at) :=
  mkF2 (N := N_piece_at) T.f_piece_at T.g_piece_at ⟨rfl, rfl, rfl, nd_piece_at, rfl, by decide +kernel, by decide +kernel⟩ (fun _ _ _ _ _ _ us hl => match us, hl with | [_, _], _ => rfl) fun cdv A outer s H E hr p0 p1 b hown => by
    unfold m_piece_at
    exact (js_if1 pi_rt (jt_cmp op_lt ro_lt (je_var 1 rfl) (je_callB call_len_seq ra_lenL T.n_len bt_len (je_var 0 rfl))) (js_ret (je_ix ix_list ro_ixL (je_var 0 rfl) (je_var 1 rfl)))
  (js_ret je_str))

abbrev N_take_arguments : List Str := ["found", "at", "names", "name", "sign"]
theorem nd_take_arguments : N_take_arguments.Nodup := by decide +kernel
theorem ok_take_arguments {P : Program} {w : World} {K : Fg} {mg : Str → Option Value} {base : Heap} (T : Fx K mg) : OkF P w K mg base "take_arguments" 2 (sp2 K m_take_arguments) :=
  mkF2 (N := N_take_arguments) T.f_take_arguments T.g_take_arguments ⟨rfl, rfl, rfl, nd_take_arguments, rfl, by decide +kernel, by decide +kernel⟩ (fun _ _ _ _ _ _ us hl => match us, hl with | [_, _], _ => rfl) fun cdv A outer s H E hr p0 p1 b hown => by
    unfold m_take_arguments
    exact (js_if1 pi_rt (jt_cmp op_eq ro_eqT (je_call2 (ok_piece_at T) (hr.mono (by decide)) pasF (je_var 0 rfl) (je_var 1 rfl)) je_str) (js_ret (je_pair (je_tupU jl_nil) (je_bin op_add ro_add (je_var 1 rfl) je_int)))
  (js_cons (j1_setF 2 (jf_lst jl_nil) nd_take_arguments) fun a11 =>
  (js_whR (Lf := fun (s12 : (Int × (List Tx))) => [.im (rp K p0), .im (rp K s12.1), .mu (ctL K s12.2), .no, .no]) FUEL (wr := id) (fun _ _ h => h) (Wk.s (Wk.s (Wk.s (Wk.s (Wk.s Wk.nil))))) (fun s12 => (jt_val je_bl)) (fun s12 => (js_cons (j1_set 3 (je_call2 (ok_piece_at T) (hr.mono (by decide)) pasF (je_var 0 rfl) (je_var 1 rfl)) nd_take_arguments) fun a15 =>
  (js_if1 pi_tl (jt_not (jt_val (je_call1 (ok_is_name T) (hr.mono (by decide)) pasF (je_var 3 rfl)))) (js_raise takF rfl T.g_NoLine T.x_NoLine)
  (js_cons (j1_append 2 (je_var 3 rfl)) fun a21 =>
  (js_cons (j1_set 4 (je_call2 (ok_piece_at T) (hr.mono (by decide)) pasF (je_var 0 rfl) (je_bin op_add ro_add (je_var 1 rfl) je_int)) nd_take_arguments) fun a24 =>
  (js_cons (j1_aug 1 iop_add ro_add je_int nd_take_arguments) fun a29 =>
  (js_if1 pi_tl (jt_cmp op_eq ro_eqT (je_var 4 rfl) je_str) (js_frz 2 (js_retL (je_pair (je_callTy call_tuple_of ra_tupL T.n_tuple bt_tuple (je_var 2 rfl)) (je_var 1 rfl))) hown)
  (js_if2 (jt_cmp op_ne ro_neT (je_var 4 rfl) je_str) (js_raise takF rfl T.g_NoLine T.x_NoLine) (js_nilL (Wk.s (Wk.s (Wk.s (Wk.n (Wk.n Wk.nil)))))))))))))) (fun s12 =>
  js_stuck) pasO)))

abbrev N_take_fact : List Str := ["found", "at", "title", "taken"]
theorem nd_take_fact : N_take_fact.Nodup := by decide +kernel
theorem ok_take_fact {P : Program} {w : World} {K : Fg} {mg : Str → Option Value} {base : Heap} (T : Fx K mg) : OkF P w K mg base "take_fact" 3 (sp2 K m_take_fact) :=
  mkF2 (N := N_take_fact) T.f_take_fact T.g_take_fact ⟨rfl, rfl, rfl, nd_take_fact, rfl, by decide +kernel, by decide +kernel⟩ (fun _ _ _ _ _ _ us hl => match us, hl with | [_, _], _ => rfl) fun cdv A outer s H E hr p0 p1 b hown => by
    unfold m_take_fact
    exact (js_cons (j1_set 2 (je_call2 (ok_piece_at T) (hr.mono (by decide)) pasF (je_var 0 rfl) (je_var 1 rfl)) nd_take_fact) fun a1 =>
  (js_if1 pi_rt (jt_not (jt_val (je_call1 (ok_is_kind T) (hr.mono (by decide)) pasF (je_var 2 rfl)))) (js_raise takF rfl T.g_NoLine T.x_NoLine)
  (js_if1 pi_rt (jt_cmp op_ne ro_neT (je_call2 (ok_piece_at T) (hr.mono (by decide)) pasF (je_var 0 rfl) (je_bin op_add ro_add (je_var 1 rfl) je_int)) je_str) (js_ret (je_pair (je_pair (je_var 2 rfl) (je_tupU jl_nil)) (je_bin op_add ro_add (je_var 1 rfl) je_int)))
  (js_cons (j1_set 3 (je_call2 (ok_take_arguments T) (hr.mono (by decide)) pasF (je_var 0 rfl) (je_bin op_add ro_add (je_var 1 rfl) je_int)) nd_take_fact) fun a21 =>
  (js_ret (je_pair (je_pair (je_var 2 rfl) (je_p0 (je_var 3 rfl))) (je_p1 (je_var 3 rfl))))))))

abbrev N_take_facts : List Str := ["found", "at", "facts", "taken"]
theorem nd_take_facts : N_take_facts.Nodup := by decide +kernel
theorem ok_take_facts {P : Program} {w : World} {K : Fg} {mg : Str → Option Value} {base : Heap} (T : Fx K mg) : OkF P w K mg base "take_facts" 4 (sp2 K m_take_facts) :=
  mkF2 (N := N_take_facts) T.f_take_facts T.g_take_facts ⟨rfl, rfl, rfl, nd_take_facts, rfl, by decide +kernel, by decide +kernel⟩ (fun _ _ _ _ _ _ us hl => match us, hl with | [_, _], _ => rfl) fun cdv A outer s H E hr p0 p1 b hown => by
    unfold m_take_facts
    exact (js_cons (j1_setF 2 (jf_lst jl_nil) nd_take_facts) fun a1 =>
  (js_whR (Lf := fun (s2 : (Int × (List (Tx × (Tup Tx))))) => [.im (rp K p0), .im (rp K s2.1), .mu (ctL K s2.2), .no]) FUEL (wr := id) (fun _ _ h => h) (Wk.s (Wk.s (Wk.s (Wk.s Wk.nil)))) (fun s2 => (jt_val je_bl)) (fun s2 => (js_cons (j1_set 3 (je_call2 (ok_take_fact T) (hr.mono (by decide)) pasF (je_var 0 rfl) (je_var 1 rfl)) nd_take_facts) fun a5 =>
  (js_cons (j1_append 2 (je_p0 (je_var 3 rfl))) fun a8 =>
  (js_cons (j1_set 1 (je_p1 (je_var 3 rfl)) nd_take_facts) fun a13 =>
  (js_if1 pi_tl (jt_cmp op_ne ro_neT (je_call2 (ok_piece_at T) (hr.mono (by decide)) pasF (je_var 0 rfl) (je_var 1 rfl)) je_str) (js_frz 2 (js_retL (je_pair (je_var 2 rfl) (je_var 1 rfl))) hown)
  (js_cons (j1_aug 1 iop_add ro_add je_int nd_take_facts) fun a24 =>
  (js_nilL (Wk.s (Wk.s (Wk.s (Wk.n Wk.nil))))))))))) (fun s2 =>
  js_stuck) pasO))

abbrev N_fact_text : List Str := ["fact"]
theorem nd_fact_text : N_fact_text.Nodup := by decide +kernel
theorem ok_fact_text {P : Program} {w : World} {K : Fg} {mg : Str → Option Value} {base : Heap} (T : Fx K mg) : OkF P w K mg base "fact_text" 1 (sp1 K m_fact_text) :=
  mkF1 (N := N_fact_text) T.f_fact_text T.g_fact_text ⟨rfl, rfl, rfl, nd_fact_text, rfl, by decide +kernel, by decide +kernel⟩ (fun _ _ _ _ _ _ us hl => match us, hl with | [_], _ => rfl) fun cdv A outer s H E hr p0 b hown => by
    unfold m_fact_text
    exact (js_if1 pi_rt (jt_cmp op_eq ro_eqI (je_callB call_len_seq ra_lenU T.n_len bt_len (je_p1 (je_var 0 rfl))) je_int) (js_ret (je_p0 (je_var 0 rfl)))
  (js_ret (je_bin op_add_str ro_addT (je_bin op_add_str ro_addT (je_bin op_add_str ro_addT (je_p0 (je_var 0 rfl)) je_str) (je_m1 PySem.F.slot_str_join PySem.F.type_str_join mt_join rm_joinU je_str (je_p1 (je_var 0 rfl)))) je_str)))

abbrev N_read_fact : List Str := ["text", "found", "taken"]
theorem nd_read_fact : N_read_fact.Nodup := by decide +kernel
theorem ok_read_fact {P : Program} {w : World} {K : Fg} {mg : Str → Option Value} {base : Heap} (T : Fx K mg) : OkF P w K mg base "read_fact" 4 (sp1 K m_read_fact) :=
  mkF1 (N := N_read_fact) T.f_read_fact T.g_read_fact ⟨rfl, rfl, rfl, nd_read_fact, rfl, by decide +kernel, by decide +kernel⟩ (fun _ _ _ _ _ _ us hl => match us, hl with | [_], _ => rfl) fun cdv A outer s H E hr p0 b hown => by
    unfold m_read_fact
    exact (js_cons (j1_set 1 (je_call1 (ok_pieces T) (hr.mono (by decide)) pasF (je_var 0 rfl)) nd_read_fact) fun a1 =>
  (js_cons (j1_set 2 (je_call2 (ok_take_fact T) (hr.mono (by decide)) pasF (je_var 1 rfl) je_int) nd_read_fact) fun a3 =>
  (js_if1 pi_rt (jt_cmp op_ne ro_neI (je_p1 (je_var 2 rfl)) (je_callB call_len_seq ra_lenL T.n_len bt_len (je_var 1 rfl))) (js_raise takF rfl T.g_NoLine T.x_NoLine)
  (js_ret (je_p0 (je_var 2 rfl))))))

abbrev N_facts_text : List Str := ["facts", "fact"]
theorem nd_facts_text : N_facts_text.Nodup := by decide +kernel
theorem ok_facts_text {P : Program} {w : World} {K : Fg} {mg : Str → Option Value} {base : Heap} (T : Fx K mg) : OkF P w K mg base "facts_text" 2 (sp1 K m_facts_text) :=
  mkF1 (N := N_facts_text) T.f_facts_text T.g_facts_text ⟨rfl, rfl, rfl, nd_facts_text, rfl, by decide +kernel, by decide +kernel⟩ (fun _ _ _ _ _ _ us hl => match us, hl with | [_], _ => rfl) fun cdv A outer s H E hr p0 b hown => by
    unfold m_facts_text
    exact (js_ret (je_m1 PySem.F.slot_str_join PySem.F.type_str_join mt_join rm_join je_str (je_jf (jf_lc (own := [("fact", 1)]) (ji_list (je_var 0 rfl)) (jg_name 1 (fun _ => nd_facts_text)) (fun _ e1 => (je_call1 (ok_fact_text T) (hr.mono (by decide)) passL (je_var 1 rfl))) nd_facts_text (blkOk_by (N := N_facts_text) (sc := defScope (top 20)) (by decide +kernel))))))

abbrev N_facts_text_v1 : List Str := ["facts", "fact"]
theorem nd_facts_text_v1 : N_facts_text_v1.Nodup := by decide +kernel
theorem ok_facts_text_v1 {P : Program} {w : World} {K : Fg} {mg : Str → Option Value} {base : Heap} (T : Fx K mg) : OkF P w K mg base "facts_text" 2 (sp1 K m_facts_text_v1) :=
  mkF1 (N := N_facts_text_v1) T.f_facts_text T.g_facts_text ⟨rfl, rfl, rfl, nd_facts_text_v1, rfl, by decide +kernel, by decide +kernel⟩ (fun _ _ _ _ _ _ us hl => match us, hl with | [_], _ => rfl) fun cdv A outer s H E hr p0 b hown => by
    unfold m_facts_text_v1
    exact (js_ret (je_m1 PySem.F.slot_str_join PySem.F.type_str_join mt_join rm_join je_str (je_jf (jf_lc (own := [("fact", 1)]) (ji_tup (je_var 0 rfl)) (jg_name 1 (fun _ => nd_facts_text_v1)) (fun _ e1 => (je_call1 (ok_fact_text T) (hr.mono (by decide)) passL (je_var 1 rfl))) nd_facts_text_v1 (blkOk_by (N := N_facts_text_v1) (sc := defScope (top 20)) (by decide +kernel))))))

abbrev N_read_facts : List Str := ["text", "found", "taken"]
theorem nd_read_facts : N_read_facts.Nodup := by decide +kernel
theorem ok_read_facts {P : Program} {w : World} {K : Fg} {mg : Str → Option Value} {base : Heap} (T : Fx K mg) : OkF P w K mg base "read_facts" 5 (sp1 K m_read_facts) :=
  mkF1 (N := N_read_facts) T.f_read_facts T.g_read_facts ⟨rfl, rfl, rfl, nd_read_facts, rfl, by decide +kernel, by decide +kernel⟩ (fun _ _ _ _ _ _ us hl => match us, hl with | [_], _ => rfl) fun cdv A outer s H E hr p0 b hown => by
    unfold m_read_facts
    exact (js_cons (j1_set 1 (je_call1 (ok_pieces T) (hr.mono (by decide)) pasF (je_var 0 rfl)) nd_read_facts) fun a1 =>
  (js_if1 pi_rt (jt_cmp op_eq ro_eqI (je_callB call_len_seq ra_lenL T.n_len bt_len (je_var 1 rfl)) je_int) (js_ret (je_lst jl_nil))
  (js_cons (j1_set 2 (je_call2 (ok_take_facts T) (hr.mono (by decide)) pasF (je_var 1 rfl) je_int) nd_read_facts) fun a7 =>
  (js_if1 pi_rt (jt_cmp op_ne ro_neI (je_p1 (je_var 2 rfl)) (je_callB call_len_seq ra_lenL T.n_len bt_len (je_var 1 rfl))) (js_raise takF rfl T.g_NoLine T.x_NoLine)
  (js_ret (je_p0 (je_var 2 rfl)))))))

abbrev N__law_cell_at : List Str := ["_law_script", "_law_k"]
theorem nd__law_cell_at : N__law_cell_at.Nodup := by decide +kernel
theorem ok__law_cell_at {P : Program} {w : World} {K : Fg} {mg : Str → Option Value} {base : Heap} (T : Fx K mg) : OkF P w K mg base "_law_cell_at" 1 (sp2 K m__law_cell_at) :=
  mkF2 (N := N__law_cell_at) T.f__law_cell_at T.g__law_cell_at ⟨rfl, rfl, rfl, nd__law_cell_at, rfl, by decide +kernel, by decide +kernel⟩ (fun _ _ _ _ _ _ us hl => match us, hl with | [_, _], _ => rfl) fun cdv A outer s H E hr p0 p1 b hown => by
    unfold m__law_cell_at
    exact (js_if1 pi_rt (jt_cmp op_lt ro_lt (je_var 1 rfl) (je_callB call_len_seq ra_lenL T.n_len bt_len (je_var 0 rfl))) (js_ret (je_ix ix_list ro_ixL (je_var 0 rfl) (je_var 1 rfl)))
  (js_ret je_int))

abbrev N__law_mix : List Str := ["_law_cell", "_law_k", "_law_factor"]
theorem nd__law_mix : N__law_mix.Nodup := by decide +kernel
theorem ok__law_mix {P : Program} {w : World} {K : Fg} {mg : Str → Option Value} {base : Heap} (T : Fx K mg) : OkF P w K mg base "_law_mix" 1 (sp2 K m__law_mix) :=
  mkF2 (N := N__law_mix) T.f__law_mix T.g__law_mix ⟨rfl, rfl, rfl, nd__law_mix, rfl, by decide +kernel, by decide +kernel⟩ (fun _ _ _ _ _ _ us hl => match us, hl with | [_, _], _ => rfl) fun cdv A outer s H E hr p0 p1 b hown => by
    unfold m__law_mix
    exact (js_cons (j1_set 2 (je_ix ix_list ro_ixL (je_lst (jl_cons je_int (jl_cons je_int (jl_cons je_int (jl_cons je_int (jl_cons je_int (jl_cons je_int (jl_cons je_int jl_nil)))))))) (je_bin op_mod ro_mod (je_var 1 rfl) je_int)) nd__law_mix) fun a1 =>
  (js_ret (je_bin op_mod ro_mod (je_bin op_mul ro_mul (je_bin op_add ro_add (je_bin op_mod ro_mod (je_var 0 rfl) je_int) (je_bin op_mul ro_mul je_int (je_var 1 rfl))) (je_var 2 rfl)) je_int)))

abbrev N__law_names : List Str := ["_law_cell", "_law_many", "_law_firsts", "_law_rest", "_law_number", "_law_start", "_law_tail", "_law_size", "_law_at", "_law_k", "_law_sign_here", "_law_j"]
theorem nd__law_names : N__law_names.Nodup := by decide +kernel
theorem ok__law_names {P : Program} {w : World} {K : Fg} {mg : Str → Option Value} {base : Heap} (T : Fx K mg) : OkF P w K mg base "_law_names" 2 (sp3 K m__law_names) :=
  mkF3 (N := N__law_names) T.f__law_names T.g__law_names ⟨rfl, rfl, rfl, nd__law_names, rfl, by decide +kernel, by decide +kernel⟩ (fun _ _ _ _ _ _ us hl => match us, hl with | [_, _, _], _ => rfl) fun cdv A outer s H E hr p0 p1 p2 b hown => by
    unfold m__law_names
    exact (js_cons (j1_set 3 je_str nd__law_names) fun a1 =>
  (js_cons (j1_set 4 (je_call2 (ok__law_mix T) (hr.mono (by decide)) pasF (je_var 0 rfl) je_int) nd__law_names) fun a2 =>
  (js_cons (j1_set 5 (je_bin op_mod ro_mod (je_bin op_fdiv ro_div (je_var 4 rfl) je_int) (je_callB call_len_str ra_lenS T.n_len bt_len (je_var 2 rfl))) nd__law_names) fun a5 =>
  (js_cons (j1_set 6 (je_m1 PySem.F.slot_str_join PySem.F.type_str_join mt_join rm_join je_str (je_jf (jf_lc (own := [("_law_j", 11)]) (ji_range1 T.n_range je_int) (jg_name 11 (fun _ => nd__law_names)) (fun _ e13 => (je_ix ix_str ro_ixS (je_var 3 rfl) (je_bin op_mod ro_mod (je_bin op_add ro_add (je_bin op_fdiv ro_div (je_var 4 rfl) (je_bin op_add ro_add (je_var 11 rfl) je_int)) (je_bin op_mul ro_mul (je_var 11 rfl) (je_var 11 rfl))) je_int))) nd__law_names (blkOk_by (N := N__law_names) (sc := defScope (top 25)) (by decide +kernel))))) nd__law_names) fun a11 =>
  (js_if1 pi_rt (jt_cmp op_eq ro_eqI (je_bin op_mod ro_mod (je_var 4 rfl) je_int) je_int) (js_ret (je_jf (jf_lc (own := [("_law_k", 9)]) (ji_range1 T.n_range (je_var 1 rfl)) (jg_name 9 (fun _ => nd__law_names)) (fun _ e35 => (je_bin op_add_str ro_addT (je_ix ix_str ro_ixS (je_var 2 rfl) (je_var 5 rfl)) (je_slS (je_var 6 rfl) jo_no (jo_at (je_var 9 rfl))))) nd__law_names (blkOk_by (N := N__law_names) (sc := defScope (top 25)) (by decide +kernel)))))
  (js_if1 pi_rt (jt_cmp op_eq ro_eqI (je_bin op_mod ro_mod (je_var 4 rfl) je_int) je_int) (js_cons (j1_set 7 (je_bin op_mod ro_mod (je_bin op_fdiv ro_div (je_var 4 rfl) je_int) je_int) nd__law_names) fun a50 =>
  (js_ret (je_jf (jf_lc (own := [("_law_k", 9)]) (ji_range1 T.n_range (je_var 1 rfl)) (jg_name 9 (fun _ => nd__law_names)) (fun _ e56 => (je_bin op_add_str ro_addT (je_ix ix_str ro_ixS (je_var 2 rfl) (je_bin op_mod ro_mod (je_bin op_add ro_add (je_var 5 rfl) (je_var 9 rfl)) (je_callB call_len_str ra_lenS T.n_len bt_len (je_var 2 rfl)))) (je_slS (je_var 6 rfl) jo_no (jo_at (je_var 7 rfl))))) nd__law_names (blkOk_by (N := N__law_names) (sc := defScope (top 25)) (by decide +kernel))))))
  (js_cons (j1_set 7 (je_bin op_mod ro_mod (je_bin op_fdiv ro_div (je_var 4 rfl) je_int) je_int) nd__law_names) fun a71 =>
  (js_cons (j1_set 8 (je_bin op_mod ro_mod (je_bin op_fdiv ro_div (je_var 4 rfl) je_int) (je_bin op_add ro_add (je_var 7 rfl) je_int)) nd__law_names) fun a76 =>
  (js_cons (j1_setF 3 (jf_lc (own := [("_law_k", 9)]) (ji_range1 T.n_range (je_var 1 rfl)) (jg_name 9 (fun _ => nd__law_names)) (fun _ e85 => (je_ix ix_str ro_ixS (je_var 3 rfl) (je_bin op_mod ro_mod (je_bin op_add ro_add (je_bin op_fdiv ro_div (je_var 4 rfl) je_int) (je_var 9 rfl)) je_int))) nd__law_names (blkOk_by (N := N__law_names) (sc := defScope (top 25)) (by decide +kernel))) nd__law_names) fun a83 =>
  (js_frz 3 (js_ret (je_jf (jf_lc (own := [("_law_sign_here", 10)]) (ji_list (je_var 3 rfl)) (jg_name 10 (fun _ => nd__law_names)) (fun _ e95 => (je_bin op_add_str ro_addT (je_bin op_add_str ro_addT (je_bin op_add_str ro_addT (je_ix ix_str ro_ixS (je_var 2 rfl) (je_var 5 rfl)) (je_slS (je_var 6 rfl) jo_no (jo_at (je_var 8 rfl)))) (je_var 10 rfl)) (je_slS (je_var 6 rfl) (jo_at (je_var 8 rfl)) (jo_at (je_var 7 rfl))))) nd__law_names (blkOk_by (N := N__law_names) (sc := defScope (top 25)) (by decide +kernel))))) hown))))))))))

abbrev N__law_titles : List Str := ["_law_cell", "_law_many"]
theorem nd__law_titles : N__law_titles.Nodup := by decide +kernel
theorem ok__law_titles {P : Program} {w : World} {K : Fg} {mg : Str → Option Value} {base : Heap} (T : Fx K mg) : OkF P w K mg base "_law_titles" 3 (sp2 K m__law_titles) :=
  mkF2 (N := N__law_titles) T.f__law_titles T.g__law_titles ⟨rfl, rfl, rfl, nd__law_titles, rfl, by decide +kernel, by decide +kernel⟩ (fun _ _ _ _ _ _ us hl => match us, hl with | [_, _], _ => rfl) fun cdv A outer s H E hr p0 p1 b hown => by
    unfold m__law_titles
    exact (js_ret (je_call3 (ok__law_names T) (hr.mono (by decide)) pasF (je_var 0 rfl) (je_var 1 rfl) je_str))

abbrev N__law_opens : List Str := ["_law_cell", "_law_many"]
theorem nd__law_opens : N__law_opens.Nodup := by decide +kernel
theorem ok__law_opens {P : Program} {w : World} {K : Fg} {mg : Str → Option Value} {base : Heap} (T : Fx K mg) : OkF P w K mg base "_law_opens" 3 (sp2 K m__law_opens) :=
  mkF2 (N := N__law_opens) T.f__law_opens T.g__law_opens ⟨rfl, rfl, rfl, nd__law_opens, rfl, by decide +kernel, by decide +kernel⟩ (fun _ _ _ _ _ _ us hl => match us, hl with | [_, _], _ => rfl) fun cdv A outer s H E hr p0 p1 b hown => by
    unfold m__law_opens
    exact (js_ret (je_call3 (ok__law_names T) (hr.mono (by decide)) pasF (je_var 0 rfl) (je_var 1 rfl) je_str))

abbrev N__law_words : List Str := ["_law_cell", "_law_many"]
theorem nd__law_words : N__law_words.Nodup := by decide +kernel
theorem ok__law_words {P : Program} {w : World} {K : Fg} {mg : Str → Option Value} {base : Heap} (T : Fx K mg) : OkF P w K mg base "_law_words" 3 (sp2 K m__law_words) :=
  mkF2 (N := N__law_words) T.f__law_words T.g__law_words ⟨rfl, rfl, rfl, nd__law_words, rfl, by decide +kernel, by decide +kernel⟩ (fun _ _ _ _ _ _ us hl => match us, hl with | [_, _], _ => rfl) fun cdv A outer s H E hr p0 p1 b hown => by
    unfold m__law_words
    exact (js_ret (je_call3 (ok__law_names T) (hr.mono (by decide)) pasF (je_var 0 rfl) (je_var 1 rfl) je_str))

abbrev N__law_sign : List Str := ["_law_cell", "_law_some"]
theorem nd__law_sign : N__law_sign.Nodup := by decide +kernel
theorem ok__law_sign {P : Program} {w : World} {K : Fg} {mg : Str → Option Value} {base : Heap} (T : Fx K mg) : OkF P w K mg base "_law_sign" 1 (sp1 K m__law_sign) :=
  mkF1 (N := N__law_sign) T.f__law_sign T.g__law_sign ⟨rfl, rfl, rfl, nd__law_sign, rfl, by decide +kernel, by decide +kernel⟩ (fun _ _ _ _ _ _ us hl => match us, hl with | [_], _ => rfl) fun cdv A outer s H E hr p0 b hown => by
    unfold m__law_sign
    exact (js_cons (j1_set 1 je_str nd__law_sign) fun a1 =>
  (js_cons (j1_set 1 (je_bin op_add_str ro_addT (je_var 1 rfl) je_str) nd__law_sign) fun a2 =>
  (js_ret (je_ix ix_str ro_ixS (je_var 1 rfl) (je_bin op_mod ro_mod (je_var 0 rfl) je_int)))))

abbrev N__law_fact_text : List Str := ["_law_fact"]
theorem nd__law_fact_text : N__law_fact_text.Nodup := by decide +kernel
theorem ok__law_fact_text {P : Program} {w : World} {K : Fg} {mg : Str → Option Value} {base : Heap} (T : Fx K mg) : OkF P w K mg base "_law_fact_text" 1 (sp1 K m__law_fact_text) :=
  mkF1 (N := N__law_fact_text) T.f__law_fact_text T.g__law_fact_text ⟨rfl, rfl, rfl, nd__law_fact_text, rfl, by decide +kernel, by decide +kernel⟩ (fun _ _ _ _ _ _ us hl => match us, hl with | [_], _ => rfl) fun cdv A outer s H E hr p0 b hown => by
    unfold m__law_fact_text
    exact (js_if1 pi_rt (jt_cmp op_eq ro_eqI (je_callB call_len_seq ra_lenU T.n_len bt_len (je_p1 (je_var 0 rfl))) je_int) (js_ret (je_p0 (je_var 0 rfl)))
  (js_ret (je_bin op_add_str ro_addT (je_bin op_add_str ro_addT (je_bin op_add_str ro_addT (je_p0 (je_var 0 rfl)) je_str) (je_m1 PySem.F.slot_str_join PySem.F.type_str_join mt_join rm_joinU je_str (je_p1 (je_var 0 rfl)))) je_str)))

abbrev N__law_sort : List Str := ["_law_sign_here"]
theorem nd__law_sort : N__law_sort.Nodup := by decide +kernel
theorem ok__law_sort {P : Program} {w : World} {K : Fg} {mg : Str → Option Value} {base : Heap} (T : Fx K mg) : OkF P w K mg base "_law_sort" 1 (sp1 K m__law_sort) :=
  mkF1 (N := N__law_sort) T.f__law_sort T.g__law_sort ⟨rfl, rfl, rfl, nd__law_sort, rfl, by decide +kernel, by decide +kernel⟩ (fun _ _ _ _ _ _ us hl => match us, hl with | [_], _ => rfl) fun cdv A outer s H E hr p0 b hown => by
    unfold m__law_sort
    exact (js_if1 pi_rt (jt_cmp op_inS ro_in (je_var 0 rfl) je_str) (js_ret je_str)
  (js_if1 pi_rt (jt_cmp op_inS ro_in (je_var 0 rfl) je_str) (js_ret (je_var 0 rfl))
  (js_ret je_str)))

abbrev N__law_next : List Str := ["_law_state", "_law_sort_here", "_law_rows", "_law_ways", "_law_at"]
theorem nd__law_next : N__law_next.Nodup := by decide +kernel
theorem ok__law_next {P : Program} {w : World} {K : Fg} {mg : Str → Option Value} {base : Heap} (T : Fx K mg) : OkF P w K mg base "_law_next" 1 (sp2 K m__law_next) :=
  mkF2 (N := N__law_next) T.f__law_next T.g__law_next ⟨rfl, rfl, rfl, nd__law_next, rfl, by decide +kernel, by decide +kernel⟩ (fun _ _ _ _ _ _ us hl => match us, hl with | [_, _], _ => rfl) fun cdv A outer s H E hr p0 p1 b hown => by
    unfold m__law_next
    exact (js_cons (j1_set 2 (je_lst (jl_cons je_str (jl_cons je_str (jl_cons je_str (jl_cons je_str (jl_cons je_str (jl_cons je_str (jl_cons je_str (jl_cons je_str jl_nil))))))))) nd__law_next) fun a1 =>
  (js_cons (j1_set 3 (je_lst (jl_cons (je_tupU (jl_cons je_int (jl_cons je_int jl_nil))) (jl_cons (je_tupU (jl_cons je_int (jl_cons je_int (jl_cons je_int (jl_cons je_int jl_nil))))) (jl_cons (je_tupU (jl_cons je_int (jl_cons je_int (jl_cons je_int jl_nil)))) (jl_cons (je_tupU (jl_cons je_int (jl_cons je_int (jl_cons je_int jl_nil)))) (jl_cons (je_tupU (jl_cons je_int (jl_cons je_int (jl_cons je_int (jl_cons je_int jl_nil))))) (jl_cons (je_tupU (jl_cons je_int (jl_cons je_int (jl_cons je_int jl_nil)))) (jl_cons (je_tupU (jl_cons je_int (jl_cons je_int jl_nil))) (jl_cons (je_tupU (jl_cons je_int (jl_cons je_int jl_nil))) jl_nil))))))))) nd__law_next) fun a18 =>
  (js_cons (j1_set 4 (je_m1 PySem.F.slot_str_find PySem.F.type_str_find mt_find rm_find (je_ix ix_list ro_ixL (je_var 2 rfl) (je_var 0 rfl)) (je_var 1 rfl)) nd__law_next) fun a89 =>
  (js_if1 pi_rt (jt_cmp op_lt ro_lt (je_var 4 rfl) je_int) (js_ret (je_neg je_int))
  (js_ret (je_ix ix_tup ro_ixU (je_ix ix_list ro_ixL (je_var 3 rfl) (je_var 0 rfl)) (je_var 4 rfl)))))))

abbrev N__law_read : List Str := ["_law_text", "_law_facts", "_law_words_here", "_law_state", "_law_sign_here", "_law_came", "_law_word"]
theorem nd__law_read : N__law_read.Nodup := by decide +kernel
theorem ok__law_read {P : Program} {w : World} {K : Fg} {mg : Str → Option Value} {base : Heap} (T : Fx K mg) : OkF P w K mg base "_law_read" 2 (sp1 K m__law_read) :=
  mkF1 (N := N__law_read) T.f__law_read T.g__law_read ⟨rfl, rfl, rfl, nd__law_read, rfl, by decide +kernel, by decide +kernel⟩ (fun _ _ _ _ _ _ us hl => match us, hl with | [_], _ => rfl) fun cdv A outer s H E hr p0 b hown => by
    unfold m__law_read
    exact (js_if1 pi_rt (jt_cmp op_eq ro_eqT (je_m1 PySem.F.slot_str_strip PySem.F.type_str_strip mt_stripChars rm_strip (je_var 0 rfl) je_str) je_str) (js_ret (je_some (je_lst jl_nil)))
  (js_cons (j1_setF 1 (jf_lst jl_nil) nd__law_read) fun a7 =>
  (js_cons (j1_setF 2 (jf_lst jl_nil) nd__law_read) fun a8 =>
  (js_cons (j1_set 3 je_int nd__law_read) fun a9 =>
  (js_forR (Lf := fun (s13 : ((List (Tx × (Tup Tx))) × (List Tx) × Int)) => [.im (rp K p0), .mu (ctL K s13.1), .mu (ctL K s13.2.1), .im (rp K s13.2.2), .no, .no, .no]) (wr := id) (fun _ _ h => h) (ji_str (je_bin op_add_str ro_addT (je_var 0 rfl) je_str)) (jg_name 4 (fun _ => nd__law_read)) (Wk.s (Wk.s (Wk.s (Wk.s (Wk.s (Wk.s (Wk.s Wk.nil))))))) (fun F18 s13 e14 => (js_cons (j1_set 5 (je_call2 (ok__law_next T) (hr.mono (by decide)) pasF (je_var 3 rfl) (je_call1 (ok__law_sort T) (hr.mono (by decide)) pasF (je_var 4 rfl))) nd__law_read) fun a19 =>
  (js_if1 pi_tl (jt_cmp op_lt ro_lt (je_var 5 rfl) je_int) (js_retL je_non)
  (js_cons (j1_if (Lf := fun (s36 : (List Tx)) => [.im (rp K p0), .mu (ctL K s13.1), .mu (ctL K s36), .im (rp K s13.2.2), .im (rp K e14), .im (rp K a19), .no]) (jw_jt (jw_and (jt_cmp op_eq ro_eqI (je_var 5 rfl) (je_var 3 rfl)) (jw_and1 (jw_jt (jw_or (jt_cmp op_eq ro_eqI (je_var 5 rfl) je_int) (jw_or1 (jt_cmp op_eq ro_eqI (je_var 5 rfl) je_int))))))) (js_cons (j1_setIx 2 (je_bin op_add_str ro_addT (je_ixM 2 (je_bin op_sub ro_sub (je_lenM 2 T.n_len) je_int)) (je_var 4 rfl)) (je_bin op_sub ro_sub (je_lenM 2 T.n_len) je_int)) fun a37 =>
  (js_nilP (Wk.s (Wk.s (Wk.s (Wk.s (Wk.s (Wk.s (Wk.s Wk.nil))))))))) (js_nilP (Wk.s (Wk.s (Wk.s (Wk.s (Wk.s (Wk.s (Wk.s Wk.nil))))))))) fun s36 =>
  (js_cons (j1_if (Lf := fun (s54 : (List Tx)) => [.im (rp K p0), .mu (ctL K s13.1), .mu (ctL K s54), .im (rp K s13.2.2), .im (rp K e14), .im (rp K a19), .no]) (jw_jt (jw_and (jt_cmp op_ne ro_neI (je_var 5 rfl) (je_var 3 rfl)) (jw_and1 (jt_cmp op_eq ro_eqI (je_var 5 rfl) je_int)))) (js_cons (j1_setF 2 (jf_lst (jl_cons (je_var 4 rfl) jl_nil)) nd__law_read) fun a55 =>
  (js_nilP (Wk.s (Wk.s (Wk.s (Wk.s (Wk.s (Wk.s (Wk.s Wk.nil))))))))) (js_nilP (Wk.s (Wk.s (Wk.s (Wk.s (Wk.s (Wk.s (Wk.s Wk.nil))))))))) fun s54 =>
  (js_cons (j1_if (Lf := fun (s64 : (List Tx)) => [.im (rp K p0), .mu (ctL K s13.1), .mu (ctL K s64), .im (rp K s13.2.2), .im (rp K e14), .im (rp K a19), .no]) (jw_jt (jw_and (jt_cmp op_ne ro_neI (je_var 5 rfl) (je_var 3 rfl)) (jw_and1 (jt_cmp op_eq ro_eqI (je_var 5 rfl) je_int)))) (js_frz 2 (js_cons (j1_setF 2 (jf_cat (je_var 2 rfl) (je_lst (jl_cons (je_var 4 rfl) jl_nil))) nd__law_read) fun a65 =>
  (js_nilP (Wk.s (Wk.s (Wk.s (Wk.s (Wk.s (Wk.s (Wk.s Wk.nil))))))))) hown) (js_nilP (Wk.s (Wk.s (Wk.s (Wk.s (Wk.s (Wk.s (Wk.s Wk.nil))))))))) fun s64 =>
  (js_ifT (Lf := fun (s76 : (List (Tx × (Tup Tx)))) => [.im (rp K p0), .mu (ctL K s76), .mu (ctL K s64), .im (rp K s13.2.2), .im (rp K e14), .im (rp K a19), .no]) (wr := Tl.rt) (fun _ _ h => h) (jw_jt (jw_and (jt_cmp op_ne ro_neI (je_var 5 rfl) (je_var 3 rfl)) (jw_and1 (jt_cmp op_eq ro_eqI (je_var 5 rfl) je_int)))) (js_if1Q (jt_thaw 2 (jw_jt (jw_or (jt_cmp op_gt ro_gt (je_callB (cr_max rfl) ra_max T.n_max bt_max (je_jf (jf_lc (own := [("_law_word", 6)]) (ji_list (je_var 2 rfl)) (jg_name 6 (fun _ => nd__law_read)) (fun _ e77 => (je_callB call_len_str ra_lenS T.n_len bt_len (je_var 6 rfl))) nd__law_read (blkOk_by (N := N__law_read) (sc := defScope (top 33)) (by decide +kernel))))) je_int) (jw_or1 (jt_cmp op_notInS ro_notIn (je_ix ix_str ro_ixS (je_ix ix_list ro_ixL (je_var 2 rfl) je_int) je_int) je_str)))) hown) (js_ret je_non)
  (js_cons (j1_append 1 (je_pair (je_ixM 2 je_int) (je_callTy call_tuple_of ra_tupL T.n_tuple bt_tuple (je_slM 2 (jo_at je_int) jo_no)))) fun a92 =>
  (js_nilQ (Wk.s (Wk.s (Wk.s (Wk.s (Wk.s (Wk.s (Wk.s Wk.nil)))))))))) (js_nilQ (Wk.s (Wk.s (Wk.s (Wk.s (Wk.s (Wk.s (Wk.s Wk.nil)))))))) fun s76 =>
  (js_cons (j1_set 3 (je_var 5 rfl) nd__law_read) fun a104 =>
  (js_nilL (Wk.s (Wk.s (Wk.s (Wk.s (Wk.n (Wk.n (Wk.s Wk.nil)))))))))))))))) (fun s13 =>
  (js_if1 pi_rt (jt_cmp op_ne ro_neI (je_var 3 rfl) je_int) (js_ret je_non)
  (js_frz 1 (js_ret (je_some (je_var 1 rfl))) hown))) pasO)))))

abbrev N__law_spoiled : List Str := ["_law_text", "_law_way", "_law_at", "_law_sign_here"]
theorem nd__law_spoiled : N__law_spoiled.Nodup := by decide +kernel
theorem ok__law_spoiled {P : Program} {w : World} {K : Fg} {mg : Str → Option Value} {base : Heap} (T : Fx K mg) : OkF P w K mg base "_law_spoiled" 1 (sp4 K m__law_spoiled) :=
  mkF4 (N := N__law_spoiled) T.f__law_spoiled T.g__law_spoiled ⟨rfl, rfl, rfl, nd__law_spoiled, rfl, by decide +kernel, by decide +kernel⟩ (fun _ _ _ _ _ _ us hl => match us, hl with | [_, _, _, _], _ => rfl) fun cdv A outer s H E hr p0 p1 p2 p3 b hown => by
    unfold m__law_spoiled
    exact (js_if1 pi_rt (jt_cmp op_eq ro_eqI (je_var 1 rfl) je_int) (js_ret (je_bin op_add_str ro_addT (je_bin op_add_str ro_addT (je_slS (je_var 0 rfl) jo_no (jo_at (je_var 2 rfl))) je_str) (je_slS (je_var 0 rfl) (jo_at (je_var 2 rfl)) jo_no)))
  (js_if1 pi_rt (jt_cmp op_eq ro_eqI (je_var 1 rfl) je_int) (js_ret (je_bin op_add_str ro_addT (je_bin op_add_str ro_addT (je_slS (je_var 0 rfl) jo_no (jo_at (je_var 2 rfl))) (je_var 3 rfl)) (je_slS (je_var 0 rfl) (jo_at (je_var 2 rfl)) jo_no)))
  (js_if1 pi_rt (jt_cmp op_eq ro_eqI (je_var 1 rfl) je_int) (js_ret (je_bin op_add_str ro_addT (je_slS (je_var 0 rfl) jo_no (jo_at (je_var 2 rfl))) (je_slS (je_var 0 rfl) (jo_at (je_bin op_add ro_add (je_var 2 rfl) je_int)) jo_no)))
  (js_ret (je_bin op_add_str ro_addT (je_bin op_add_str ro_addT (je_slS (je_var 0 rfl) jo_no (jo_at (je_var 2 rfl))) (je_var 3 rfl)) (je_slS (je_var 0 rfl) (jo_at (je_bin op_add ro_add (je_var 2 rfl) je_int)) jo_no))))))

abbrev N__law_place : List Str := ["_law_text", "_law_at", "_law_number", "_law_k"]
theorem nd__law_place : N__law_place.Nodup := by decide +kernel
theorem ok__law_place {P : Program} {w : World} {K : Fg} {mg : Str → Option Value} {base : Heap} (T : Fx K mg) : OkF P w K mg base "_law_place" 1 (sp3 K m__law_place) :=
  mkF3 (N := N__law_place) T.f__law_place T.g__law_place ⟨rfl, rfl, rfl, nd__law_place, rfl, by decide +kernel, by decide +kernel⟩ (fun _ _ _ _ _ _ us hl => match us, hl with | [_, _, _], _ => rfl) fun cdv A outer s H E hr p0 p1 p2 b hown => by
    unfold m__law_place
    exact (js_ifT (Lf := fun (s6 : Unit) => [.im (rp K p0), .im (rp K p1), .im (rp K p2), .no]) (wr := id) (fun _ _ h => h) (jt_cmp op_eq ro_eqI (je_bin op_mod ro_mod (je_var 2 rfl) je_int) je_int) (js_forR (Lf := fun (s10 : Unit) => [.im (rp K p0), .im (rp K p1), .im (rp K p2), .no]) (wr := Tl.rt) (fun _ _ h => h) (ji_range2 T.n_range (je_var 1 rfl) (je_callB call_len_str ra_lenS T.n_len bt_len (je_var 0 rfl))) (jg_name 3 (fun _ => nd__law_place)) (Wk.s (Wk.s (Wk.s (Wk.s Wk.nil)))) (fun F15 s10 e11 => (js_if2 (jt_cmp op_inS ro_in (je_ix ix_str ro_ixS (je_var 0 rfl) (je_var 3 rfl)) je_str) (js_retL (je_var 3 rfl)) (js_nilL (Wk.s (Wk.s (Wk.s (Wk.n Wk.nil))))))) (fun s10 =>
  (js_nilQ (Wk.s (Wk.s (Wk.s (Wk.s Wk.nil)))))) pasO) (js_nilQ (Wk.s (Wk.s (Wk.s (Wk.s Wk.nil))))) fun s6 =>
  (js_ret (je_var 1 rfl)))

abbrev N__law_row : List Str := ["_law_script", "_law_titles_here", "_law_names_here", "_law_facts", "_law_cells", "_law_cell", "_law_number", "_law_args", "_law_k"]
theorem nd__law_row : N__law_row.Nodup := by decide +kernel
theorem ok__law_row {P : Program} {w : World} {K : Fg} {mg : Str → Option Value} {base : Heap} (T : Fx K mg) : OkF P w K mg base "_law_row" 4 (sp1 K m__law_row) :=
  mkF1 (N := N__law_row) T.f__law_row T.g__law_row ⟨rfl, rfl, rfl, nd__law_row, rfl, by decide +kernel, by decide +kernel⟩ (fun _ _ _ _ _ _ us hl => match us, hl with | [_], _ => rfl) fun cdv A outer s H E hr p0 b hown => by
    unfold m__law_row
    exact (js_cons (j1_set 1 (je_call2 (ok__law_titles T) (hr.mono (by decide)) pasF (je_call2 (ok__law_cell_at T) (hr.mono (by decide)) pasF (je_var 0 rfl) je_int) je_int) nd__law_row) fun a1 =>
  (js_cons (j1_set 2 (je_bin op_catQ ro_catL (je_call2 (ok__law_opens T) (hr.mono (by decide)) pasF (je_call2 (ok__law_cell_at T) (hr.mono (by decide)) pasF (je_var 0 rfl) je_int) je_int) (je_call2 (ok__law_words T) (hr.mono (by decide)) pasF (je_call2 (ok__law_cell_at T) (hr.mono (by decide)) pasF (je_var 0 rfl) je_int) je_int)) nd__law_row) fun a6 =>
  (js_cons (j1_setF 3 (jf_lst jl_nil) nd__law_row) fun a17 =>
  (js_cons (j1_set 4 (je_slL (je_var 0 rfl) (jo_at je_int) (jo_at je_int)) nd__law_row) fun a18 =>
  (js_cons (j1_if (Lf := fun (s31 : (List Int)) => [.im (rp K p0), .im (rp K a1), .im (rp K a6), .mu (ctL K a17), .im (rp K s31), .no, .no, .no, .no]) (jt_cmp op_eq ro_eqI (je_bin op_mod ro_mod (je_call2 (ok__law_cell_at T) (hr.mono (by decide)) pasF (je_var 0 rfl) je_int) je_int) je_int) (js_cons (j1_set 4 (je_slL (je_var 0 rfl) (jo_at je_int) (jo_at je_int)) nd__law_row) fun a32 =>
  (js_nilP (Wk.s (Wk.s (Wk.s (Wk.s (Wk.s (Wk.s (Wk.s (Wk.s (Wk.s Wk.nil))))))))))) (js_nilP (Wk.s (Wk.s (Wk.s (Wk.s (Wk.s (Wk.s (Wk.s (Wk.s (Wk.s Wk.nil))))))))))) fun s31 =>
  (js_cons (j1_forP (Lf := fun (s38 : (List (Tx × (Tup Tx)))) => [.im (rp K p0), .im (rp K a1), .im (rp K a6), .mu (ctL K s38), .im (rp K s31), .no, .no, .no, .no]) (ji_list (je_var 4 rfl)) (jg_name 5 (fun _ => nd__law_row)) (Wk.s (Wk.s (Wk.s (Wk.s (Wk.s (Wk.s (Wk.s (Wk.s (Wk.s Wk.nil))))))))) (fun F43 s38 e39 => (js_cons (j1_set 6 (je_call2 (ok__law_mix T) (hr.mono (by decide)) pasF (je_var 5 rfl) je_int) nd__law_row) fun a44 =>
  (js_cons (j1_setLc 7 (own := [("_law_k", 8)]) (ji_range1 T.n_range (je_bin op_mod ro_mod (je_var 6 rfl) je_int)) (jg_name 8 (fun _ => nd__law_row)) (fun _ e51 => (je_ix ix_list ro_ixL (je_var 2 rfl) (je_bin op_mod ro_mod (je_bin op_fdiv ro_div (je_var 6 rfl) (je_bin op_add ro_add je_int (je_bin op_mul ro_mul je_int (je_var 8 rfl)))) je_int))) nd__law_row (blkOk_by (N := N__law_row) (sc := defScope (top 36)) (by decide +kernel))) fun a47 =>
  (js_frz 7 (js_cons (j1_append 3 (je_pair (je_ix ix_list ro_ixL (je_var 1 rfl) (je_bin op_mod ro_mod (je_bin op_fdiv ro_div (je_var 6 rfl) je_int) je_int)) (je_callTy call_tuple_of ra_tupL T.n_tuple bt_tuple (je_var 7 rfl)))) fun a63 =>
  (js_nilP (Wk.s (Wk.s (Wk.s (Wk.s (Wk.s (Wk.n (Wk.n (Wk.n (Wk.s Wk.nil))))))))))) hown)))) pasO) fun s38 =>
  (js_frz 3 (js_ret (je_var 3 rfl)) hown)))))))

abbrev N__law_refusal : List Str := ["_law_text", "_law_flags", "e"]
theorem nd__law_refusal : N__law_refusal.Nodup := by decide +kernel
theorem ok__law_refusal {P : Program} {w : World} {K : Fg} {mg : Str → Option Value} {base : Heap} (T : Fx K mg) : OkF P w K mg base "_law_refusal" 6 (sp1 K m__law_refusal) :=
  mkF1 (N := N__law_refusal) T.f__law_refusal T.g__law_refusal ⟨rfl, rfl, rfl, nd__law_refusal, rfl, by decide +kernel, by decide +kernel⟩ (fun _ _ _ _ _ _ us hl => match us, hl with | [_], _ => rfl) fun cdv A outer s H E hr p0 b hown => by
    unfold m__law_refusal
    exact (js_cons (j1_setF 1 (jf_lst jl_nil) nd__law_refusal) fun a1 =>
  (js_frz 1 (js_cons (j1_tryE (Lf := fun (s5 : (List Bool)) => [.im (rp K p0), .im (rp K s5), .no]) (sOk := (fun (a3 : (List (Tx × (Tup Tx)))) => (a1 : (List Bool)))) (hh := (fun (ec4 : Str) => ((((pure (isx ec4 "NoLine") : M Bool) >>= fun x9 => ((pure (isx ec4 "ValueError") : M Bool) >>= fun x7 => (pure [] : M (List Bool)) >>= fun r8 => pure (x7 :: r8)) >>= fun r10 => pure (x9 :: r10)) >>= fun a6 =>
  (((pure a6 : M (List Bool)) >>= fun x18 => ((pure (isx ec4 "NoKind") : M Bool) >>= fun x16 => ((pure (isx ec4 "NoFact") : M Bool) >>= fun x14 => ((pure (isx ec4 "NoName") : M Bool) >>= fun x12 => (pure [] : M (List Bool)) >>= fun r13 => pure (x12 :: r13)) >>= fun r15 => pure (x14 :: r15)) >>= fun r17 => pure (x16 :: r17)) >>= fun y19 => catM x18 y19) >>= fun a11 =>
  (pure a11 : M (List Bool)))) : M (List Bool)))) 2 (fun pn xe => jc_call1 (ok_read_facts T) (hr.mono (by decide)) (fun E => (je_var 0 rfl))) (fun a3 => (Wk.s (Wk.s (Wk.s Wk.nil)))) T.em_PoolError (fun ec4 hec a oe pn hz hv => (js_cons (j1_set 1 (je_lst (jl_cons (je_isE 2 (T.ex_PoolError ec4 hec) hz hv (T.kx_PoolError_NoLine ec4 hec) T.n_isinstance T.g_NoLine) (jl_cons (je_isET (T := "ValueError") 2 (T.ex_PoolError ec4 hec) hz hv (T.kx_PoolError_ValueError ec4 hec) T.n_isinstance T.n_ValueError bt_ValueError) jl_nil))) nd__law_refusal) fun a6 =>
  (js_cons (j1_set 1 (je_bin op_catQ ro_catL (je_var 1 rfl) (je_lst (jl_cons (je_isE 2 (T.ex_PoolError ec4 hec) hz hv (T.kx_PoolError_NoKind ec4 hec) T.n_isinstance T.g_NoKind) (jl_cons (je_isE 2 (T.ex_PoolError ec4 hec) hz hv (T.kx_PoolError_NoFact ec4 hec) T.n_isinstance T.g_NoFact) (jl_cons (je_isE 2 (T.ex_PoolError ec4 hec) hz hv (T.kx_PoolError_NoName ec4 hec) T.n_isinstance T.g_NoName) jl_nil))))) nd__law_refusal) fun a11 =>
  (js_nilP (Wk.s (Wk.s (Wk.n Wk.nil))))))) T.g_PoolError nd__law_refusal) fun s5 =>
  (js_ret (je_var 1 rfl))) hown))

abbrev N__law_single : List Str := ["_law_text", "_law_due", "_law_found", "_law_flags", "e"]
theorem nd__law_single : N__law_single.Nodup := by decide +kernel
theorem ok__law_single {P : Program} {w : World} {K : Fg} {mg : Str → Option Value} {base : Heap} (T : Fx K mg) : OkF P w K mg base "_law_single" 5 (sp2 K m__law_single) :=
  mkF2 (N := N__law_single) T.f__law_single T.g__law_single ⟨rfl, rfl, rfl, nd__law_single, rfl, by decide +kernel, by decide +kernel⟩ (fun _ _ _ _ _ _ us hl => match us, hl with | [_, _], _ => rfl) fun cdv A outer s H E hr p0 p1 b hown => by
    unfold m__law_single
    exact (js_cons (j1_set 2 je_non nd__law_single) fun a1 =>
  (js_cons (j1_setF 3 (jf_lst jl_nil) nd__law_single) fun a2 =>
  (js_frz 3 (js_cons (j1_tryS (Lf := fun (s6 : ((Option (Tx × (Tup Tx))) × (List Bool))) => [.im (rp K p0), .im (rp K p1), .im (rp K s6.1), .im (rp K s6.2), .no]) (sOk := (fun (a4 : (Tx × (Tup Tx))) => (((some a4), a2) : ((Option (Tx × (Tup Tx))) × (List Bool))))) (hh := (fun (ec5 : Str) => ((((pure (isx ec5 "NoLine") : M Bool) >>= fun x10 => ((pure (isx ec5 "ValueError") : M Bool) >>= fun x8 => (pure [] : M (List Bool)) >>= fun r9 => pure (x8 :: r9)) >>= fun r11 => pure (x10 :: r11)) >>= fun a7 =>
  (pure (a1, a7) : M ((Option (Tx × (Tup Tx))) × (List Bool)))) : M ((Option (Tx × (Tup Tx))) × (List Bool))))) 2 4 (fun pn xe => jc_call1 (ok_read_fact T) (hr.mono (by decide)) (fun E => (je_var 0 rfl))) (fun a4 => (Wk.s (Wk.s (Wk.s (Wk.s (Wk.s Wk.nil)))))) T.em_PoolError (fun ec5 hec a oe pn hz hv => (js_cons (j1_set 3 (je_lst (jl_cons (je_isE 4 (T.ex_PoolError ec5 hec) hz hv (T.kx_PoolError_NoLine ec5 hec) T.n_isinstance T.g_NoLine) (jl_cons (je_isET (T := "ValueError") 4 (T.ex_PoolError ec5 hec) hz hv (T.kx_PoolError_ValueError ec5 hec) T.n_isinstance T.n_ValueError bt_ValueError) jl_nil))) nd__law_single) fun a7 =>
  (js_nilP (Wk.s (Wk.s (Wk.s (Wk.s (Wk.n Wk.nil)))))))) T.g_PoolError nd__law_single) fun s6 =>
  (js_if1 pi_rt (jw_jt (jw_or (jt_cmp op_isN ro_isN (je_var 1 rfl) je_unit) (jw_or1 (jt_cmp op_ne ro_neI (je_callB call_len_seq ra_lenL T.n_len bt_len (je_get (je_var 1 rfl))) je_int)))) (js_ret (je_cmp (op_eqA (α := (List Bool)) hr.units) ro_eqA (je_var 3 rfl) (je_lst (jl_cons je_bl (jl_cons je_bl jl_nil)))))
  (js_ret (je_and (je_cmp (op_eqA (α := (List Bool)) hr.units) ro_eqA (je_var 3 rfl) (je_lst jl_nil)) (je_and (je_isiO (tn := "tuple") tyx_P (by decide +kernel) (by decide +kernel) T.n_isinstance T.n_tuple bt_tuple (je_var 2 rfl)) (je_one (je_cmp (op_eqA (α := (Tx × (Tup Tx))) hr.units) ro_eqA (je_get (je_var 2 rfl)) (je_ix ix_list ro_ixL (je_get (je_var 1 rfl)) je_int)))))))) hown)))

abbrev N_law : List Str := ["_law_script", "_law_facts", "_law_due", "_law_handed", "_law_told", "_law_found", "_law_way", "_law_at", "_law_number", "_law_sign_here", "_law_text", "_law_fact"]
theorem nd_law : N_law.Nodup := by decide +kernel
theorem ok_law {P : Program} {w : World} {K : Fg} {mg : Str → Option Value} {base : Heap} (T : Fx K mg) {fd : FuncData} (F : FunD K "law" "law" (defArgs (top 39)) (defBody (top 39)) (defScope (top 39)) [] [] (He.ga K "law") fd) : FnOk P w K mg base (L2.CX P w) 7 (He.ga K "law") fd ["_law_script"] (sp1 K m_law) :=
  mkC1 (N := N_law) F ⟨rfl, rfl, rfl, nd_law, rfl, by decide +kernel, by decide +kernel⟩ fun cdv A outer s H E hr p0 b hown => by
    unfold m_law
    exact (js_cons (j1_set 1 (je_call1 (ok__law_row T) (hr.mono (by decide)) pasF (je_var 0 rfl)) nd_law) fun a1 =>
  (js_cons (j1_set 2 (je_m1 PySem.F.slot_str_join PySem.F.type_str_join mt_join rm_join je_str (je_jf (jf_lc (own := [("_law_fact", 11)]) (ji_list (je_var 1 rfl)) (jg_name 11 (fun _ => nd_law)) (fun _ e4 => (je_call1 (ok__law_fact_text T) (hr.mono (by decide)) passL (je_var 11 rfl))) nd_law (blkOk_by (N := N_law) (sc := defScope (top 39)) (by decide +kernel))))) nd_law) fun a3 =>
  (js_cons (j1_set 3 (je_callTy call_list_of ra_lstL T.n_list bt_list (je_var 1 rfl)) nd_law) fun a9 =>
  (js_cons (j1_set 4 (je_lst (jl_cons (je_call1 (ok_facts_text T) (hr.mono (by decide)) pasF (je_var 3 rfl)) (jl_cons (je_call1 (ok_facts_text_v1 T) (hr.mono (by decide)) pasF (je_callTy call_tuple_of ra_tupL T.n_tuple bt_tuple (je_var 1 rfl))) jl_nil))) nd_law) fun a11 =>
  (js_if1 pi_rt (jw_jt (jw_or (jt_not (jt_val (je_isiB (tn := "str") tyx_str (by decide +kernel) T.n_isinstance T.n_str bt_str (je_ix ix_list ro_ixL (je_var 4 rfl) je_int)))) (jw_or (jt_cmp (op_neA (α := (List Tx)) hr.units) ro_neA (je_var 4 rfl) (je_lst (jl_cons (je_var 2 rfl) (jl_cons (je_var 2 rfl) jl_nil)))) (jw_or1 (jt_cmp (op_neA (α := (List (Tx × (Tup Tx)))) hr.units) ro_neA (je_var 3 rfl) (je_var 1 rfl)))))) (js_ret je_bl)
  (js_cons (j1_set 5 (je_call1 (ok_read_facts T) (hr.mono (by decide)) pasF (je_var 2 rfl)) nd_law) fun a34 =>
  (js_if1 pi_rt (jw_jt (jw_or (jt_not (jt_val (je_isiB (tn := "list") tyx_L (by decide +kernel) T.n_isinstance T.n_list bt_list (je_var 5 rfl)))) (jw_or1 (jt_cmp (op_neA (α := (List (Tx × (Tup Tx)))) hr.units) ro_neA (je_var 5 rfl) (je_var 1 rfl))))) (js_ret je_bl)
  (js_cons (j1_set 6 (je_bin op_mod ro_mod (je_call2 (ok__law_cell_at T) (hr.mono (by decide)) pasF (je_var 0 rfl) je_int) je_int) nd_law) fun a42 =>
  (js_cons (j1_set 7 (je_bin op_mod ro_mod (je_call2 (ok__law_mix T) (hr.mono (by decide)) pasF (je_call2 (ok__law_cell_at T) (hr.mono (by decide)) pasF (je_var 0 rfl) je_int) je_int) (je_bin op_add ro_add (je_callB call_len_str ra_lenS T.n_len bt_len (je_var 2 rfl)) je_int)) nd_law) fun a47 =>
  (js_cons (j1_set 8 (je_call2 (ok__law_mix T) (hr.mono (by decide)) pasF (je_call2 (ok__law_cell_at T) (hr.mono (by decide)) pasF (je_var 0 rfl) je_int) je_int) nd_law) fun a57 =>
  (js_cons (j1_set 9 (je_call1 (ok__law_sign T) (hr.mono (by decide)) pasF (je_bin op_fdiv ro_div (je_var 8 rfl) je_int)) nd_law) fun a62 =>
  (js_cons (j1_if (Lf := fun (s71 : Tx) => [.im (rp K p0), .im (rp K a1), .im (rp K a3), .im (rp K a9), .im (rp K a11), .im (rp K a34), .im (rp K a42), .im (rp K a47), .im (rp K a57), .im (rp K s71), .no, .no]) (jt_cmp op_eq ro_eqI (je_bin op_mod ro_mod (je_var 8 rfl) je_int) je_int) (js_cons (j1_set 9 (je_ix ix_str ro_ixS je_str (je_bin op_mod ro_mod (je_bin op_fdiv ro_div (je_var 8 rfl) je_int) je_int)) nd_law) fun a72 =>
  (js_nilP (Wk.s (Wk.s (Wk.s (Wk.s (Wk.s (Wk.s (Wk.s (Wk.s (Wk.s (Wk.s (Wk.s (Wk.s Wk.nil)))))))))))))) (js_nilP (Wk.s (Wk.s (Wk.s (Wk.s (Wk.s (Wk.s (Wk.s (Wk.s (Wk.s (Wk.s (Wk.s (Wk.s Wk.nil)))))))))))))) fun s71 =>
  (js_cons (j1_set 10 (je_call4 (ok__law_spoiled T) (hr.mono (by decide)) pasF (je_var 2 rfl) (je_var 6 rfl) (je_call3 (ok__law_place T) (hr.mono (by decide)) pasF (je_var 2 rfl) (je_var 7 rfl) (je_bin op_fdiv ro_div (je_var 8 rfl) je_int)) (je_var 9 rfl)) nd_law) fun a79 =>
  (js_cons (j1_set 2 (je_call1 (ok__law_read T) (hr.mono (by decide)) pasF (je_var 10 rfl)) nd_law) fun a89 =>
  (js_if1 pi_rt (jt_not (jt_val (je_call2 (ok__law_single T) (hr.mono (by decide)) pasF (je_var 10 rfl) (je_var 2 rfl)))) (js_ret je_bl)
  (js_if1 pi_rt (jt_cmp op_isN ro_isN (je_var 2 rfl) je_unit) (js_ret (je_cmp (op_eqA (α := (List Bool)) hr.units) ro_eqA (je_call1 (ok__law_refusal T) (hr.mono (by decide)) pasF (je_var 10 rfl)) (je_lst (jl_cons je_bl (jl_cons je_bl (jl_cons je_bl (jl_cons je_bl (jl_cons je_bl jl_nil))))))))
  (js_cons (j1_set 5 (je_call1 (ok_read_facts T) (hr.mono (by decide)) pasF (je_var 10 rfl)) nd_law) fun a111 =>
  (js_ret (je_and (je_isiB (tn := "list") tyx_L (by decide +kernel) T.n_isinstance T.n_list bt_list (je_var 5 rfl)) (je_one (je_cmp (op_eqA (α := (List (Tx × (Tup Tx)))) hr.units) ro_eqA (je_var 5 rfl) (je_get (je_var 2 rfl)))))))))))))))))))))))
end Q

set_option Elab.async false
set_option linter.all false
set_option maxRecDepth 100000
set_option maxHeartbeats 2000000
namespace Q
open PySem L2 G TL
theorem tup_b {α β : Type} {x : List α} {f : Tup α → M β} : ((pure x : M (Tup α)) >>= f) = f x := rfl
def small : Tx := tx "abcdefghijklmnopqrstuvwxyz"
def great : Tx := tx "ABCDEFGHIJKLMNOPQRSTUVWXYZ"
def figs : Tx := tx "0123456789"
def alnum : Tx := tx "abcdefghijklmnopqrstuvwxyz0123456789ABCDEFGHIJKLMNOPQRSTUVWXYZ"
def isSign (c : Nat) : Bool := decide (c ∈ small) || decide (c ∈ great) || decide (c ∈ figs)
def isNm (x : Tx) : Bool := decide (1 ≤ x.length) && decide (x.length ≤ 12) && x.all isSign
def sg (p : Nat → Bool) (s : Tx) : Bool := match s with
  | [c] => p c
  | _ => false
theorem any_signs (x : Tx) (p : Nat → Bool) : (signs x).any (sg p) = x.any p := by
  unfold signs
  rw [List.any_map]
  rfl
theorem mem_signs {x s : Tx} (h : s ∈ signs x) : ∃ c, s = [c] ∧ c ∈ x := by
  obtain ⟨c, hc, rfl⟩ := List.mem_map.mp h
  exact ⟨c, rfl, hc⟩
theorem any_not (x : Tx) (p : Nat → Bool) : (x.any fun c => !p c) = !(x.all p) := by
  rw [List.any_eq_not_all_not]
  congr 2
  funext c
  rw [Bool.not_not]
theorem is_name_eq {x : Tx} (hz : x.length ≤ SZ) : m_is_name x = .ok (isNm x) := by
  unfold m_is_name isNm
  simp only [pure_bind, lenT_ok hz]
  by_cases h1 : 1 ≤ x.length
  · by_cases h2 : x.length ≤ 12
    · have i1 : (1 : Int) ≤ (x.length : Int) := by omega
      have i2 : (x.length : Int) ≤ 12 := by omega
      simp only [i1, i2, h1, h2, decide_true, if_true, pure_bind, Bool.not_true, Bool.false_eq_true, if_false, Bool.true_and]
      rw [forT_search (p := sg fun c => !isSign c) (r := false)]
      · rw [any_signs, any_not]
        cases x.all isSign <;> rfl
      · intro s hs
        obtain ⟨c, rfl, _⟩ := mem_signs hs
        simp only [inS_one, pure_bind, sg, isSign, small, great, figs]
        by_cases a1 : c ∈ tx "abcdefghijklmnopqrstuvwxyz" <;> by_cases a2 : c ∈ tx "ABCDEFGHIJKLMNOPQRSTUVWXYZ" <;> by_cases a3 : c ∈ tx "0123456789" <;> simp [a1, a2, a3] <;> rfl
    · have i1 : (1 : Int) ≤ (x.length : Int) := by omega
      have i2 : ¬ (x.length : Int) ≤ 12 := by omega
      simp only [i1, i2, h1, h2, decide_true, decide_false, if_true, pure_bind, Bool.not_false, Bool.true_and, Bool.false_and]
      rfl
  · have i1 : ¬ (1 : Int) ≤ (x.length : Int) := by omega
    simp only [i1, h1, decide_false, Bool.false_eq_true, if_false, pure_bind, Bool.not_false, if_true, Bool.false_and]
    rfl
theorem alnum_mem (c : Nat) : decide (c ∈ alnum) = isSign c := by
  have e : alnum = small ++ (figs ++ great) := by decide +kernel
  unfold isSign
  rw [e]
  by_cases a1 : c ∈ small <;> by_cases a2 : c ∈ great <;> by_cases a3 : c ∈ figs <;> simp [a1, a2, a3]
theorem sign_of_alnum {c : Nat} (h : c ∈ alnum) : isSign c = true := by rw [← alnum_mem]; exact decide_eq_true h
theorem alnum_len : alnum.length = 62 := by decide +kernel
theorem cell_ok (ns : List Int) (i : Int) (h : 0 ≤ i) : Okp (m__law_cell_at ns i) fun _ => True := by
  unfold m__law_cell_at
  simp only [pure_bind]
  by_cases hi : i < (ns.length : Int)
  · simp only [hi, decide_true, if_true]
    obtain ⟨a, e, _⟩ := atL_ok (xs := ns) h hi
    exact ⟨a, e, trivial⟩
  · simp only [hi, decide_false, Bool.false_eq_true, if_false]
    exact ⟨0, rfl, trivial⟩
theorem mix_ok (x k : Int) (h0 : 0 ≤ k) (h1 : k ≤ 1000) : Okp (m__law_mix x k) fun y => 0 ≤ y ∧ y < 999983 := by
  unfold m__law_mix
  simp only [pure_bind, modI_ok (show (0 : Int) < 7 by decide)]
  obtain ⟨a, e, ha⟩ := atL_ok (xs := ([48271, 69621, 16807, 40692, 30269, 62089, 45991] : List Int)) (i := k % 7) (by omega) (by show k % 7 < 7; omega)
  simp only [e, okb, pure_bind, modI_ok (show (0 : Int) < 1000003 by decide)]
  simp only [mulI_l (show (-(2 ^ 64) : Int) < 31 by decide) (show (31 : Int) < 2 ^ 64 by decide), pure_bind, mulI_r (show (-(2 ^ 64) : Int) < a by simp at ha; omega) (show a < (2 ^ 64 : Int) by simp at ha; omega), modI_ok (show (0 : Int) < 999983 by decide)]
  exact ⟨_, rfl, by omega, by omega⟩
theorem joinL_mem (s : Tx) : ∀ (xs : List Tx) {c : Nat}, c ∈ joinL s xs → c ∈ s ∨ ∃ x ∈ xs, c ∈ x
  | [], c, h => by cases h
  | [x], c, h => .inr ⟨x, List.mem_cons_self .., h⟩
  | x :: y :: r, c, h => by
    have e : joinL s (x :: y :: r) = x ++ (s ++ joinL s (y :: r)) := rfl
    rw [e, List.mem_append, List.mem_append] at h
    rcases h with h | h | h
    · exact .inr ⟨x, List.mem_cons_self .., h⟩
    · exact .inl h
    · rcases joinL_mem s (y :: r) h with h | ⟨z, hz, h⟩
      · exact .inl h
      · exact .inr ⟨z, List.mem_cons_of_mem _ hz, h⟩
theorem cut_mem {α : Type} {xs : List α} {lo hi : Option Int} {c : α} (h : c ∈ cut xs lo hi) : c ∈ xs := List.mem_of_mem_drop (List.mem_of_mem_take h)
theorem cutT_ok {x : Tx} {lo hi : Option Int} (h : x.length ≤ SZ) : cutT x lo hi = .ok (cut x lo hi) := by unfold cutT; rw [chk_b h]; rfl
/-- a name of the law's: its first sign from the firsts -/
def Nm (firsts y : Tx) : Prop := ∃ c r, y = c :: r ∧ c ∈ firsts ∧ r.length ≤ 11 ∧ ∀ d ∈ r, isSign d = true
theorem Nm.name {f y : Tx} (hf : ∀ c ∈ f, isSign c = true) (h : Nm f y) : isNm y = true := by
  obtain ⟨c, r, rfl, h1, h2, h3⟩ := h
  unfold isNm
  rw [List.all_cons, hf c h1, List.all_eq_true.mpr h3, List.length_cons, decide_eq_true (by omega), decide_eq_true (by omega)]
  rfl
theorem at_alnum {i : Int} (h0 : 0 ≤ i) (h1 : i < 62) : Okp (atT alnum i) fun y => ∃ c, y = [c] ∧ isSign c = true := by
  obtain ⟨c, e, e2⟩ := atT_ok (x := alnum) (i := i) h0 (by rw [alnum_len]; exact h1) (by rw [alnum_len, SZ_val]; decide)
  exact ⟨[c], e, c, rfl, sign_of_alnum (List.mem_of_getElem? e2)⟩
theorem names_ok (x n : Int) (f : Tx) (h0 : 0 ≤ n) (h1 : n ≤ 1000) (hf : 0 < f.length) (hf2 : f.length ≤ 1000) : Okp (m__law_names x n f) fun xs => xs.length = n.toNat ∧ ∀ y ∈ xs, Nm f y := by
  have hfz : f.length ≤ SZ := by rw [SZ_val]; omega
  have first : ∀ i : Int, 0 ≤ i → i < f.length → Okp (atT f i) fun y => ∃ c, y = [c] ∧ c ∈ f := fun i i0 i1 => by
    obtain ⟨c, e, e2⟩ := atT_ok (x := f) (i := i) i0 i1 hfz
    exact ⟨[c], e, c, rfl, List.mem_of_getElem? e2⟩
  unfold m__law_names
  rw [show tx "abcdefghijklmnopqrstuvwxyz0123456789ABCDEFGHIJKLMNOPQRSTUVWXYZ" = alnum from rfl]
  simp only [pure_bind]
  refine Okp.bind (mix_ok x 0 (by decide) (by decide)) fun a ha => ?_
  simp only [divI_ok (show (0 : Int) < 5 by decide) (show (5 : Int) < 1073741824 by decide), divI_ok (show (0 : Int) < 3 by decide) (show (3 : Int) < 1073741824 by decide), divI_ok (show (0 : Int) < 33 by decide) (show (33 : Int) < 1073741824 by decide), divI_ok (show (0 : Int) < 7 by decide) (show (7 : Int) < 1073741824 by decide),
    lenT_ok hfz, pure_bind, modI_ok (show (0 : Int) < (f.length : Int) by omega), modI_ok (show (0 : Int) < 3 by decide), modI_ok (show (0 : Int) < 12 by decide), modI_ok (show (0 : Int) < 11 by decide), modI_ok (show (0 : Int) < 62 by decide), range1_ok (show -(2 ^ 62) ≤ (11 : Int) by decide) (show (11 : Int) < 2 ^ 62 by decide), okb, range1_ok (show -(2 ^ 62) ≤ n by omega) (show n < 2 ^ 62 by omega)]
  have s0 : 0 ≤ a / 5 % (f.length : Int) := Int.emod_nonneg _ (by omega)
  have s1 : a / 5 % (f.length : Int) < f.length := Int.emod_lt_of_pos _ (by omega)
  refine Okp.bind (P := fun t : Tx => t.length ≤ 11 ∧ ∀ c ∈ t, isSign c = true) ?_ fun t ⟨t1, t2⟩ => ?_
  · refine Okp.bind (lc_ok (Q := fun y : Tx => ∃ c, y = [c] ∧ isSign c = true) (by rw [rangeL_len, SZ_val]; decide) fun e he => ?_) fun ys ⟨hl, hy⟩ => ?_
    · have hb := mem_rangeL he
      rw [divI_ok (show (0 : Int) < e + 1 by omega) (show e + 1 < 1073741824 by omega), pure_bind, mulI_l (show (-(2 ^ 64) : Int) < e by omega) (show e < 2 ^ 64 by omega), pure_bind]
      exact at_alnum (by omega) (by omega)
    · rw [rangeL_len] at hl
      have l1 : ∀ y ∈ ys, y.length ≤ 1 := fun y h => by obtain ⟨c, rfl, _⟩ := hy y h; exact Nat.le_refl _
      have e0 : (tx "").length = 0 := by decide +kernel
      have s2 := sum_le (k := 1) l1
      have s3 := joinL_len (tx "") ys
      rw [e0] at s3
      have hl' : ys.length = 11 := hl
      refine ⟨_, joinM_ok (by rw [e0]; omega), by omega, fun c hc => ?_⟩
      rcases joinL_mem _ _ hc with h | ⟨y, h1, h2⟩
      · exact absurd h (by rw [show tx "" = [] from rfl]; exact List.not_mem_nil)
      · obtain ⟨d, rfl, hd⟩ := hy y h1
        rw [List.mem_singleton.mp h2]; exact hd
  have tz : t.length ≤ SZ := by rw [SZ_val]; omega
  have mk : ∀ (i lo hi : Option Int) (j : Int), 0 ≤ j → j < f.length → Okp (atT f j >>= fun x => cutT t lo hi >>= fun y => addT x y) (fun y => Nm f y) := fun i lo hi j j0 j1 => by
    refine Okp.bind (first j j0 j1) fun y ⟨c, e, hc⟩ => ?_
    subst e
    have hl := cut_len t lo hi
    rw [cutT_ok tz, okb, addT_ok (by show 1 + _ ≤ SZ; rw [SZ_val]; omega)]
    exact ⟨_, rfl, c, cut t lo hi, rfl, hc, by omega, fun d hd => t2 d (cut_mem hd)⟩
  by_cases h3 : a % 3 = 0
  · simp only [h3, decide_true, if_true]
    refine Okp.imp (lc_ok (Q := Nm f) (by rw [rangeL_len, SZ_val]; omega) fun e he => ?_) fun ys ⟨a, b⟩ => ⟨by rw [a, rangeL_len], b⟩
    exact mk none _ _ _ s0 s1
  simp only [h3, decide_false, Bool.false_eq_true, if_false]
  by_cases h4 : a % 3 = 1
  · simp only [h4, decide_true, if_true]
    refine Okp.imp (lc_ok (Q := Nm f) (by rw [rangeL_len, SZ_val]; omega) fun e he => ?_) fun ys ⟨a, b⟩ => ⟨by rw [a, rangeL_len], b⟩
    exact mk none _ _ _ (Int.emod_nonneg _ (by omega)) (Int.emod_lt_of_pos _ (by omega))
  simp only [h4, decide_false, Bool.false_eq_true, if_false, modI_ok (show (0 : Int) < a / 3 % 11 + 1 by omega), pure_bind]
  refine Okp.bind (lc_ok (Q := fun y : Tx => ∃ c, y = [c] ∧ isSign c = true) (by rw [rangeL_len, SZ_val]; omega) fun e he => ?_) fun ys ⟨hl, hy⟩ => ?_
  · exact at_alnum (by omega) (by omega)
  rw [rangeL_len] at hl
  refine Okp.imp (lc_ok (Q := Nm f) (by rw [SZ_val]; omega) fun e he => ?_) fun zs ⟨a, b⟩ => ⟨by rw [a, hl], b⟩
  obtain ⟨d, rfl, hd⟩ := hy e he
  simp only [bind_assoc]
  refine Okp.bind (first _ s0 s1) fun y ⟨c, e, hc⟩ => ?_
  subst e
  have g0 : 0 ≤ a / 33 % (a / 3 % 11 + 1) := Int.emod_nonneg _ (by omega)
  have g1 : a / 33 % (a / 3 % 11 + 1) < a / 3 % 11 + 1 := Int.emod_lt_of_pos _ (by omega)
  have two : ∀ p q : Int, 0 ≤ p → p ≤ q → q ≤ 10 → (cut t none (some p)).length + (cut t (some p) (some q)).length ≤ 10 := fun p q p0 p1 p2 => by
    unfold cut
    rw [List.length_take, List.length_drop, List.length_take, List.length_drop]
    show min (HT.sIx _ _ (some p) - 0) _ + min (HT.sIx _ _ (some q) - HT.sIx _ _ (some p)) _ ≤ 10
    have z : ∀ (d : Nat) (v : Int), 0 ≤ v → HT.sIx t.length d (some v) = min v.toNat t.length := fun d v hv => by
      show (if v < 0 then _ else _) = _
      rw [if_neg (by omega)]
    rw [z _ p p0, z _ q (by omega), z _ p p0]
    omega
  have hl2 := two (a / 33 % (a / 3 % 11 + 1)) (a / 3 % 11) g0 (by omega) (by omega)
  rw [cutT_ok tz, okb, addT_ok (by show 1 + _ ≤ SZ; rw [SZ_val]; omega), pure_bind, addT_ok (by simp only [List.length_append, List.length_cons, List.length_nil]; rw [SZ_val]; omega), pure_bind, cutT_ok tz, okb, addT_ok (by simp only [List.length_append, List.length_cons, List.length_nil]; rw [SZ_val]; omega)]
  refine ⟨_, rfl, c, cut t none (some (a / 33 % (a / 3 % 11 + 1))) ++ [d] ++ cut t (some (a / 33 % (a / 3 % 11 + 1))) (some (a / 3 % 11)), by simp, hc, ?_, fun u hu => ?_⟩
  · simp only [List.length_append, List.length_cons, List.length_nil]; omega
  · simp only [List.mem_append, List.mem_singleton] at hu
    rcases hu with (h | h) | h
    · exact t2 u (cut_mem h)
    · rw [h]; exact hd
    · exact t2 u (cut_mem h)
/-! pieces -/
def marks : Tx := tx "(),;:=-"
def isMark (c : Nat) : Bool := decide (c ∈ marks)
def flush (f : List Tx) (n : Tx) : List Tx := if n = [] then f else f ++ [n]
/-- one sign of a line -/
def stp (f : List Tx) (n : Tx) (c : Nat) : Option (List Tx × Tx) :=
  if isSign c = true then some (f, n ++ [c]) else if isMark c = true then some (flush f n ++ [[c]], []) else if c = 32 then some (flush f n, []) else none
def prun (f : List Tx) (n : Tx) : Tx → Option (List Tx × Tx)
  | [] => some (f, n)
  | c :: r => match stp f n c with
    | some (f', n') => prun f' n' r
    | none => none
def pcs (t : Tx) : Option (List Tx) := (prun [] [] t).map fun s => flush s.1 s.2
theorem flush_len (f : List Tx) (n : Tx) : (flush f n).length ≤ f.length + n.length := by
  unfold flush
  by_cases h : n = []
  · rw [if_pos h]; omega
  · rw [if_neg h, List.length_append, List.length_singleton]
    have : 0 < n.length := List.length_pos_iff.mpr h
    omega
theorem stp_len {f f' : List Tx} {n n' : Tx} {c : Nat} (h : stp f n c = some (f', n')) : f'.length + n'.length ≤ f.length + n.length + 1 := by
  unfold stp at h
  have fl := flush_len f n
  by_cases h1 : isSign c = true
  · rw [if_pos h1] at h; cases h; rw [List.length_append, List.length_singleton]; omega
  · rw [if_neg h1] at h
    by_cases h2 : isMark c = true
    · rw [if_pos h2] at h; cases h; rw [List.length_append, List.length_singleton, List.length_nil]; omega
    · rw [if_neg h2] at h
      by_cases h3 : c = 32
      · rw [if_pos h3] at h; cases h; rw [List.length_nil]; omega
      · rw [if_neg h3] at h; cases h
theorem tx_nil : tx "" = [] := rfl
theorem pieces_eq {t : Tx} (hz : t.length < SZ) : m_pieces t = match pcs t with
    | some xs => .ok xs
    | none => raise "NoLine" := by
  have key : ∀ (r : Tx) (f : List Tx) (n : Tx) (g : List Tx × Tx → Tx → M (Tl (List Tx × Tx) No)), (∀ (f : List Tx) (n : Tx) (c : Nat), f.length + n.length < SZ → g (f, n) [c] = match stp f n c with
      | some s => .ok (.ct s)
      | none => raise "NoLine") → f.length + n.length + r.length < SZ → forB g (f, n) (signs r) = match prun f n r with
      | some s => .ok s
      | none => raise "NoLine" := by
    intro r
    induction r with
    | nil => intro f n g _ _; rfl
    | cons c r ih =>
      intro f n g hg hl
      rw [List.length_cons] at hl
      show (g (f, n) [c] >>= _) = _
      rw [hg f n c (by omega)]
      unfold prun
      cases h : stp f n c with
      | none => rfl
      | some s =>
        obtain ⟨f', n'⟩ := s
        have := stp_len h
        exact ih f' n' g hg (by omega)
  unfold m_pieces
  simp only [pure_bind]
  rw [tx_nil, key t [] [] _ _ (by simpa using hz)]
  · unfold pcs
    cases h : prun [] [] t with
    | none => rfl
    | some s =>
      obtain ⟨f, n⟩ := s
      have hb : f.length + n.length ≤ t.length := by
        have gen : ∀ (r : Tx) (f n f' n'), prun f n r = some (f', n') → f'.length + n'.length ≤ f.length + n.length + r.length := by
          intro r
          induction r with
          | nil => intro f n f' n' h; cases h; simp
          | cons c r ih =>
            intro f n f' n' h
            unfold prun at h
            cases h2 : stp f n c with
            | none => rw [h2] at h; cases h
            | some s =>
              rw [h2] at h
              have := stp_len h2
              have := ih _ _ _ _ h
              rw [List.length_cons]; omega
        have := gen _ _ _ _ _ h
        simpa using this
      simp only [okb, bind_pure, Option.map_some]
      unfold flush
      by_cases hn : n = []
      · subst hn; rfl
      · simp only [hn, decide_false, Bool.not_false, if_true, if_false]
        rw [chk_b (by omega)]
        rfl
  · intro f n c hl
    have fl := flush_len f n
    unfold stp
    simp only [inS_one]
    rw [show tx " " = [32] from rfl]
    show (_ : M _) = _
    by_cases h1 : isSign c = true
    · rw [if_pos h1]
      have : (if decide (c ∈ tx "abcdefghijklmnopqrstuvwxyz") = true then (pure true : M Bool) else pure (decide (c ∈ tx "ABCDEFGHIJKLMNOPQRSTUVWXYZ")) >>= fun c16 => if c16 = true then pure true else pure (decide (c ∈ tx "0123456789"))) = pure true := by
        unfold isSign small great figs at h1
        by_cases a1 : c ∈ tx "abcdefghijklmnopqrstuvwxyz" <;> by_cases a2 : c ∈ tx "ABCDEFGHIJKLMNOPQRSTUVWXYZ" <;> by_cases a3 : c ∈ tx "0123456789" <;> simp [a1, a2, a3] at h1 ⊢
      simp only [pure_bind] at this ⊢
      rw [this, pure_bind, if_pos rfl, addT_ok (by rw [List.length_singleton]; omega)]
      rfl
    · rw [if_neg h1]
      have : (if decide (c ∈ tx "abcdefghijklmnopqrstuvwxyz") = true then (pure true : M Bool) else pure (decide (c ∈ tx "ABCDEFGHIJKLMNOPQRSTUVWXYZ")) >>= fun c16 => if c16 = true then pure true else pure (decide (c ∈ tx "0123456789"))) = pure false := by
        unfold isSign small great figs at h1
        by_cases a1 : c ∈ tx "abcdefghijklmnopqrstuvwxyz" <;> by_cases a2 : c ∈ tx "ABCDEFGHIJKLMNOPQRSTUVWXYZ" <;> by_cases a3 : c ∈ tx "0123456789" <;> simp [a1, a2, a3] at h1 ⊢
      simp only [pure_bind] at this ⊢
      rw [this, pure_bind, if_neg Bool.false_ne_true]
      have fs : (if (!decide (n = ([] : Tx))) = true then (chk (f.length < SZ) >>= fun _u27 => pure n) >>= fun a25 => pure ((f ++ [a25]), ([] : Tx)) else (pure (f, n) : M (List Tx × Tx))) = .ok (flush f n, []) := by
        unfold flush
        by_cases hn : n = []
        · subst hn; rfl
        · simp only [hn, decide_false, Bool.not_false, if_true, if_false]
          rw [chk_b (by omega)]; rfl
      rw [fs, okb]
      show (if isMark c = true then _ else _) = _
      by_cases h2 : isMark c = true
      · rw [if_pos h2, if_pos h2, chk_b (by show (flush f n).length < SZ; omega)]
        rfl
      · rw [if_neg h2, if_neg h2]
        by_cases h3 : c = 32
        · subst h3; rfl
        · have h4 : ¬ ([c] : Tx) = [32] := fun z => h3 (by injection z)
          simp only [h3, h4, decide_false, Bool.not_false, if_true, if_false]

/-! a fact's parse -/
def hd (l : List Tx) : Tx := l.headD []
def isKd (x : Tx) : Bool := isNm x && decide (x.headD 0 ∈ small)
/-- names parted by commas, up to a bracket -/
def pA1 (acc : List Tx) : List Tx → Option (List Tx × List Tx)
  | nm :: sgn :: r => if isNm nm = true then (if sgn = [41] then some (acc ++ [nm], r) else if sgn = [44] then pA1 (acc ++ [nm]) r else none) else none
  | _ => none
def pA (l : List Tx) : Option (List Tx × List Tx) := if hd l = [41] then some ([], l.tail) else pA1 [] l
def pF (l : List Tx) : Option ((Tx × List Tx) × List Tx) :=
  if isKd (hd l) = true then (if hd l.tail = [40] then (pA l.tail.tail).map fun s => ((hd l, s.1), s.2) else some ((hd l, []), l.tail)) else none
def tks (xs : List Tx) : Prop := xs.length < SZ ∧ ∀ x ∈ xs, x.length ≤ SZ
theorem piece_eq {xs : List Tx} {i : Nat} : m_piece_at xs (i : Int) = .ok (hd (xs.drop i)) := by
  unfold m_piece_at hd
  simp only [pure_bind]
  by_cases h : (i : Int) < (xs.length : Int)
  · simp only [h, decide_true, if_true]
    have h' : i < xs.length := by omega
    unfold atL atI
    rw [ixN_nat (by omega) h, Int.toNat_natCast]
    show ofO xs[i]? = _
    rw [List.getElem?_eq_getElem h', List.drop_eq_getElem_cons h']
    rfl
  · simp only [h, decide_false, Bool.false_eq_true, if_false]
    rw [List.drop_eq_nil_of_le (by omega)]
    rfl
theorem hd_len {xs : List Tx} (h : tks xs) (i : Nat) : (hd (xs.drop i)).length ≤ SZ := by
  unfold hd
  cases e : xs.drop i with
  | nil => exact Nat.zero_le _
  | cons a r => exact h.2 a (List.mem_of_mem_drop (i := i) (by rw [e]; exact List.mem_cons_self ..))
theorem is_kind_eq {x : Tx} (hz : x.length ≤ SZ) : m_is_kind x = .ok (isKd x) := by
  unfold m_is_kind isKd
  simp only [pure_bind, is_name_eq hz, okb]
  cases h : isNm x with
  | false => rfl
  | true =>
    match x, h with
    | [], h => exact absurd h (by decide)
    | c :: r, h =>
      obtain ⟨d, e, e2⟩ := atT_ok (x := c :: r) (i := 0) (by decide) (by rw [List.length_cons]; omega) hz
      have : d = c := by simpa using e2.symm
      subst this
      rw [if_pos rfl, e, pure_bind]
      rfl
theorem nil_notNm : isNm [] = false := by decide
theorem tx_close : tx ")" = [41] := rfl
theorem tx_comma : tx "," = [44] := rfl
theorem tx_open : tx "(" = [40] := rfl
theorem hd_tail (l : List Tx) (i : Nat) : hd (l.drop (i + 1)) = hd (l.drop i).tail := by rw [List.tail_drop]
theorem args_loop {xs : List Tx} (hx : tks xs) {mr : Int × List Tx → M (Tup Tx × Int)} : ∀ (fuel i : Nat) (acc : List Tx), acc.length + xs.length < SZ + i → xs.length < fuel + i → i ≤ xs.length → ∀ g : Int × List Tx → M (Tl (Int × List Tx) (Tup Tx × Int)), (∀ (i : Nat) (acc : List Tx), acc.length < SZ → g ((i : Int), acc) =
      if isNm (hd (xs.drop i)) = true then (if hd (xs.drop (i + 1)) = [41] then .ok (.rt (acc ++ [hd (xs.drop i)], ((i + 2 : Nat) : Int))) else if hd (xs.drop (i + 1)) = [44] then .ok (.ct (((i + 2 : Nat) : Int), acc ++ [hd (xs.drop i)])) else raise "NoLine") else raise "NoLine") →
    (whT (fun _ => (pure true : M Bool)) g fuel ((i : Int), acc) >>= thenT mr id) = match pA1 acc (xs.drop i) with
      | some (args, rest) => .ok (args, ((xs.length - rest.length : Nat) : Int))
      | none => raise "NoLine" := by
  intro fuel
  induction fuel with
  | zero => intro i acc h1 h2 h3; omega
  | succ fuel ih =>
    intro i acc h1 h2 h3 g hg
    by_cases hi : i = xs.length
    · subst hi
      unfold whT
      rw [pure_bind, if_pos rfl]
      rw [hg _ acc (by omega), List.drop_length]
      have : isNm (hd []) = false := nil_notNm
      rw [this]
      rfl
    · have hl : acc.length < SZ := by omega
      unfold whT
      rw [pure_bind, if_pos rfl, hg i acc hl]
      have e : xs.drop i = xs[i]'(by omega) :: xs.drop (i + 1) := List.drop_eq_getElem_cons (by omega)
      cases e1 : xs.drop (i + 1) with
      | nil =>
        rw [e, e1]
        show _ = raise "NoLine"
        by_cases hn : isNm (hd [xs[i]'(by omega)]) = true
        · rw [if_pos hn, if_neg (by decide), if_neg (by decide)]; rfl
        · rw [if_neg hn]; rfl
      | cons sgn r =>
        have e2 : xs.drop (i + 2) = r := by rw [← List.drop_drop (i := 1) (j := i + 1), e1]; rfl
        have h5 : i + 2 ≤ xs.length := by
          have := congrArg List.length e1
          rw [List.length_drop, List.length_cons] at this; omega
        rw [e, e1]
        unfold pA1
        show ((if isNm (xs[i]'(by omega)) = true then (if sgn = [41] then _ else if sgn = [44] then _ else _) else _) >>= _) >>= _ = _
        by_cases hn : isNm (xs[i]'(by omega)) = true
        · rw [if_pos hn, if_pos hn]
          by_cases c1 : sgn = [41]
          · rw [if_pos c1, if_pos c1]
            have : xs.length - r.length = i + 2 := by rw [← e2, List.length_drop]; omega
            show Except.ok _ = Except.ok _
            rw [this]
            rfl
          · rw [if_neg c1, if_neg c1]
            by_cases c2 : sgn = [44]
            · rw [if_pos c2, if_pos c2]
              show (whT _ g fuel (((i + 2 : Nat) : Int), acc ++ [xs[i]'(by omega)]) >>= _) = _
              rw [ih (i + 2) (acc ++ [xs[i]'(by omega)]) (by rw [List.length_append, List.length_singleton]; omega) (by omega) h5 g hg, e2]
            · rw [if_neg c2, if_neg c2]; rfl
        · rw [if_neg hn, if_neg hn]; rfl
theorem take_arguments_eq {xs : List Tx} (hx : tks xs) {i : Nat} (hi : i ≤ xs.length) : m_take_arguments xs (i : Int) = match pA (xs.drop i) with
    | some (args, rest) => .ok (args, (((if hd (xs.drop i) = [41] then i + 1 else xs.length - rest.length) : Nat) : Int))
    | none => raise "NoLine" := by
  unfold m_take_arguments pA
  simp only [pure_bind, piece_eq, okb, tx_close, tx_comma]
  by_cases h : hd (xs.drop i) = [41]
  · simp only [h, decide_true, if_true]
    rfl
  · simp only [h, decide_false, Bool.false_eq_true, if_false]
    refine args_loop hx FUEL i [] (by have := hx.1; simp; omega) (by have := hx.1; rw [SZ_val] at this; show _ < 1000000000000 + i; omega) hi _ fun j acc hl => ?_
    have e1 : ((j : Int) + 1) = ((j + 1 : Nat) : Int) := by omega
    have e2 : ((j : Int) + 2) = ((j + 2 : Nat) : Int) := by omega
    simp only [e1, e2, piece_eq, okb, is_name_eq (hd_len hx j)]
    cases isNm (hd (xs.drop j)) with
    | false => rfl
    | true =>
      simp only [Bool.not_true, Bool.false_eq_true, if_false, if_true]
      rw [chk_b hl, pure_bind]
      by_cases c1 : hd (xs.drop (j + 1)) = [41]
      · simp only [c1, decide_true, if_true]; rfl
      · by_cases c2 : hd (xs.drop (j + 1)) = [44]
        · simp only [c2, decide_true, if_true, Bool.not_true]; rfl
        · simp only [c1, c2, decide_false, Bool.false_eq_true, if_false, Bool.not_false, if_true]
          rfl

theorem pA1_len : ∀ (n : Nat) (l : List Tx), l.length ≤ n → ∀ (acc : List Tx) {a r : List Tx}, pA1 acc l = some (a, r) → r.length < l.length := by
  intro n
  induction n with
  | zero =>
    intro l hl acc a r h
    match l, hl with
    | [], _ => simp [pA1] at h
  | succ n ih =>
    intro l hl acc a r h
    match l with
    | [] => simp [pA1] at h
    | [x] => simp [pA1] at h
    | x :: y :: t =>
      unfold pA1 at h
      by_cases h1 : isNm x = true
      · rw [if_pos h1] at h
        by_cases h2 : y = [41]
        · rw [if_pos h2] at h; cases h; rw [List.length_cons, List.length_cons]; omega
        · rw [if_neg h2] at h
          by_cases h3 : y = [44]
          · rw [if_pos h3] at h
            have := ih t (by rw [List.length_cons, List.length_cons] at hl; omega) _ h
            rw [List.length_cons, List.length_cons]; omega
          · rw [if_neg h3] at h; cases h
      · rw [if_neg h1] at h; cases h
theorem pA_len {l a r : List Tx} (h : pA l = some (a, r)) : r.length < l.length := by
  unfold pA at h
  by_cases h1 : hd l = [41]
  · rw [if_pos h1] at h; cases h
    match l, h1 with
    | [], h1 => cases h1
    | _ :: t, _ => rw [List.tail_cons, List.length_cons]; omega
  · rw [if_neg h1] at h
    exact pA1_len _ l (Nat.le_refl _) [] h
theorem pF_len {l : List Tx} {f : Tx × List Tx} {r : List Tx} (h : pF l = some (f, r)) : r.length < l.length := by
  unfold pF at h
  by_cases h1 : isKd (hd l) = true
  · rw [if_pos h1] at h
    match l, h1 with
    | [], h1 => exact absurd h1 (by decide)
    | x :: t, _ =>
      by_cases h2 : hd (x :: t).tail = [40]
      · rw [if_pos h2] at h
        cases e : pA (x :: t).tail.tail with
        | none => rw [e] at h; cases h
        | some s =>
          rw [e] at h
          obtain ⟨a, r'⟩ := s
          cases h
          have this : r'.length < _ := pA_len e
          rw [List.tail_cons, List.length_tail] at this
          show r'.length < _
          rw [List.length_cons]; omega
      · rw [if_neg h2] at h; cases h
        rw [List.tail_cons, List.length_cons]; omega
  · rw [if_neg h1] at h; cases h
theorem tail_drop' (l : List Tx) (i : Nat) : (l.drop i).tail = l.drop (i + 1) := List.tail_drop
theorem pA_at {xs : List Tx} {i : Nat} {a r : List Tx} (h : pA (xs.drop i) = some (a, r)) : (if hd (xs.drop i) = [41] then i + 1 else xs.length - r.length) = xs.length - r.length := by
  by_cases h1 : hd (xs.drop i) = [41]
  · rw [if_pos h1]
    unfold pA at h
    rw [if_pos h1] at h
    cases h
    rw [tail_drop', List.length_drop]
    have : i < xs.length := by
      rcases Nat.lt_or_ge i xs.length with z | z
      · exact z
      · rw [List.drop_eq_nil_of_le z] at h1; cases h1
    omega
  · rw [if_neg h1]
theorem take_fact_eq {xs : List Tx} (hx : tks xs) {i : Nat} (hi : i ≤ xs.length) : m_take_fact xs (i : Int) = match pF (xs.drop i) with
    | some (f, rest) => .ok ((f.1, f.2), ((xs.length - rest.length : Nat) : Int))
    | none => raise "NoLine" := by
  unfold m_take_fact pF
  have e1 : ((i : Int) + 1) = ((i + 1 : Nat) : Int) := by omega
  have e2 : ((i : Int) + 2) = ((i + 2 : Nat) : Int) := by omega
  simp only [pure_bind, piece_eq, okb, tx_open, e1, e2, is_kind_eq (hd_len hx i), tail_drop']
  cases hk : isKd (hd (xs.drop i)) with
  | false => rfl
  | true =>
    have il : i < xs.length := by
      rcases Nat.lt_or_ge i xs.length with z | z
      · exact z
      · rw [List.drop_eq_nil_of_le z] at hk; exact absurd hk (by decide)
    simp only [Bool.not_true, Bool.false_eq_true, if_false, if_true]
    by_cases h2 : hd (xs.drop (i + 1)) = [40]
    · have il2 : i + 1 < xs.length := by
        rcases Nat.lt_or_ge (i + 1) xs.length with z | z
        · exact z
        · rw [List.drop_eq_nil_of_le z] at h2; cases h2
      simp only [h2, decide_true, Bool.not_true, Bool.false_eq_true, if_false, if_true]
      rw [take_arguments_eq hx (by omega)]
      rw [show i + 1 + 1 = i + 2 from rfl]
      cases e : pA (xs.drop (i + 2)) with
      | none => rfl
      | some s =>
        obtain ⟨a, r⟩ := s
        simp only [Option.map_some, okb]
        rw [pA_at e]
        rfl
    · simp only [h2, decide_false, Bool.not_false, if_true, if_false]
      rw [List.length_drop]
      have : xs.length - (xs.length - (i + 1)) = i + 1 := by omega
      rw [this]
      rfl
/-! text put together from tokens -/
def sp (s : Tx) : Prop := ∀ c ∈ s, c = 32
def nmT (x : Tx) : Prop := x ≠ [] ∧ ∀ c ∈ x, isSign c = true
def mkT (x : Tx) : Prop := ∃ c, x = [c] ∧ isMark c = true ∧ isSign c = false
def alt : Bool → List Tx → Prop
  | _, [] => True
  | b, x :: r => (b = false ∧ nmT x ∧ alt true r) ∨ (mkT x ∧ alt false r)
def weave : List (Tx × Tx) → Tx
  | [] => []
  | (s, t) :: r => s ++ (t ++ weave r)
theorem run_cons (f : List Tx) (n : Tx) (c : Nat) (r : Tx) : prun f n (c :: r) = (stp f n c).bind fun s => prun s.1 s.2 r := by
  show (match stp f n c with
    | some (f', n') => prun f' n' r
    | none => none) = _
  cases stp f n c <;> rfl
theorem run_app (a b : Tx) : ∀ (f : List Tx) (n : Tx), prun f n (a ++ b) = (prun f n a).bind fun s => prun s.1 s.2 b := by
  induction a with
  | nil => intro f n; rfl
  | cons c a ih =>
    intro f n
    rw [List.cons_append, run_cons, run_cons]
    cases stp f n c with
    | none => rfl
    | some s => exact ih s.1 s.2
theorem sp_notSign : isSign 32 = false := by decide +kernel
theorem sp_notMark : isMark 32 = false := by decide +kernel
theorem flush_nil (f : List Tx) : flush f [] = f := rfl
theorem run_sp {s : Tx} (hs : sp s) : ∀ (f : List Tx) (n : Tx), ∃ f' n', prun f n s = some (f', n') ∧ flush f' n' = flush f n ∧ (n = [] → n' = []) := by
  induction s with
  | nil => intro f n; exact ⟨f, n, rfl, rfl, fun h => h⟩
  | cons c s ih =>
    intro f n
    have hc := hs c (List.mem_cons_self ..)
    subst hc
    obtain ⟨f', n', e, e2, e3⟩ := ih (fun c h => hs c (List.mem_cons_of_mem _ h)) (flush f n) []
    refine ⟨f', n', ?_, ?_, fun _ => e3 rfl⟩
    · unfold prun stp
      rw [sp_notSign, sp_notMark]
      exact e
    · rw [e2]; rfl
theorem run_nm {x : Tx} (h : ∀ c ∈ x, isSign c = true) : ∀ (f : List Tx) (n : Tx), prun f n x = some (f, n ++ x) := by
  induction x with
  | nil => intro f n; rw [List.append_nil]; rfl
  | cons c x ih =>
    intro f n
    unfold prun stp
    rw [if_pos (h c (List.mem_cons_self ..))]
    show prun f (n ++ [c]) x = _
    rw [ih (fun c hc => h c (List.mem_cons_of_mem _ hc)), List.append_assoc]
    rfl
theorem run_weave : ∀ (ps : List (Tx × Tx)) (b : Bool) (f : List Tx) (n : Tx), (∀ p ∈ ps, sp p.1) → alt b (ps.map (·.2)) → (n ≠ [] → b = true) → ∃ f' n', prun f n (weave ps) = some (f', n') ∧ flush f' n' = flush f n ++ ps.map (·.2)
  | [], b, f, n, _, _, _ => ⟨f, n, rfl, by simp⟩
  | (s, t) :: r, b, f, n, hs, ha, hn => by
    obtain ⟨f1, n1, e1, e2, e3⟩ := run_sp (hs (s, t) (List.mem_cons_self ..)) f n
    have hs' : ∀ p ∈ r, sp p.1 := fun p hp => hs p (List.mem_cons_of_mem _ hp)
    unfold weave
    rw [run_app, e1, Option.bind_some, run_app]
    rcases ha with ⟨hb, ht, hr⟩ | ⟨⟨c, rfl, hc, hc2⟩, hr⟩
    · have n0 : n = [] := Classical.byContradiction fun z => by rw [hb] at hn; exact Bool.false_ne_true (hn z)
      have n1' := e3 n0
      subst n1'
      rw [run_nm ht.2, Option.bind_some]
      obtain ⟨f', n', g1, g2⟩ := run_weave r true f1 ([] ++ t) hs' hr (fun _ => rfl)
      refine ⟨f', n', g1, ?_⟩
      rw [g2, List.nil_append]
      unfold flush
      rw [if_neg ht.1]
      have : f1 = flush f n := by rw [← e2]; rfl
      rw [this, List.append_assoc]
      rfl
    · have : prun f1 n1 [c] = some (flush f1 n1 ++ [[c]], []) := by
        unfold prun stp
        rw [hc2, hc]
        rfl
      rw [this, Option.bind_some]
      obtain ⟨f', n', g1, g2⟩ := run_weave r false (flush f1 n1 ++ [[c]]) [] hs' hr (fun z => absurd rfl z)
      refine ⟨f', n', g1, ?_⟩
      rw [g2, flush_nil, e2, List.append_assoc]
      rfl
theorem pcs_weave {ps : List (Tx × Tx)} {s : Tx} (hs : ∀ p ∈ ps, sp p.1) (ha : alt false (ps.map (·.2))) (hs2 : sp s) : pcs (weave ps ++ s) = some (ps.map (·.2)) := by
  obtain ⟨f, n, e1, e2⟩ := run_weave ps false [] [] hs ha (fun z => absurd rfl z)
  obtain ⟨f', n', e3, e4, _⟩ := run_sp hs2 f n
  unfold pcs
  rw [run_app, e1, Option.bind_some, e3, Option.map_some, e4, e2]
  rfl
theorem weave_app : ∀ (a b : List (Tx × Tx)), weave (a ++ b) = weave a ++ weave b
  | [], b => rfl
  | (s, t) :: r, b => by
    show s ++ (t ++ weave (r ++ b)) = (s ++ (t ++ weave r)) ++ weave b
    rw [weave_app r b, List.append_assoc, List.append_assoc]
/-- no blanks between -/
theorem pcs_flat {xs : List Tx} (ha : alt false xs) : pcs xs.flatten = some xs := by
  have e : ∀ ys : List Tx, weave (ys.map fun t => ([], t)) = ys.flatten := by
    intro ys
    induction ys with
    | nil => rfl
    | cons y ys ih => show [] ++ (y ++ weave _) = _; rw [ih]; rfl
  have m : (xs.map fun t : Tx => (([] : Tx), t)).map (·.2) = xs := by rw [List.map_map]; exact List.map_id' xs
  have := pcs_weave (ps := xs.map fun t => ([], t)) (s := []) (fun p hp => by
    obtain ⟨t, _, rfl⟩ := List.mem_map.mp hp
    intro c hc; cases hc) (by rw [m]; exact ha) (fun c hc => by cases hc)
  rw [m, List.append_nil, e] at this
  exact this
/-- names, parted by commas -/
def commas : List Tx → List Tx
  | [] => []
  | a :: r => a :: r.flatMap fun x => [[44], x]
theorem commas_snoc (xs : List Tx) (y : Tx) : commas (xs ++ [y]) = commas xs ++ (if xs = [] then [y] else [[44], y]) := by
  cases xs with
  | nil => rfl
  | cons a r =>
    rw [if_neg (fun z => by cases z)]
    show a :: ((r ++ [y]).flatMap fun x => [[44], x]) = (a :: r.flatMap fun x => [[44], x]) ++ [[44], y]
    rw [List.flatMap_append]
    rfl
theorem commas_join : ∀ (a : Tx) (r : List Tx), joinL [44] (a :: r) = (commas (a :: r)).flatten
  | a, [] => by show a = (a :: []).flatten; simp
  | a, b :: r => by
    have ih := commas_join b r
    have e : joinL [44] (a :: b :: r) = a ++ ([44] ++ joinL [44] (b :: r)) := rfl
    rw [e, ih]
    show _ = (a :: [44] :: b :: r.flatMap fun x => [[44], x]).flatten
    rw [List.flatten_cons, List.flatten_cons]
    rfl
/-- a fact's tokens -/
def toks (t : Tx) (args : List Tx) (br : Bool) : List Tx := if args = [] ∧ br = false then [t] else t :: [40] :: (commas args ++ [[41]])
theorem nmT_of {x : Tx} (h : isNm x = true) : nmT x := by
  unfold isNm at h
  simp only [Bool.and_eq_true, decide_eq_true_eq, List.all_eq_true] at h
  refine ⟨fun z => ?_, h.2⟩
  rw [z] at h
  exact absurd h.1.1 (by decide)
theorem mk_close : mkT [41] := ⟨41, rfl, by decide +kernel, by decide +kernel⟩
theorem mk_open : mkT [40] := ⟨40, rfl, by decide +kernel, by decide +kernel⟩
theorem mk_comma : mkT [44] := ⟨44, rfl, by decide +kernel, by decide +kernel⟩
theorem alt_commas {k : List Tx} (hk : ∀ b, alt b ([41] :: k)) : ∀ (r : List Tx) (a : Tx), nmT a → (∀ x ∈ r, nmT x) → alt false (commas (a :: r) ++ ([41] :: k))
  | [], a, ha, _ => .inl ⟨rfl, ha, hk true⟩
  | b :: r, a, ha, hr => .inl ⟨rfl, ha, .inr ⟨mk_comma, alt_commas hk r b (hr b (List.mem_cons_self ..)) fun x hx => hr x (List.mem_cons_of_mem _ hx)⟩⟩
theorem alt_close {k : List Tx} (h : alt false k) (b : Bool) : alt b ([41] :: k) := .inr ⟨mk_close, h⟩
theorem alt_toks {t : Tx} {args : List Tx} {br : Bool} (ht : nmT t) (ha : ∀ x ∈ args, nmT x) : alt false (toks t args br) := by
  unfold toks
  by_cases h : args = [] ∧ br = false
  · rw [if_pos h]; exact .inl ⟨rfl, ht, trivial⟩
  · rw [if_neg h]
    refine .inl ⟨rfl, ht, .inr ⟨mk_open, ?_⟩⟩
    match args, ha with
    | [], _ => exact alt_close (show alt false [] from trivial) false
    | a :: r, ha => exact alt_commas (alt_close (show alt false [] from trivial)) r a (ha a (List.mem_cons_self ..)) fun x hx => ha x (List.mem_cons_of_mem _ hx)
theorem isNm_ne {x : Tx} {c : Nat} (h : isNm x = true) (hc : isSign c = false) : x ≠ [c] := fun z => by
  have := (nmT_of h).2 c (by rw [z]; exact List.mem_cons_self ..)
  rw [hc] at this; cases this
theorem pA1_commas {k : List Tx} : ∀ (r : List Tx) (a : Tx) (acc : List Tx), isNm a = true → (∀ x ∈ r, isNm x = true) → pA1 acc (commas (a :: r) ++ ([41] :: k)) = some (acc ++ a :: r, k)
  | [], a, acc, ha, _ => by
    show pA1 acc (a :: [41] :: k) = _
    unfold pA1
    rw [if_pos ha, if_pos rfl]
  | b :: r, a, acc, ha, hr => by
    show pA1 acc (a :: [44] :: (commas (b :: r) ++ ([41] :: k))) = _
    unfold pA1
    rw [if_pos ha, if_neg (by decide), if_pos rfl, pA1_commas r b (acc ++ [a]) (hr b (List.mem_cons_self ..)) fun x hx => hr x (List.mem_cons_of_mem _ hx), List.append_assoc]
    rfl
theorem pF_toks {t : Tx} {args : List Tx} {br : Bool} {k : List Tx} (hk : hd k ≠ [40]) (ht : isKd t = true) (ha : ∀ x ∈ args, isNm x = true) : pF (toks t args br ++ k) = some ((t, args), k) := by
  unfold toks
  by_cases h : args = [] ∧ br = false
  · rw [if_pos h, h.1]
    show pF (t :: k) = _
    unfold pF
    rw [if_pos (show isKd (hd (t :: k)) = true from ht), if_neg (show ¬ hd (t :: k).tail = [40] from hk)]
    rfl
  · rw [if_neg h]
    show pF (t :: [40] :: (commas args ++ [[41]] ++ k)) = _
    unfold pF
    rw [if_pos (show isKd (hd (t :: _)) = true from ht), if_pos (show hd (t :: [40] :: _).tail = [40] from rfl)]
    show (pA (commas args ++ [[41]] ++ k)).map _ = _
    rw [List.append_assoc]
    show (pA (commas args ++ ([41] :: k))).map _ = _
    match args, ha with
    | [], _ => rfl
    | a :: r, ha =>
      have h1 := ha a (List.mem_cons_self ..)
      unfold pA
      rw [if_neg (show ¬ hd (commas (a :: r) ++ ([41] :: k)) = [41] from isNm_ne h1 (by decide +kernel)), pA1_commas r a [] h1 fun x hx => ha x (List.mem_cons_of_mem _ hx)]
      rfl
/-- a fact's text -/
def ftext (t : Tx) (args : List Tx) : Tx := if args = [] then t else t ++ [40] ++ joinL [44] args ++ [41]
theorem ftext_flat (t : Tx) (args : List Tx) : ftext t args = (toks t args false).flatten := by
  unfold ftext toks
  match args with
  | [] => simp
  | a :: r =>
    rw [if_neg (fun z => by cases z), if_neg (fun z => by cases z.1), commas_join]
    simp
theorem commas_len : ∀ xs : List Tx, (commas xs).length ≤ 2 * xs.length
  | [] => Nat.le_refl _
  | a :: r => by
    have : (r.flatMap fun x => [[44], x]).length = 2 * r.length := by
      induction r with
      | nil => rfl
      | cons x r ih => simp only [List.flatMap_cons, List.length_append, ih, List.length_cons, List.length_nil]; omega
    show (r.flatMap fun x => [[44], x]).length + 1 ≤ _
    rw [this, List.length_cons]; omega
theorem commas_mem {P : Tx → Prop} (hc : P [44]) : ∀ {xs : List Tx}, (∀ x ∈ xs, P x) → ∀ x ∈ commas xs, P x
  | [], _, x, hx => by cases hx
  | a :: r, h, x, hx => by
    rcases List.mem_cons.mp hx with e | hx
    · rw [e]; exact h a (List.mem_cons_self ..)
    · obtain ⟨y, hy, hx⟩ := List.mem_flatMap.mp hx
      rcases List.mem_cons.mp hx with e | hx
      · rw [e]; exact hc
      · rw [List.mem_singleton.mp hx]; exact h y (List.mem_cons_of_mem _ hy)
theorem toks_mem {P : Tx → Prop} {t : Tx} {args : List Tx} {br : Bool} (h1 : P t) (h2 : P [40]) (h3 : P [41]) (h4 : P [44]) (ha : ∀ x ∈ args, P x) : ∀ x ∈ toks t args br, P x := by
  intro x hx
  unfold toks at hx
  by_cases h : args = [] ∧ br = false
  · rw [if_pos h] at hx; rw [List.mem_singleton.mp hx]; exact h1
  · rw [if_neg h] at hx
    rcases List.mem_cons.mp hx with e | hx
    · rw [e]; exact h1
    · rcases List.mem_cons.mp hx with e | hx
      · rw [e]; exact h2
      · rcases List.mem_append.mp hx with hx | hx
        · exact commas_mem h4 ha x hx
        · rw [List.mem_singleton.mp hx]; exact h3
theorem toks_len (t : Tx) (args : List Tx) (br : Bool) : (toks t args br).length ≤ 2 * args.length + 3 := by
  unfold toks
  by_cases h : args = [] ∧ br = false
  · rw [if_pos h, List.length_singleton]; omega
  · rw [if_neg h, List.length_cons, List.length_cons, List.length_append, List.length_singleton]
    have := commas_len args
    omega
theorem isNm_len {x : Tx} (h : isNm x = true) : x.length ≤ 12 := by
  unfold isNm at h
  simp only [Bool.and_eq_true, decide_eq_true_eq] at h
  exact h.1.2
theorem isKd_nm {x : Tx} (h : isKd x = true) : isNm x = true := by
  unfold isKd at h
  simp only [Bool.and_eq_true] at h
  exact h.1
theorem flatten_len {n : Nat} : ∀ {xs : List Tx}, (∀ x ∈ xs, x.length ≤ n) → xs.flatten.length ≤ n * xs.length
  | [], _ => Nat.zero_le _
  | x :: xs, h => by
    have := flatten_len (xs := xs) fun y hy => h y (List.mem_cons_of_mem _ hy)
    have := h x (List.mem_cons_self ..)
    rw [List.flatten_cons, List.length_append, List.length_cons, Nat.mul_add]; omega
theorem forP_inv {S : Type} {f : S → Int → M S} (I : Nat → S → Prop) : ∀ (n lo : Nat) (s : S), (∀ (k : Nat) (s : S), lo ≤ k → k < lo + n → I k s → Okp (f s (k : Int)) (I (k + 1))) → I lo s → Okp (forP f s (rangeL (lo : Int) n)) (I (lo + n))
  | 0, lo, s, _, h => ⟨s, rfl, h⟩
  | n + 1, lo, s, hf, h => by
    have e : rangeL (lo : Int) (n + 1) = (lo : Int) :: rangeL ((lo + 1 : Nat) : Int) n := by
      unfold rangeL
      rw [List.range_succ_eq_map, List.map_cons, List.map_map]
      refine congr (congrArg _ (by simp)) (List.map_congr_left fun i _ => ?_)
      show (lo : Int) + ((i + 1 : Nat) : Int) = ((lo + 1 : Nat) : Int) + (i : Int)
      omega
    rw [e]
    refine Okp.bind (hf lo s (Nat.le_refl _) (by omega) h) fun s' h' => ?_
    have := forP_inv I n (lo + 1) s' (fun k s h1 h2 => hf k s (by omega) (by omega)) h'
    rw [show lo + 1 + n = lo + (n + 1) by omega] at this
    exact this
theorem small_sign : ∀ c ∈ small, isSign c = true := by decide +kernel
theorem great_sign : ∀ c ∈ great, isSign c = true := by decide +kernel
theorem words_sign : ∀ c ∈ tx "abcdefghijklmnopqrstuvwxyz0123456789", isSign c = true := by decide +kernel
theorem Nm.kind {y : Tx} (h : Nm small y) : isKd y = true := by
  unfold isKd
  rw [h.name small_sign]
  obtain ⟨c, r, rfl, hc, _⟩ := h
  exact decide_eq_true hc
theorem ftext_len {t : Tx} {args : List Tx} (ht : t.length ≤ 12) (ha : ∀ x ∈ args, x.length ≤ 12) (hl : args.length ≤ 100) : (ftext t args).length ≤ 3000 := by
  rw [ftext_flat]
  have := flatten_len (n := 12) (toks_mem (P := fun x => x.length ≤ 12) (br := false) ht (by decide) (by decide) (by decide) ha)
  have := toks_len t args false
  omega
theorem join_bound {args : List Tx} (ha : ∀ x ∈ args, x.length ≤ 12) (hl : args.length ≤ 100) : (args.map (·.length)).sum + args.length * ([44] : Tx).length ≤ 1300 := by
  have := sum_le ha
  rw [List.length_singleton]
  omega
theorem fact_text_core {t : Tx} {args : List Tx} (ht : t.length ≤ 12) (ha : ∀ x ∈ args, x.length ≤ 12) (hl : args.length ≤ 100) :
    (if decide ((args.length : Int) = 0) = true then (pure t : M Tx) else ((addT t [40] >>= fun x => joinM [44] args >>= fun y => addT x y) >>= fun x => addT x [41])) = .ok (ftext t args) := by
  have j1 := join_bound ha hl
  have j2 := joinL_len [44] args
  unfold ftext
  by_cases h : args = []
  · subst h; rfl
  · have h0 : ¬ ((args.length : Int) = 0) := fun z => h (List.length_eq_zero_iff.mp (by omega))
    rw [decide_eq_false h0, if_neg Bool.false_ne_true, if_neg h, addT_ok (by rw [SZ_val, List.length_singleton]; omega), pure_bind, joinM_ok (by omega), okb,
      addT_ok (by rw [SZ_val, List.length_append, List.length_singleton]; omega), pure_bind, addT_ok (by rw [SZ_val, List.length_append, List.length_append, List.length_singleton, List.length_singleton]; omega)]
    rfl
theorem fact_text_eq {t : Tx} {args : List Tx} (ht : t.length ≤ 12) (ha : ∀ x ∈ args, x.length ≤ 12) (hl : args.length ≤ 100) : m_fact_text (t, args) = .ok (ftext t args) := by
  rw [← fact_text_core ht ha hl]
  unfold m_fact_text
  simp only [pure_bind, tup_b, tx_open, tx_close, tx_comma, bind_assoc]
theorem law_fact_text_eq {t : Tx} {args : List Tx} (ht : t.length ≤ 12) (ha : ∀ x ∈ args, x.length ≤ 12) (hl : args.length ≤ 100) : m__law_fact_text (t, args) = .ok (ftext t args) := by
  rw [← fact_text_core ht ha hl]
  unfold m__law_fact_text
  simp only [pure_bind, tup_b, tx_open, tx_close, tx_comma, bind_assoc]
/-! rows of facts -/
abbrev Fct : Type := Tx × Tup Tx
def fc (f : Tx × List Tx) : Fct := f
/-- facts parted by commas, up to the end -/
def contFs (F : List Fct) (l : List Tx) : Option (List Fct) := match h : pF l with
  | none => none
  | some (f, r) => if r = [] then some (F ++ [fc f]) else if hd r = [44] then contFs (F ++ [fc f]) r.tail else none
termination_by l.length
decreasing_by
  have := pF_len h
  rw [List.length_tail]; omega
def contFact (F : List Fct) (r : List Tx) : Option (List Fct) := if r = [] then some F else if hd r = [44] then contFs F r.tail else none
theorem contFs_eq (F : List Fct) (l : List Tx) : contFs F l = match pF l with
    | none => none
    | some (f, r) => contFact (F ++ [fc f]) r := by
  rw [contFs]
  split
  · rename_i h; rw [h]
  · rename_i f r h; rw [h]; rfl
def rdFs (t : Tx) : Option (List Fct) := match pcs t with
  | none => none
  | some [] => some []
  | some (x :: xs) => contFs [] (x :: xs)
def rdF (t : Tx) : Option Fct := match pcs t with
  | none => none
  | some xs => match pF xs with
    | some (f, []) => some (fc f)
    | _ => none
theorem contFs_app : ∀ (n : Nat) (l : List Tx), l.length ≤ n → ∀ F : List Fct, contFs F l = (contFs [] l).map fun g => F ++ g := by
  intro n
  induction n with
  | zero =>
    intro l hl F
    match l, hl with
    | [], _ => rw [contFs_eq, contFs_eq]; rfl
  | succ n ih =>
    intro l hl F
    rw [contFs_eq, contFs_eq]
    cases e : pF l with
    | none => rfl
    | some s =>
      obtain ⟨f, r⟩ := s
      have hr := pF_len e
      show contFact _ r = (contFact _ r).map _
      unfold contFact
      by_cases h1 : r = []
      · rw [if_pos h1, if_pos h1]; rfl
      · rw [if_neg h1, if_neg h1]
        by_cases h2 : hd r = [44]
        · rw [if_pos h2, if_pos h2, ih r.tail (by rw [List.length_tail]; omega), ih r.tail (by rw [List.length_tail]; omega) ([] ++ [fc f])]
          cases contFs [] r.tail with
          | none => rfl
          | some g => simp
        · rw [if_neg h2, if_neg h2]; rfl
theorem contFs_ne {l : List Tx} {g : List Fct} (h : contFs [] l = some g) : g ≠ [] := by
  rw [contFs_eq] at h
  cases e : pF l with
  | none => rw [e] at h; cases h
  | some s =>
    obtain ⟨f, r⟩ := s
    rw [e] at h
    have h : contFact ([] ++ [fc f]) r = some g := h
    unfold contFact at h
    by_cases h1 : r = []
    · rw [if_pos h1] at h; cases h; exact fun z => by cases z
    · rw [if_neg h1] at h
      by_cases h2 : hd r = [44]
      · rw [if_pos h2, contFs_app _ r.tail (Nat.le_refl _)] at h
        cases e2 : contFs [] r.tail with
        | none => rw [e2] at h; cases h
        | some g2 => rw [e2] at h; cases h; exact fun z => by cases z
      · rw [if_neg h2] at h; cases h
/-- one fact alone, or not -/
theorem rdF_eq (t : Tx) : rdF t = match rdFs t with
    | some [f] => some f
    | _ => none := by
  unfold rdF rdFs
  cases e : pcs t with
  | none => rfl
  | some xs =>
    match xs with
    | [] => rfl
    | x :: xs =>
      show (match pF (x :: xs) with
        | some (f, []) => some (fc f)
        | _ => none) = match contFs [] (x :: xs) with
        | some [f] => some f
        | _ => none
      rw [contFs_eq]
      cases e2 : pF (x :: xs) with
      | none => rfl
      | some s =>
        obtain ⟨f, r⟩ := s
        match r with
        | [] => rfl
        | y :: r =>
          show none = match contFact ([] ++ [fc f]) (y :: r) with
            | some [f] => some f
            | _ => none
          unfold contFact
          rw [if_neg (fun z => by cases z)]
          by_cases h2 : hd (y :: r) = [44]
          · rw [if_pos h2, contFs_app _ (y :: r).tail (Nat.le_refl _)]
            cases e3 : contFs [] (y :: r).tail with
            | none => rfl
            | some g =>
              have := contFs_ne e3
              match g, this with
              | a :: g, _ => rfl
          · rw [if_neg h2]
theorem pA1_suffix : ∀ (n : Nat) (l : List Tx), l.length ≤ n → ∀ (acc : List Tx) {a r : List Tx}, pA1 acc l = some (a, r) → r = l.drop (l.length - r.length) := by
  intro n
  induction n with
  | zero =>
    intro l hl acc a r h
    match l, hl with
    | [], _ => simp [pA1] at h
  | succ n ih =>
    intro l hl acc a r h
    match l with
    | [] => simp [pA1] at h
    | [x] => simp [pA1] at h
    | x :: y :: t =>
      unfold pA1 at h
      by_cases h1 : isNm x = true
      · rw [if_pos h1] at h
        by_cases h2 : y = [41]
        · rw [if_pos h2] at h; cases h
          rw [List.length_cons, List.length_cons, show r.length + 1 + 1 - r.length = 2 by omega]; rfl
        · rw [if_neg h2] at h
          by_cases h3 : y = [44]
          · rw [if_pos h3] at h
            have e := ih t (by rw [List.length_cons, List.length_cons] at hl; omega) _ h
            have hl := pA1_len _ t (Nat.le_refl _) _ h
            rw [List.length_cons, List.length_cons, show t.length + 1 + 1 - r.length = (t.length - r.length) + 2 by omega]
            exact e
          · rw [if_neg h3] at h; cases h
      · rw [if_neg h1] at h; cases h
theorem pA_suffix {l a r : List Tx} (h : pA l = some (a, r)) : r = l.drop (l.length - r.length) := by
  unfold pA at h
  by_cases h1 : hd l = [41]
  · rw [if_pos h1] at h; cases h
    match l, h1 with
    | [], h1 => cases h1
    | _ :: t, _ => rw [List.tail_cons, List.length_cons, show t.length + 1 - t.length = 1 by omega]; rfl
  · rw [if_neg h1] at h
    exact pA1_suffix _ l (Nat.le_refl _) [] h
theorem pF_suffix0 {l : List Tx} {f : Tx × List Tx} {r : List Tx} (h : pF l = some (f, r)) : r = l.drop (l.length - r.length) := by
  have hl := pF_len h
  unfold pF at h
  by_cases h1 : isKd (hd l) = true
  · rw [if_pos h1] at h
    match l, h1 with
    | [], h1 => exact absurd h1 (by decide)
    | x :: t, _ =>
      by_cases h2 : hd (x :: t).tail = [40]
      · rw [if_pos h2] at h
        match t, h2 with
        | [], h2 => cases h2
        | y :: t', _ =>
          cases e : pA (x :: y :: t').tail.tail with
          | none => rw [e] at h; cases h
          | some s =>
            rw [e] at h
            obtain ⟨a, r'⟩ := s
            cases h
            have g := pA_suffix e
            have gl : r'.length < _ := pA_len e
            rw [List.tail_cons, List.tail_cons] at g gl
            show r' = (x :: y :: t').drop _
            rw [List.length_cons, List.length_cons, show t'.length + 1 + 1 - (a, r').2.length = (t'.length - r'.length) + 2 by show t'.length + 1 + 1 - r'.length = _; omega]
            exact g
      · rw [if_neg h2] at h; cases h
        rw [List.tail_cons, List.length_cons, show t.length + 1 - t.length = 1 by omega]; rfl
  · rw [if_neg h1] at h; cases h
theorem pF_suffix {xs : List Tx} {i : Nat} {f : Tx × List Tx} {r : List Tx} (h : pF (xs.drop i) = some (f, r)) : r = xs.drop (xs.length - r.length) := by
  have e := pF_suffix0 h
  have hl := pF_len h
  rw [List.length_drop] at e hl
  rw [List.drop_drop] at e
  rw [show xs.length - r.length = i + (xs.length - i - r.length) by omega]
  exact e
/-- take_facts -/
theorem facts_loop {xs : List Tx} (hx : tks xs) {mr : Int × List Fct → M (List Fct × Int)} {g : Int × List Fct → M (Tl (Int × List Fct) (List Fct × Int))}
    (hg : ∀ (i : Nat) (acc : List Fct), i ≤ xs.length → acc.length < SZ → g ((i : Int), acc) = match pF (xs.drop i) with
      | none => raise "NoLine"
      | some (f, rest) => if hd rest = [44] then .ok (.ct (((xs.length - rest.length + 1 : Nat) : Int), acc ++ [fc f])) else .ok (.rt (acc ++ [fc f], ((xs.length - rest.length : Nat) : Int)))) :
    ∀ (fuel i : Nat) (acc : List Fct), acc.length + xs.length < SZ + i → xs.length < fuel + i → i ≤ xs.length →
    ((whT (fun _ => (pure true : M Bool)) g fuel ((i : Int), acc) >>= thenT mr id) >>= fun a => if (!decide (a.2 = (xs.length : Int))) = true then raise "NoLine" else pure a.1) = match contFs acc (xs.drop i) with
      | some fs => .ok fs
      | none => raise "NoLine" := by
  intro fuel
  induction fuel with
  | zero => intro i acc h1 h2 h3; omega
  | succ fuel ih =>
    intro i acc h1 h2 h3
    unfold whT
    rw [pure_bind, if_pos rfl, hg i acc h3 (by omega), contFs_eq]
    cases e : pF (xs.drop i) with
    | none => rfl
    | some s =>
      obtain ⟨f, r⟩ := s
      have hr := pF_len e
      rw [List.length_drop] at hr
      show _ = match contFact (acc ++ [fc f]) r with
        | some fs => Except.ok fs
        | none => raise "NoLine"
      unfold contFact
      by_cases c1 : hd r = [44]
      · have rn : r ≠ [] := fun z => by rw [z] at c1; cases c1
        have rl : 0 < r.length := List.length_pos_iff.mpr rn
        have e3 : r.tail = xs.drop (xs.length - r.length + 1) := by
          have suf : r = xs.drop (xs.length - r.length) := pF_suffix e
          rw [← tail_drop', ← suf]
        simp only [c1, if_true, rn, if_false]
        rw [e3]
        exact ih _ _ (by rw [List.length_append, List.length_singleton]; omega) (by omega) (by omega)
      · simp only [c1, if_false]
        by_cases rn : r = []
        · subst rn
          simp only [if_true]
          show (if (!decide (((xs.length - 0 : Nat) : Int) = (xs.length : Int))) = true then raise "NoLine" else pure (acc ++ [fc f])) = _
          rw [Nat.sub_zero, decide_eq_true rfl]
          rfl
        · have rl : 0 < r.length := List.length_pos_iff.mpr rn
          simp only [rn, if_false]
          show (if (!decide (((xs.length - r.length : Nat) : Int) = (xs.length : Int))) = true then raise "NoLine" else pure (acc ++ [fc f])) = _
          rw [decide_eq_false (by omega)]
          rfl
/-! tokens of a line's rest, behind a name that is under way -/
def tk (n r : Tx) : Option (List Tx) := (prun [] n r).map fun s => flush s.1 s.2
theorem flush_app (f : List Tx) (n : Tx) : flush f n = f ++ flush [] n := by
  unfold flush
  by_cases h : n = []
  · rw [if_pos h, if_pos h, List.append_nil]
  · rw [if_neg h, if_neg h]; rfl
theorem prun_shift : ∀ (r : Tx) (f : List Tx) (n : Tx), prun f n r = (prun [] n r).map fun s => (f ++ s.1, s.2) := by
  intro r
  induction r with
  | nil => intro f n; show some (f, n) = some (f ++ [], n); rw [List.append_nil]
  | cons c r ih =>
    intro f n
    rw [run_cons, run_cons]
    have e : stp f n c = (stp [] n c).map fun s => (f ++ s.1, s.2) := by
      unfold stp
      by_cases h1 : isSign c = true
      · rw [if_pos h1, if_pos h1]; show _ = some (f ++ [], _); rw [List.append_nil]
      · rw [if_neg h1, if_neg h1]
        by_cases h2 : isMark c = true
        · rw [if_pos h2, if_pos h2, flush_app f n]; show _ = some (f ++ (flush [] n ++ [[c]]), _); rw [List.append_assoc]
        · rw [if_neg h2, if_neg h2]
          by_cases h3 : c = 32
          · rw [if_pos h3, if_pos h3, flush_app f n]; rfl
          · rw [if_neg h3, if_neg h3]; rfl
    rw [e]
    cases stp [] n c with
    | none => rfl
    | some s =>
      show prun (f ++ s.1) s.2 r = (prun s.1 s.2 r).map _
      rw [ih (f ++ s.1), ih s.1]
      cases prun [] s.2 r with
      | none => rfl
      | some z => show some (f ++ s.1 ++ z.1, z.2) = some (f ++ (s.1 ++ z.1), z.2); rw [List.append_assoc]
theorem tk_shift (f : List Tx) (n r : Tx) : ((prun f n r).map fun s => flush s.1 s.2) = (tk n r).map fun k => f ++ k := by
  unfold tk
  rw [prun_shift]
  cases prun [] n r with
  | none => rfl
  | some s => show some (flush (f ++ s.1) s.2) = some (f ++ flush s.1 s.2); rw [flush_app, flush_app s.1, List.append_assoc]
theorem tk_sign {c : Nat} {n r : Tx} (h : isSign c = true) : tk n (c :: r) = tk (n ++ [c]) r := by
  unfold tk
  rw [run_cons]
  unfold stp
  rw [if_pos h]
  rfl
theorem tk_mark {c : Nat} {n r : Tx} (h : isSign c = false) (h2 : isMark c = true) : tk n (c :: r) = (tk [] r).map fun k => flush [] n ++ [c] :: k := by
  have e : tk n (c :: r) = ((prun (flush [] n ++ [[c]]) [] r).map fun s => flush s.1 s.2) := by
    unfold tk
    rw [run_cons]
    unfold stp
    rw [h, h2]
    rfl
  rw [e, tk_shift]
  cases tk [] r with
  | none => rfl
  | some k => show some (flush [] n ++ [[c]] ++ k) = some (flush [] n ++ [c] :: k); rw [List.append_assoc]; rfl
theorem tk_sp {n r : Tx} : tk n (32 :: r) = (tk [] r).map fun k => flush [] n ++ k := by
  have e : tk n (32 :: r) = ((prun (flush [] n) [] r).map fun s => flush s.1 s.2) := by
    unfold tk
    rw [run_cons]
    unfold stp
    rw [sp_notSign, sp_notMark]
    rfl
  rw [e, tk_shift]
theorem tk_bad {c : Nat} {n r : Tx} (h : isSign c = false) (h2 : isMark c = false) (h3 : c ≠ 32) : tk n (c :: r) = none := by
  unfold tk
  rw [run_cons]
  unfold stp
  rw [h, h2, if_neg Bool.false_ne_true, if_neg Bool.false_ne_true, if_neg h3]
  rfl
theorem tk_nil {n : Tx} : tk n [] = some (flush [] n) := rfl
theorem flush_ne {n : Tx} (h : n ≠ []) : flush [] n = [n] := by unfold flush; rw [if_neg h]; rfl
/-- a name under way is the first token -/
theorem tk_name : ∀ (r n : Tx), nmT n → tk n r = none ∨ ∃ m k, tk n r = some (m :: k) ∧ nmT m := by
  intro r
  induction r with
  | nil => intro n h; exact .inr ⟨n, [], by rw [tk_nil, flush_ne h.1], h⟩
  | cons c r ih =>
    intro n h
    cases h1 : isSign c with
    | true =>
      rw [tk_sign h1]
      exact ih (n ++ [c]) ⟨by simp, fun d hd => by
        rcases List.mem_append.mp hd with z | z
        · exact h.2 d z
        · rw [List.mem_singleton.mp z]; exact h1⟩
    | false =>
      cases h2 : isMark c with
      | true =>
        rw [tk_mark h1 h2, flush_ne h.1]
        cases tk [] r with
        | none => exact .inl rfl
        | some k => exact .inr ⟨n, [c] :: k, rfl, h⟩
      | false =>
        by_cases h3 : c = 32
        · subst h3
          rw [tk_sp, flush_ne h.1]
          cases tk [] r with
          | none => exact .inl rfl
          | some k => exact .inr ⟨n, k, rfl, h⟩
        · rw [tk_bad h1 h2 h3]; exact .inl rfl
theorem nm_ne {m : Tx} {c : Nat} (h : nmT m) (hc : isSign c = false) : m ≠ [c] := fun z => by
  have := h.2 c (by rw [z]; exact List.mem_cons_self ..)
  rw [hc] at this; cases this
theorem ns40 : isSign 40 = false := by decide +kernel
theorem ns41 : isSign 41 = false := by decide +kernel
theorem ns44 : isSign 44 = false := by decide +kernel
theorem mk40 : isMark 40 = true := by decide +kernel
theorem mk41 : isMark 41 = true := by decide +kernel
theorem mk44 : isMark 44 = true := by decide +kernel
theorem isNm_mark {c : Nat} (h : isSign c = false) : isNm [c] = false := by
  unfold isNm
  rw [List.all_cons, h]
  simp
theorem isKd_mark {c : Nat} (h : isSign c = false) : isKd [c] = false := by unfold isKd; rw [isNm_mark h]; rfl
/-- arguments told so far -/
def pre (as : List Tx) : List Tx := as.flatMap fun a => [a, [44]]
theorem pre_cons (a : Tx) (as X : List Tx) : pre (a :: as) ++ X = a :: [44] :: (pre as ++ X) := rfl
theorem pre_snoc (as : List Tx) (n : Tx) (X : List Tx) : pre (as ++ [n]) ++ X = pre as ++ n :: [44] :: X := by
  unfold pre
  rw [List.flatMap_append, List.append_assoc]
  rfl
theorem commas_pre : ∀ (as : List Tx) (n : Tx), commas (as ++ [n]) = pre as ++ [n]
  | [], n => rfl
  | a :: as, n => by
    show a :: ((as ++ [n]).flatMap fun x => [[44], x]) = a :: [44] :: (pre as ++ [n])
    refine congrArg _ ?_
    induction as with
    | nil => rfl
    | cons b as ih =>
      show [44] :: b :: ((as ++ [n]).flatMap fun x => [[44], x]) = [44] :: b :: [44] :: (pre as ++ [n])
      rw [ih]
theorem pA1_pre : ∀ (as acc X : List Tx), pA1 acc (pre as ++ X) = if as.all isNm = true then pA1 (acc ++ as) X else none
  | [], acc, X => by rw [List.append_nil]; rfl
  | a :: as, acc, X => by
    rw [pre_cons]
    show (if isNm a = true then (if ([44] : Tx) = [41] then _ else if ([44] : Tx) = [44] then pA1 (acc ++ [a]) (pre as ++ X) else none) else none) = _
    rw [if_neg (show ¬ ([44] : Tx) = [41] by decide), if_pos rfl, pA1_pre as (acc ++ [a]) X, List.all_cons, List.append_assoc]
    cases isNm a <;> simp
theorem pA_pre {as : List Tx} {n : Tx} {Y : List Tx} (ha : ∀ a ∈ as, nmT a) (hn : nmT n) : pA (pre as ++ n :: Y) = if as.all isNm = true then pA1 as (n :: Y) else none := by
  have h : hd (pre as ++ n :: Y) ≠ [41] := by
    match as, ha with
    | [], _ => exact nm_ne hn ns41
    | a :: as, ha => exact nm_ne (ha a (List.mem_cons_self ..)) ns41
  unfold pA
  rw [if_neg h, pA1_pre, List.nil_append]
theorem pF_br (t : Tx) (Y : List Tx) : pF (t :: [40] :: Y) = if isKd t = true then (pA Y).map (fun s => ((t, s.1), s.2)) else none := rfl
theorem pF_no {t : Tx} {k : List Tx} (h : hd k ≠ [40]) : pF (t :: k) = if isKd t = true then some ((t, []), k) else none := by
  show (if isKd t = true then (if hd k = [40] then _ else _) else none) = _
  rw [if_neg h]
  rfl
def okW (W : List Tx) : Bool := W.all (fun w => decide (w.length ≤ 12)) && decide ((W.headD []).headD 0 ∈ small)
theorem nm_len {x : Tx} (h : nmT x) : isNm x = decide (x.length ≤ 12) := by
  unfold isNm
  rw [List.all_eq_true.mpr h.2, decide_eq_true (show 1 ≤ x.length from List.length_pos_iff.mpr h.1)]
  simp
theorem all_len {as : List Tx} (h : ∀ a ∈ as, nmT a) : as.all isNm = as.all fun w => decide (w.length ≤ 12) := by
  induction as with
  | nil => rfl
  | cons a as ih => rw [List.all_cons, List.all_cons, nm_len (h a (List.mem_cons_self ..)), ih fun b hb => h b (List.mem_cons_of_mem _ hb)]
theorem okW_eq {t : Tx} {as : List Tx} (ht : nmT t) (ha : ∀ a ∈ as, nmT a) : okW (t :: as) = (isKd t && as.all isNm) := by
  unfold okW isKd
  rw [List.all_cons, all_len ha, nm_len ht]
  show ((_ && _) && decide (t.headD 0 ∈ small)) = _
  cases decide (t.length ≤ 12) <;> cases decide (t.headD 0 ∈ small) <;> cases as.all (fun w => decide (w.length ≤ 12)) <;> rfl
/-- a whole fact, then k -/
theorem V1 {F : List Fct} {t : Tx} {k : List Tx} (h : hd k ≠ [40]) (ht : nmT t) : contFs F (t :: k) = if okW [t] = true then contFact (F ++ [fc (t, [])]) k else none := by
  rw [contFs_eq, pF_no h, okW_eq (as := []) ht (fun a h => by cases h)]
  simp only [List.all_nil, Bool.and_true]
  cases isKd t <;> rfl
theorem V7 {F : List Fct} {t : Tx} {as k : List Tx} (ht : nmT t) (ha : ∀ a ∈ as, nmT a) : contFs F (t :: [40] :: (commas as ++ [41] :: k)) = if okW (t :: as) = true then contFact (F ++ [fc (t, as)]) k else none := by
  rw [contFs_eq, pF_br, okW_eq ht ha]
  cases hk : isKd t with
  | false => rfl
  | true =>
    rcases List.eq_nil_or_concat as with h | ⟨as', n, h⟩
    · subst h; rfl
    · subst h
      rw [List.concat_eq_append] at ha ⊢
      have hn := ha n (List.mem_append_right _ (List.mem_cons_self ..))
      have e2 : commas (as' ++ [n]) ++ [41] :: k = pre as' ++ n :: [41] :: k := by rw [commas_pre, List.append_assoc]; rfl
      rw [e2, if_pos rfl, pA_pre (fun a h => ha a (List.mem_append_left _ h)) hn, List.all_append]
      cases h1 : as'.all isNm with
      | false => rfl
      | true =>
        simp only [if_true, List.all_cons, List.all_nil, Bool.and_true, Bool.true_and]
        unfold pA1
        cases isNm n <;> rfl
theorem R0 {F : List Fct} {c : Nat} {k : List Tx} (h : isSign c = false) : contFs F ([c] :: k) = none := by
  rw [contFs_eq]
  have : pF ([c] :: k) = none := by
    show (if isKd [c] = true then _ else none) = none
    rw [isKd_mark h]; rfl
  rw [this]
theorem Rn {F : List Fct} : contFs F [] = none := by rw [contFs_eq]; rfl
theorem R2 {F : List Fct} {t x : Tx} {k : List Tx} (h1 : x ≠ [40]) (h2 : x ≠ [44]) (ht : nmT t) : contFs F (t :: x :: k) = none := by
  rw [V1 (show hd (x :: k) ≠ [40] from h1) ht]
  unfold contFact
  rw [if_neg (show ¬ (x :: k) = [] from fun z => by cases z), if_neg (show ¬ hd (x :: k) = [44] from h2)]
  cases okW [t] <;> rfl
theorem R3 {F : List Fct} {t : Tx} {c : Nat} {k : List Tx} (h : isSign c = false) (h1 : c ≠ 41) : contFs F (t :: [40] :: [c] :: k) = none := by
  have : pA ([c] :: k) = none := by
    unfold pA
    rw [if_neg (show ¬ hd ([c] :: k) = [41] from fun z => h1 (by injection z))]
    match k with
    | [] => rfl
    | x :: k =>
      unfold pA1
      rw [isNm_mark h]; rfl
  rw [contFs_eq, pF_br, this]
  cases isKd t <;> rfl
theorem R3n {F : List Fct} {t : Tx} : contFs F [t, [40]] = none := by
  rw [contFs_eq, pF_br]
  cases isKd t <;> rfl
theorem R4 {F : List Fct} {t n x : Tx} {as k : List Tx} (h1 : x ≠ [41]) (h2 : x ≠ [44]) (ha : ∀ a ∈ as, nmT a) (hn : nmT n) : contFs F (t :: [40] :: (pre as ++ n :: x :: k)) = none := by
  rw [contFs_eq, pF_br, pA_pre ha hn]
  have : pA1 as (n :: x :: k) = none := by
    unfold pA1
    rw [if_neg h1, if_neg h2]
    cases isNm n <;> rfl
  rw [this]
  cases isKd t <;> cases as.all isNm <;> rfl
theorem R4n {F : List Fct} {t n : Tx} {as : List Tx} (ha : ∀ a ∈ as, nmT a) (hn : nmT n) : contFs F (t :: [40] :: (pre as ++ [n])) = none := by
  rw [contFs_eq, pF_br, pA_pre ha hn]
  have : pA1 as [n] = none := rfl
  rw [this]
  cases isKd t <;> cases as.all isNm <;> rfl
theorem R6 {F : List Fct} {t : Tx} {c : Nat} {as k : List Tx} (hc : isSign c = false) (h0 : as ≠ []) (ha : ∀ a ∈ as, nmT a) : contFs F (t :: [40] :: (pre as ++ [c] :: k)) = none := by
  have h : hd (pre as ++ [c] :: k) ≠ [41] := by
    match as, ha, h0 with
    | a :: as, ha, _ => exact nm_ne (ha a (List.mem_cons_self ..)) ns41
  have e : pA1 as ([c] :: k) = none := by
    match k with
    | [] => rfl
    | x :: k => unfold pA1; rw [isNm_mark hc]; rfl
  rw [contFs_eq, pF_br]
  unfold pA
  rw [if_neg h, pA1_pre, List.nil_append, e]
  cases isKd t <;> cases as.all isNm <;> rfl
theorem R6n {F : List Fct} {t : Tx} {as : List Tx} (h0 : as ≠ []) (ha : ∀ a ∈ as, nmT a) : contFs F (t :: [40] :: pre as) = none := by
  have h : hd (pre as) ≠ [41] := by
    match as, ha, h0 with
    | a :: as, ha, _ => exact nm_ne (ha a (List.mem_cons_self ..)) ns41
  have p := pA1_pre as [] []
  rw [List.append_nil, List.nil_append] at p
  have e : pA1 as [] = none := rfl
  rw [contFs_eq, pF_br]
  unfold pA
  rw [if_neg h, p, e]
  cases isKd t <;> cases as.all isNm <;> rfl
theorem R7 {F : List Fct} {t x : Tx} {as k : List Tx} (h2 : x ≠ [44]) (ht : nmT t) (ha : ∀ a ∈ as, nmT a) : contFs F (t :: [40] :: (commas as ++ [41] :: x :: k)) = none := by
  rw [V7 ht ha]
  unfold contFact
  rw [if_neg (show ¬ (x :: k) = [] from fun z => by cases z), if_neg (show ¬ hd (x :: k) = [44] from h2)]
  cases okW (t :: as) <;> rfl
theorem fact_end {F : List Fct} : contFact F [] = some F := rfl
theorem fact_comma {F : List Fct} {k : List Tx} : contFact F ([44] :: k) = contFs F k := rfl
/-! the law's reader, by signs -/
def cl (c : Nat) : Nat := if isSign c = true then 1 else if c = 32 then 0 else if c = 40 then 2 else if c = 41 then 3 else if c = 44 then 4 else 5
def nx : Nat → Nat → Option Nat
  | 0, 0 => some 0 | 0, 1 => some 1
  | 1, 0 => some 2 | 1, 1 => some 1 | 1, 2 => some 3 | 1, 4 => some 0
  | 2, 0 => some 2 | 2, 2 => some 3 | 2, 4 => some 0
  | 3, 0 => some 3 | 3, 1 => some 4 | 3, 3 => some 7
  | 4, 0 => some 5 | 4, 1 => some 4 | 4, 3 => some 7 | 4, 4 => some 6
  | 5, 0 => some 5 | 5, 3 => some 7 | 5, 4 => some 6
  | 6, 0 => some 6 | 6, 1 => some 4
  | 7, 0 => some 7 | 7, 4 => some 0
  | _, _ => none
def upd1 (st st' : Nat) (W : List Tx) (c : Nat) : List Tx := if st' = st ∧ (st' = 1 ∨ st' = 4) then W.dropLast ++ [W.getLastD [] ++ [c]] else W
def upd2 (st st' : Nat) (W : List Tx) (c : Nat) : List Tx := if ¬ st' = st ∧ st' = 1 then [[c]] else W
def upd3 (st st' : Nat) (W : List Tx) (c : Nat) : List Tx := if ¬ st' = st ∧ st' = 4 then W ++ [[c]] else W
def updW (st st' : Nat) (W : List Tx) (c : Nat) : List Tx := upd3 st st' (upd2 st st' (upd1 st st' W c) c) c
def stepT (st : Nat) (W : List Tx) (F : List Fct) (c : Nat) : Option (Nat × List Tx × List Fct) := match nx st (cl c) with
  | none => none
  | some st' => if ¬ st' = st ∧ st' = 0 then (if okW (updW st st' W c) = true then some (st', updW st st' W c, F ++ [fc ((updW st st' W c).headD [], (updW st st' W c).drop 1)]) else none) else some (st', updW st st' W c, F)
def aut : Nat → List Tx → List Fct → Tx → Option (Nat × List Tx × List Fct)
  | st, W, F, [] => some (st, W, F)
  | st, W, F, c :: r => match stepT st W F c with
    | none => none
    | some (st', W', F') => aut st' W' F' r
def endA : Option (Nat × List Tx × List Fct) → Option (List Fct)
  | some (0, _, F) => some F
  | _ => none
def A (st : Nat) (W : List Tx) (F : List Fct) (r : Tx) : Option (List Fct) := endA (aut st W F (r ++ [44]))
theorem A_cons (st : Nat) (W : List Tx) (F : List Fct) (c : Nat) (r : Tx) : A st W F (c :: r) = match stepT st W F c with
    | none => none
    | some (st', W', F') => A st' W' F' r := by
  show endA (match stepT st W F c with
    | none => none
    | some (st', W', F') => aut st' W' F' (r ++ [44])) = _
  cases stepT st W F c <;> rfl
theorem A_nil (st : Nat) (W : List Tx) (F : List Fct) : A st W F [] = endA (stepT st W F 44) := by
  show endA (match stepT st W F 44 with
    | none => none
    | some (st', W', F') => some (st', W', F')) = _
  cases stepT st W F 44 <;> rfl
theorem cl_sign {c : Nat} (h : isSign c = true) : cl c = 1 := by unfold cl; rw [if_pos h]
theorem cl32 : cl 32 = 0 := by decide +kernel
theorem cl40 : cl 40 = 2 := by decide +kernel
theorem cl41 : cl 41 = 3 := by decide +kernel
theorem cl44 : cl 44 = 4 := by decide +kernel
theorem cl_other {c : Nat} (h : isSign c = false) (h0 : c ≠ 32) (h1 : c ≠ 40) (h2 : c ≠ 41) (h3 : c ≠ 44) : cl c = 5 := by
  unfold cl
  rw [h, if_neg Bool.false_ne_true, if_neg h0, if_neg h1, if_neg h2, if_neg h3]
theorem step_none {st : Nat} {W : List Tx} {F : List Fct} {c : Nat} (h : nx st (cl c) = none) : stepT st W F c = none := by unfold stepT; rw [h]
theorem step_go {st st' : Nat} {W W' : List Tx} {F : List Fct} {c : Nat} (h : nx st (cl c) = some st') (h0 : ¬ (¬ st' = st ∧ st' = 0)) (hw : updW st st' W c = W') : stepT st W F c = some (st', W', F) := by
  unfold stepT
  rw [h]
  show (if ¬ st' = st ∧ st' = 0 then _ else _) = _
  rw [if_neg h0, hw]
theorem step_fin {st : Nat} {W : List Tx} {F : List Fct} {c : Nat} {t : Tx} {as : List Tx} (h : nx st (cl c) = some 0) (h0 : ¬ 0 = st) (hw : W = t :: as) : stepT st W F c = if okW (t :: as) = true then some (0, t :: as, F ++ [fc (t, as)]) else none := by
  subst hw
  unfold stepT
  rw [h]
  have e : updW st 0 (t :: as) c = t :: as := by
    unfold updW upd3 upd2 upd1
    rw [if_neg (show ¬ (0 = st ∧ (0 = 1 ∨ 0 = 4)) from fun z => h0 z.1), if_neg (show ¬ (¬ 0 = st ∧ 0 = 1) from fun z => by cases z.2), if_neg (show ¬ (¬ 0 = st ∧ 0 = 4) from fun z => by cases z.2)]
  show (if ¬ 0 = st ∧ 0 = 0 then _ else _) = _
  rw [if_pos ⟨h0, rfl⟩, e]
  rfl
/-- what the reader comes to, by what was read of the fact under way -/
structure St (r : Tx) : Prop where
  s0 : ∀ W F, A 0 W F r = (tk [] r).bind (contFs F)
  s1 : ∀ n F, nmT n → A 1 [n] F r = (tk n r).bind (contFs F)
  s2 : ∀ t F, nmT t → A 2 [t] F r = (tk [] r).bind fun k => contFs F (t :: k)
  s3 : ∀ t F, nmT t → A 3 [t] F r = (tk [] r).bind fun k => contFs F (t :: [40] :: k)
  s4 : ∀ t as n F, nmT t → (∀ a ∈ as, nmT a) → nmT n → A 4 (t :: (as ++ [n])) F r = (tk n r).bind fun k => contFs F (t :: [40] :: (pre as ++ k))
  s5 : ∀ t as n F, nmT t → (∀ a ∈ as, nmT a) → nmT n → A 5 (t :: (as ++ [n])) F r = (tk [] r).bind fun k => contFs F (t :: [40] :: (pre as ++ n :: k))
  s6 : ∀ t as F, nmT t → (∀ a ∈ as, nmT a) → as ≠ [] → A 6 (t :: as) F r = (tk [] r).bind fun k => contFs F (t :: [40] :: (pre as ++ k))
  s7 : ∀ t as F, nmT t → (∀ a ∈ as, nmT a) → A 7 (t :: as) F r = (tk [] r).bind fun k => contFs F (t :: [40] :: (commas as ++ [41] :: k))
theorem nm_one {c : Nat} (h : isSign c = true) : nmT [c] := ⟨fun z => (by cases z), fun d hd => by rw [List.mem_singleton.mp hd]; exact h⟩
theorem nm_more {n : Tx} {c : Nat} (hn : nmT n) (h : isSign c = true) : nmT (n ++ [c]) := ⟨by simp, fun d hd => by
  rcases List.mem_append.mp hd with z | z
  · exact hn.2 d z
  · rw [List.mem_singleton.mp z]; exact h⟩
theorem bind_none {α β : Type} {o : Option α} {f : α → Option β} (h : ∀ a, f a = none) : o.bind f = none := by
  cases o with
  | none => rfl
  | some a => exact h a
theorem bind_mapT {α β γ : Type} {o : Option α} {g : α → β} {f : β → Option γ} : (o.map g).bind f = o.bind fun a => f (g a) := by cases o <;> rfl
theorem st_nil : St [] where
  s0 := fun W F => by
    rw [A_nil, step_none (by rw [cl44]; rfl), tk_nil]
    show none = contFs F []
    rw [Rn]
  s1 := fun n F hn => by
    rw [A_nil, step_fin (t := n) (as := []) (by rw [cl44]; rfl) (by decide) rfl, tk_nil, flush_ne hn.1]
    show _ = contFs F (n :: [])
    rw [V1 (by decide) hn, fact_end]
    cases okW [n] <;> rfl
  s2 := fun t F ht => by
    rw [A_nil, step_fin (t := t) (as := []) (by rw [cl44]; rfl) (by decide) rfl, tk_nil]
    show _ = contFs F (t :: [])
    rw [V1 (by decide) ht, fact_end]
    cases okW [t] <;> rfl
  s3 := fun t F ht => by
    rw [A_nil, step_none (by rw [cl44]; rfl), tk_nil]
    show none = contFs F [t, [40]]
    rw [R3n]
  s4 := fun t as n F ht ha hn => by
    rw [A_nil, step_go (st' := 6) (by rw [cl44]; rfl) (by decide) rfl, tk_nil, flush_ne hn.1]
    show none = contFs F (t :: [40] :: (pre as ++ [n]))
    rw [R4n ha hn]
  s5 := fun t as n F ht ha hn => by
    rw [A_nil, step_go (st' := 6) (by rw [cl44]; rfl) (by decide) rfl, tk_nil]
    show none = contFs F (t :: [40] :: (pre as ++ [n]))
    rw [R4n ha hn]
  s6 := fun t as F ht ha h0 => by
    rw [A_nil, step_none (by rw [cl44]; rfl), tk_nil]
    show none = contFs F (t :: [40] :: (pre as ++ []))
    rw [List.append_nil, R6n h0 ha]
  s7 := fun t as F ht ha => by
    rw [A_nil, step_fin (t := t) (as := as) (by rw [cl44]; rfl) (by decide) rfl, tk_nil]
    show _ = contFs F (t :: [40] :: (commas as ++ [41] :: []))
    rw [V7 ht ha, fact_end]
    cases okW (t :: as) <;> rfl
theorem fin_go {st : Nat} {t : Tx} {as : List Tx} {F : List Fct} {r : Tx} (ih : St r) (h : nx st 4 = some 0) (h0 : ¬ 0 = st) : A st (t :: as) F (44 :: r) = if okW (t :: as) = true then (tk [] r).bind (contFs (F ++ [fc (t, as)])) else none := by
  rw [A_cons, step_fin (t := t) (as := as) (by rw [cl44]; exact h) h0 rfl]
  cases okW (t :: as) with
  | true => rw [if_pos rfl, if_pos rfl]; exact ih.s0 _ _
  | false => rfl
theorem last_app {W : List Tx} {n : Tx} (c : Nat) : (W ++ [n]).dropLast ++ [(W ++ [n]).getLastD [] ++ [c]] = W ++ [n ++ [c]] := by
  rw [List.dropLast_concat, List.getLastD_eq_getLast?, List.getLast?_concat]
  rfl
theorem upd44 {t n : Tx} {as : List Tx} {c : Nat} : updW 4 4 (t :: (as ++ [n])) c = t :: (as ++ [n ++ [c]]) := last_app (W := t :: as) (n := n) c
theorem bad_mark {c : Nat} (hm : isMark c = true) (h40 : c ≠ 40) (h41 : c ≠ 41) (h44 : c ≠ 44) (x : Nat) (hx : x = 40 ∨ x = 41 ∨ x = 44) : ([c] : Tx) ≠ [x] := fun z => by
  have e : c = x := by injection z
  rcases hx with h | h | h
  · exact h40 (e.trans h)
  · exact h41 (e.trans h)
  · exact h44 (e.trans h)
theorem st_cons {c : Nat} {r : Tx} (ih : St r) : St (c :: r) := by
  by_cases hs : isSign c = true
  · have k : cl c = 1 := cl_sign hs
    have nob : ∀ (f : List Tx → Option (List Fct)), (∀ m kk, nmT m → f (m :: kk) = none) → (tk [] (c :: r)).bind f = none := fun f hf => by
      rw [tk_sign hs]
      rcases tk_name r ([] ++ [c]) (nm_one hs) with e | ⟨m, kk, e, hm⟩
      · rw [e]; rfl
      · rw [e]; exact hf m kk hm
    exact {
      s0 := fun W F => by
        rw [A_cons, step_go (st' := 1) (W' := [[c]]) (by rw [k]; rfl) (by decide) rfl, tk_sign hs]
        exact ih.s1 [c] F (nm_one hs)
      s1 := fun n F hn => by
        rw [A_cons, step_go (st' := 1) (W' := [n ++ [c]]) (by rw [k]; rfl) (by decide) rfl, tk_sign hs]
        exact ih.s1 _ F (nm_more hn hs)
      s2 := fun t F ht => by
        rw [A_cons, step_none (by rw [k]; rfl), nob _ fun m kk hm => R2 (nm_ne hm ns40) (nm_ne hm ns44) ht]
      s3 := fun t F ht => by
        rw [A_cons, step_go (st' := 4) (W' := t :: ([] ++ [[c]])) (by rw [k]; rfl) (by decide) rfl, tk_sign hs]
        exact ih.s4 t [] [c] F ht (fun a h => by cases h) (nm_one hs)
      s4 := fun t as n F ht ha hn => by
        rw [A_cons, step_go (st' := 4) (W' := t :: (as ++ [n ++ [c]])) (by rw [k]; rfl) (by decide) upd44, tk_sign hs]
        exact ih.s4 t as _ F ht ha (nm_more hn hs)
      s5 := fun t as n F ht ha hn => by
        rw [A_cons, step_none (by rw [k]; rfl), nob _ fun m kk hm => R4 (nm_ne hm ns41) (nm_ne hm ns44) ha hn]
      s6 := fun t as F ht ha h0 => by
        rw [A_cons, step_go (st' := 4) (W' := t :: (as ++ [[c]])) (by rw [k]; rfl) (by decide) rfl, tk_sign hs]
        exact ih.s4 t as [c] F ht ha (nm_one hs)
      s7 := fun t as F ht ha => by
        rw [A_cons, step_none (by rw [k]; rfl), nob _ fun m kk hm => R7 (nm_ne hm ns44) ht ha] }
  have hs : isSign c = false := by cases h : isSign c <;> simp_all
  by_cases h32 : c = 32
  · subst h32
    exact {
      s0 := fun W F => by rw [A_cons, step_go (st' := 0) (W' := W) (by rw [cl32]; rfl) (by decide) rfl, tk_sp, bind_mapT]; exact ih.s0 W F
      s1 := fun n F hn => by rw [A_cons, step_go (st' := 2) (W' := [n]) (by rw [cl32]; rfl) (by decide) rfl, tk_sp, bind_mapT, flush_ne hn.1]; exact ih.s2 n F hn
      s2 := fun t F ht => by rw [A_cons, step_go (st' := 2) (W' := [t]) (by rw [cl32]; rfl) (by decide) rfl, tk_sp, bind_mapT]; exact ih.s2 t F ht
      s3 := fun t F ht => by rw [A_cons, step_go (st' := 3) (W' := [t]) (by rw [cl32]; rfl) (by decide) rfl, tk_sp, bind_mapT]; exact ih.s3 t F ht
      s4 := fun t as n F ht ha hn => by rw [A_cons, step_go (st' := 5) (W' := t :: (as ++ [n])) (by rw [cl32]; rfl) (by decide) rfl, tk_sp, bind_mapT, flush_ne hn.1]; exact ih.s5 t as n F ht ha hn
      s5 := fun t as n F ht ha hn => by rw [A_cons, step_go (st' := 5) (W' := t :: (as ++ [n])) (by rw [cl32]; rfl) (by decide) rfl, tk_sp, bind_mapT]; exact ih.s5 t as n F ht ha hn
      s6 := fun t as F ht ha h0 => by rw [A_cons, step_go (st' := 6) (W' := t :: as) (by rw [cl32]; rfl) (by decide) rfl, tk_sp, bind_mapT]; exact ih.s6 t as F ht ha h0
      s7 := fun t as F ht ha => by rw [A_cons, step_go (st' := 7) (W' := t :: as) (by rw [cl32]; rfl) (by decide) rfl, tk_sp, bind_mapT]; exact ih.s7 t as F ht ha }
  by_cases h40 : c = 40
  · subst h40
    exact {
      s0 := fun W F => by rw [A_cons, step_none (by rw [cl40]; rfl), tk_mark hs mk40, bind_mapT]; exact (bind_none fun k => R0 hs).symm
      s1 := fun n F hn => by rw [A_cons, step_go (st' := 3) (W' := [n]) (by rw [cl40]; rfl) (by decide) rfl, tk_mark hs mk40, bind_mapT, flush_ne hn.1]; exact ih.s3 n F hn
      s2 := fun t F ht => by rw [A_cons, step_go (st' := 3) (W' := [t]) (by rw [cl40]; rfl) (by decide) rfl, tk_mark hs mk40, bind_mapT]; exact ih.s3 t F ht
      s3 := fun t F ht => by rw [A_cons, step_none (by rw [cl40]; rfl), tk_mark hs mk40, bind_mapT]; exact (bind_none fun k => R3 hs (by decide)).symm
      s4 := fun t as n F ht ha hn => by rw [A_cons, step_none (by rw [cl40]; rfl), tk_mark hs mk40, bind_mapT, flush_ne hn.1]; exact (bind_none fun k => R4 (x := [40]) (by decide) (by decide) ha hn).symm
      s5 := fun t as n F ht ha hn => by rw [A_cons, step_none (by rw [cl40]; rfl), tk_mark hs mk40, bind_mapT]; exact (bind_none fun k => R4 (x := [40]) (by decide) (by decide) ha hn).symm
      s6 := fun t as F ht ha h0 => by rw [A_cons, step_none (by rw [cl40]; rfl), tk_mark hs mk40, bind_mapT]; exact (bind_none fun k => R6 hs h0 ha).symm
      s7 := fun t as F ht ha => by rw [A_cons, step_none (by rw [cl40]; rfl), tk_mark hs mk40, bind_mapT]; exact (bind_none fun k => R7 (x := [40]) (by decide) ht ha).symm }
  by_cases h41 : c = 41
  · subst h41
    exact {
      s0 := fun W F => by rw [A_cons, step_none (by rw [cl41]; rfl), tk_mark hs mk41, bind_mapT]; exact (bind_none fun k => R0 hs).symm
      s1 := fun n F hn => by rw [A_cons, step_none (by rw [cl41]; rfl), tk_mark hs mk41, bind_mapT, flush_ne hn.1]; exact (bind_none fun k => R2 (x := [41]) (by decide) (by decide) hn).symm
      s2 := fun t F ht => by rw [A_cons, step_none (by rw [cl41]; rfl), tk_mark hs mk41, bind_mapT]; exact (bind_none fun k => R2 (x := [41]) (by decide) (by decide) ht).symm
      s3 := fun t F ht => by rw [A_cons, step_go (st' := 7) (W' := [t]) (by rw [cl41]; rfl) (by decide) rfl, tk_mark hs mk41, bind_mapT]; exact ih.s7 t [] F ht (fun a h => by cases h)
      s4 := fun t as n F ht ha hn => by
        rw [A_cons, step_go (st' := 7) (W' := t :: (as ++ [n])) (by rw [cl41]; rfl) (by decide) rfl, tk_mark hs mk41, bind_mapT, flush_ne hn.1]
        refine (ih.s7 t (as ++ [n]) F ht (fun a h => (List.mem_append.mp h).elim (ha a) fun z => List.mem_singleton.mp z ▸ hn)).trans ?_
        rw [commas_pre]
        simp only [List.append_assoc] <;> rfl
      s5 := fun t as n F ht ha hn => by
        rw [A_cons, step_go (st' := 7) (W' := t :: (as ++ [n])) (by rw [cl41]; rfl) (by decide) rfl, tk_mark hs mk41, bind_mapT]
        refine (ih.s7 t (as ++ [n]) F ht (fun a h => (List.mem_append.mp h).elim (ha a) fun z => List.mem_singleton.mp z ▸ hn)).trans ?_
        rw [commas_pre]
        simp only [List.append_assoc] <;> rfl
      s6 := fun t as F ht ha h0 => by rw [A_cons, step_none (by rw [cl41]; rfl), tk_mark hs mk41, bind_mapT]; exact (bind_none fun k => R6 hs h0 ha).symm
      s7 := fun t as F ht ha => by rw [A_cons, step_none (by rw [cl41]; rfl), tk_mark hs mk41, bind_mapT]; exact (bind_none fun k => R7 (x := [41]) (by decide) ht ha).symm }
  by_cases h44 : c = 44
  · subst h44
    have fin7 : ∀ (t : Tx) (as : List Tx) (F : List Fct) (f : List Tx → Option (List Fct)), (∀ k, f k = if okW (t :: as) = true then contFact (F ++ [fc (t, as)]) ([44] :: k) else none) → (if okW (t :: as) = true then (tk [] r).bind (contFs (F ++ [fc (t, as)])) else none) = (tk [] r).bind f := fun t as F f hf => by
      have e : f = fun k => if okW (t :: as) = true then contFs (F ++ [fc (t, as)]) k else none := funext fun k => by rw [hf, fact_comma]
      rw [e]
      cases okW (t :: as) with
      | true => rfl
      | false => exact (bind_none fun _ => rfl).symm
    exact {
      s0 := fun W F => by rw [A_cons, step_none (by rw [cl44]; rfl), tk_mark hs mk44, bind_mapT]; exact (bind_none fun k => R0 hs).symm
      s1 := fun n F hn => by
        rw [fin_go ih rfl (by decide), tk_mark hs mk44, bind_mapT, flush_ne hn.1]
        exact fin7 n [] F _ fun k => V1 (show hd ([44] :: k) ≠ [40] by show ([44] : Tx) ≠ [40]; decide) hn
      s2 := fun t F ht => by
        rw [fin_go ih rfl (by decide), tk_mark hs mk44, bind_mapT]
        exact fin7 t [] F _ fun k => V1 (show hd ([44] :: k) ≠ [40] by show ([44] : Tx) ≠ [40]; decide) ht
      s3 := fun t F ht => by rw [A_cons, step_none (by rw [cl44]; rfl), tk_mark hs mk44, bind_mapT]; exact (bind_none fun k => R3 hs (by decide)).symm
      s4 := fun t as n F ht ha hn => by
        rw [A_cons, step_go (st' := 6) (W' := t :: (as ++ [n])) (by rw [cl44]; rfl) (by decide) rfl, tk_mark hs mk44, bind_mapT, flush_ne hn.1]
        refine (ih.s6 t (as ++ [n]) F ht (fun a h => (List.mem_append.mp h).elim (ha a) fun z => List.mem_singleton.mp z ▸ hn) (by simp)).trans ?_
        simp only [pre_snoc] <;> rfl
      s5 := fun t as n F ht ha hn => by
        rw [A_cons, step_go (st' := 6) (W' := t :: (as ++ [n])) (by rw [cl44]; rfl) (by decide) rfl, tk_mark hs mk44, bind_mapT]
        refine (ih.s6 t (as ++ [n]) F ht (fun a h => (List.mem_append.mp h).elim (ha a) fun z => List.mem_singleton.mp z ▸ hn) (by simp)).trans ?_
        simp only [pre_snoc] <;> rfl
      s6 := fun t as F ht ha h0 => by rw [A_cons, step_none (by rw [cl44]; rfl), tk_mark hs mk44, bind_mapT]; exact (bind_none fun k => R6 hs h0 ha).symm
      s7 := fun t as F ht ha => by
        rw [fin_go ih rfl (by decide), tk_mark hs mk44, bind_mapT]
        exact fin7 t as F _ fun k => V7 (k := [44] :: k) ht ha }
  have k5 : cl c = 5 := cl_other hs h32 h40 h41 h44
  cases hm : isMark c with
  | false =>
    have t0 : ∀ n, tk n (c :: r) = none := fun n => tk_bad hs hm h32
    exact {
      s0 := fun W F => by rw [A_cons, step_none (by rw [k5]; rfl), t0]; rfl
      s1 := fun n F hn => by rw [A_cons, step_none (by rw [k5]; rfl), t0]; rfl
      s2 := fun t F ht => by rw [A_cons, step_none (by rw [k5]; rfl), t0]; rfl
      s3 := fun t F ht => by rw [A_cons, step_none (by rw [k5]; rfl), t0]; rfl
      s4 := fun t as n F ht ha hn => by rw [A_cons, step_none (by rw [k5]; rfl), t0]; rfl
      s5 := fun t as n F ht ha hn => by rw [A_cons, step_none (by rw [k5]; rfl), t0]; rfl
      s6 := fun t as F ht ha h0 => by rw [A_cons, step_none (by rw [k5]; rfl), t0]; rfl
      s7 := fun t as F ht ha => by rw [A_cons, step_none (by rw [k5]; rfl), t0]; rfl }
  | true =>
    have b := bad_mark hm h40 h41 h44
    have b40 : ([c] : Tx) ≠ [40] := b 40 (.inl rfl)
    have b41 : ([c] : Tx) ≠ [41] := b 41 (.inr (.inl rfl))
    have b44 : ([c] : Tx) ≠ [44] := b 44 (.inr (.inr rfl))
    exact {
      s0 := fun W F => by rw [A_cons, step_none (by rw [k5]; rfl), tk_mark hs hm, bind_mapT]; exact (bind_none fun k => R0 hs).symm
      s1 := fun n F hn => by rw [A_cons, step_none (by rw [k5]; rfl), tk_mark hs hm, bind_mapT, flush_ne hn.1]; exact (bind_none fun k => R2 (x := [c]) b40 b44 hn).symm
      s2 := fun t F ht => by rw [A_cons, step_none (by rw [k5]; rfl), tk_mark hs hm, bind_mapT]; exact (bind_none fun k => R2 (x := [c]) b40 b44 ht).symm
      s3 := fun t F ht => by rw [A_cons, step_none (by rw [k5]; rfl), tk_mark hs hm, bind_mapT]; exact (bind_none fun k => R3 hs h41).symm
      s4 := fun t as n F ht ha hn => by rw [A_cons, step_none (by rw [k5]; rfl), tk_mark hs hm, bind_mapT, flush_ne hn.1]; exact (bind_none fun k => R4 (x := [c]) b41 b44 ha hn).symm
      s5 := fun t as n F ht ha hn => by rw [A_cons, step_none (by rw [k5]; rfl), tk_mark hs hm, bind_mapT]; exact (bind_none fun k => R4 (x := [c]) b41 b44 ha hn).symm
      s6 := fun t as F ht ha h0 => by rw [A_cons, step_none (by rw [k5]; rfl), tk_mark hs hm, bind_mapT]; exact (bind_none fun k => R6 hs h0 ha).symm
      s7 := fun t as F ht ha => by rw [A_cons, step_none (by rw [k5]; rfl), tk_mark hs hm, bind_mapT]; exact (bind_none fun k => R7 (x := [c]) b44 ht ha).symm }
theorem st_all : ∀ r, St r
  | [] => st_nil
  | _ :: r => st_cons (st_all r)
/-! the law's reader: tables -/
def clT : Nat → Tx
  | 0 => [32] | 1 => [110] | 2 => [40] | 3 => [41] | 4 => [44] | _ => [120]
def nxI (st k : Nat) : Int := match nx st k with
  | some s => (s : Int)
  | none => -1
def okI : M Int → Int → Bool
  | .ok v, w => decide (v = w)
  | .error _, _ => false
theorem okI_ok {m : M Int} {w : Int} (h : okI m w = true) : m = .ok w := by
  cases m with
  | error e => cases h
  | ok v => rw [of_decide_eq_true h]
theorem next_all : ((List.range 8).all fun st => (List.range 6).all fun k => okI (m__law_next (st : Int) (clT k)) (nxI st k)) = true := by decide +kernel
theorem next_eq {st k : Nat} (hs : st < 8) (hk : k < 6) : m__law_next (st : Int) (clT k) = .ok (nxI st k) :=
  okI_ok (List.all_eq_true.mp (List.all_eq_true.mp next_all st (List.mem_range.mpr hs)) k (List.mem_range.mpr hk))
theorem sort_eq (c : Nat) : m__law_sort [c] = .ok (clT (cl c)) := by
  unfold m__law_sort
  simp only [pure_bind, inS_one]
  rw [show decide (c ∈ tx "abcdefghijklmnopqrstuvwxyz0123456789ABCDEFGHIJKLMNOPQRSTUVWXYZ") = isSign c from alnum_mem c, show tx " ()," = [32, 40, 41, 44] from rfl]
  unfold cl
  cases isSign c with
  | true => rfl
  | false =>
    simp only [Bool.false_eq_true, if_false]
    by_cases h0 : c = 32
    · subst h0; rfl
    · by_cases h1 : c = 40
      · subst h1; rfl
      · by_cases h2 : c = 41
        · subst h2; rfl
        · by_cases h3 : c = 44
          · subst h3; rfl
          · have : decide (c ∈ [32, 40, 41, 44]) = false := decide_eq_false (by simp [h0, h1, h2, h3])
            rw [this]
            simp only [h0, h1, h2, h3, Bool.false_eq_true, if_false]
            rfl
theorem cl_lt (c : Nat) : cl c < 6 := by
  unfold cl
  split
  · decide
  · split
    · decide
    · split
      · decide
      · split
        · decide
        · split <;> decide
def wt (W : List Tx) : Nat := (W.map (·.length)).sum + W.length
theorem wt_mem {W : List Tx} : ∀ {w : Tx}, w ∈ W → w.length ≤ wt W := by
  induction W with
  | nil => intro w h; cases h
  | cons a W ih =>
    intro w h
    unfold wt at ih ⊢
    rw [List.map_cons, List.sum_cons, List.length_cons]
    rcases List.mem_cons.mp h with e | h
    · rw [e]; omega
    · have := ih h; omega
theorem wt_len (W : List Tx) : W.length ≤ wt W := by unfold wt; omega
theorem wt_app (U V : List Tx) : wt (U ++ V) = wt U + wt V := by
  unfold wt
  rw [List.map_append, List.sum_append, List.length_append]; omega
theorem wt_one (w : Tx) : wt [w] = w.length + 1 := by unfold wt; simp
theorem last_split {W : List Tx} (h : W ≠ []) : W = W.dropLast ++ [W.getLastD []] := by
  rcases List.eq_nil_or_concat W with e | ⟨U, n, e⟩
  · exact absurd e h
  · rw [e, List.concat_eq_append, List.dropLast_concat, List.getLastD_eq_getLast?, List.getLast?_concat]
    rfl
def Jt (st : Nat) (W : List Tx) : Prop := st < 8 ∧ (st ≠ 0 → ∃ w ws, W = w :: ws ∧ w ≠ [])
theorem at_last {W : List Tx} (h : W ≠ []) : atL W ((W.length : Int) - 1) = .ok (W.getLastD []) := by
  have e := last_split h
  have hl : 0 < W.length := List.length_pos_iff.mpr h
  unfold atL atI
  rw [ixN_nat (by omega) (by omega)]
  show ofO W[((W.length : Int) - 1).toNat]? = _
  rw [show ((W.length : Int) - 1).toNat = W.length - 1 by omega, ← List.getLast?_eq_getElem?, List.getLastD_eq_getLast?]
  cases q : W.getLast? with
  | none => exact absurd (List.getLast?_eq_none_iff.mp q) h
  | some a => rfl
theorem set_last {W : List Tx} (h : W ≠ []) (y : Tx) : W.set (W.length - 1) y = W.dropLast ++ [y] := by
  rcases List.eq_nil_or_concat W with e | ⟨U, n, e⟩
  · exact absurd e h
  · subst e
    rw [List.concat_eq_append, List.dropLast_concat, List.length_append, List.length_singleton, Nat.add_sub_cancel, List.set_append_right _ _ (Nat.le_refl _), Nat.sub_self]
    rfl
theorem ix_last {W : List Tx} (h : W ≠ []) : L2.ixN W.length ((W.length : Int) - 1) = some (W.length - 1) := by
  have hl : 0 < W.length := List.length_pos_iff.mpr h
  rw [ixN_nat (by omega) (by omega)]
  exact congrArg some (by omega)
theorem max_dec {W : List Tx} (h : W ≠ []) : ∃ m, maxL (W.map fun w : Tx => (w.length : Int)) = .ok m ∧ decide (12 < m) = !(W.all fun w => decide (w.length ≤ 12)) := by
  match W, h with
  | w :: ws, _ =>
    obtain ⟨h1, h2⟩ := foldmax (ws.map fun w : Tx => (w.length : Int)) (w.length : Int)
    refine ⟨_, rfl, ?_⟩
    generalize List.foldl _ _ _ = m at h1 h2
    have h1' : m ∈ (w :: ws).map fun w : Tx => (w.length : Int) := h1
    have h2' : ∀ y ∈ (w :: ws).map (fun w : Tx => (w.length : Int)), y ≤ m := h2
    by_cases hm : 12 < m
    · rw [decide_eq_true hm]
      obtain ⟨x, hx, rfl⟩ := List.mem_map.mp h1'
      have : ((w :: ws).all fun w => decide (w.length ≤ 12)) = false := by
        rw [List.all_eq_false]
        exact ⟨x, hx, by simp; omega⟩
      rw [this]; rfl
    · rw [decide_eq_false hm]
      have : ((w :: ws).all fun w => decide (w.length ≤ 12)) = true := by
        rw [List.all_eq_true]
        intro x hx
        have := h2' _ (List.mem_map.mpr ⟨x, hx, rfl⟩)
        exact decide_eq_true (by omega)
      rw [this]; rfl
theorem u1p {st st' : Nat} {W : List Tx} {c : Nat} (h : st' = st ∧ (st' = 1 ∨ st' = 4)) : upd1 st st' W c = W.dropLast ++ [W.getLastD [] ++ [c]] := by unfold upd1; rw [if_pos h]
theorem u1n {st st' : Nat} {W : List Tx} {c : Nat} (h : ¬ (st' = st ∧ (st' = 1 ∨ st' = 4))) : upd1 st st' W c = W := by unfold upd1; rw [if_neg h]
theorem u2p {st st' : Nat} {W : List Tx} {c : Nat} (h : ¬ st' = st ∧ st' = 1) : upd2 st st' W c = [[c]] := by unfold upd2; rw [if_pos h]
theorem u2n {st st' : Nat} {W : List Tx} {c : Nat} (h : ¬ (¬ st' = st ∧ st' = 1)) : upd2 st st' W c = W := by unfold upd2; rw [if_neg h]
theorem u3p {st st' : Nat} {W : List Tx} {c : Nat} (h : ¬ st' = st ∧ st' = 4) : upd3 st st' W c = W ++ [[c]] := by unfold upd3; rw [if_pos h]
theorem u3n {st st' : Nat} {W : List Tx} {c : Nat} (h : ¬ (¬ st' = st ∧ st' = 4)) : upd3 st st' W c = W := by unfold upd3; rw [if_neg h]
abbrev Sx : Type := List Fct × List Tx × Int
/-- what stands behind 'came', in the loop -/
def finM (F : List Fct) (W : List Tx) : M (Tl (List Fct) (Option (List Fct))) :=
  (((lc (fun e77 => lenT e77) W >>= fun x80 => maxL x80) >>= fun x81 => (pure (decide (12 < x81)) : M Bool)) >>= fun c90 => if c90 = true then pure true else ((atL W 0 >>= fun x85 => atT x85 0) >>= fun x87 => (inS x87 (tx "abcdefghijklmnopqrstuvwxyz") >>= fun c89 => pure (!c89)))) >>= fun c91 => if c91 = true then (pure (.rt none) : M (Tl (List Fct) (Option (List Fct)))) else
    ((atL W 0 >>= fun x99 => pure (fc (x99, cut W (some 1) none))) >>= fun a101 => chk (F.length < SZ) >>= fun _ => pure a101) >>= fun a92 => pure (.ct (F ++ [a92]))
theorem finM_eq {F : List Fct} {w : Tx} {ws : List Tx} (hw : w ≠ []) (hb : wt (w :: ws) ≤ SZ) (hF : F.length < SZ) : finM F (w :: ws) = .ok (if okW (w :: ws) = true then .ct (F ++ [fc (w, ws)]) else .rt none) := by
  unfold finM
  have e1 : lc (fun e77 => lenT e77) (w :: ws) = .ok ((w :: ws).map fun w : Tx => (w.length : Int)) := lc_map (Nat.le_trans (wt_len _) hb) fun x hx => lenT_ok (Nat.le_trans (wt_mem hx) hb)
  obtain ⟨m, em, dm⟩ := max_dec (W := w :: ws) (fun z => by cases z)
  obtain ⟨c, r, rfl⟩ : ∃ c r, w = c :: r := by
    match w, hw with
    | c :: r, _ => exact ⟨c, r, rfl⟩
  have a0 : atL ((c :: r) :: ws) 0 = .ok (c :: r) := by
    unfold atL atI
    rw [ixN_nat (by decide) (by rw [List.length_cons]; omega)]
    rfl
  have hz : (c :: r).length ≤ SZ := Nat.le_trans (wt_mem (List.mem_cons_self ..)) hb
  have a1 : atT (c :: r) 0 = .ok [c] := by
    unfold atT atI
    rw [chk_b hz, ixN_nat (by decide) (by rw [List.length_cons]; omega)]
    rfl
  have ct : cut ((c :: r) :: ws) (some 1) none = ws := by
    unfold cut
    show (List.drop (min 1 (ws.length + 1)) _).take _ = ws
    rw [show min 1 (ws.length + 1) = 1 by omega]
    show ws.take (ws.length + 1 - 1) = ws
    rw [Nat.add_sub_cancel, List.take_length]
  simp only [e1, okb, em, pure_bind, dm, a0, a1, inS_one, ct]
  have ok : okW ((c :: r) :: ws) = (((c :: r) :: ws).all (fun w => decide (w.length ≤ 12)) && decide (c ∈ tx "abcdefghijklmnopqrstuvwxyz")) := rfl
  rw [ok]
  cases ((c :: r) :: ws).all (fun w => decide (w.length ≤ 12)) with
  | false => rfl
  | true =>
    cases decide (c ∈ tx "abcdefghijklmnopqrstuvwxyz") with
    | false => rfl
    | true =>
      simp only [Bool.not_true, Bool.false_eq_true, if_false, Bool.and_true, if_true]
      rw [pure_bind, if_neg Bool.false_ne_true, chk_b hF]
      rfl
def bodyM (F : List Fct) (W : List Tx) (st : Int) (c : Nat) (came : Int) : M (Tl Sx (Option (List Fct))) :=
  if decide (came < 0) = true then pure (.rt none) else
  (if decide (came = st) = true then (if decide (came = 1) = true then (pure true : M Bool) else pure (decide (came = 4))) else pure false) >>= fun c35 =>
  (if c35 = true then ((atL W ((W.length : Int) - 1) >>= fun x41 => addT x41 [c]) >>= fun a45 => ofO (L2.ixN W.length ((W.length : Int) - 1)) >>= fun j => (pure (W.set j a45) : M (List Tx))) else pure W) >>= fun s36 =>
  (if (!decide (came = st)) = true then (pure (decide (came = 1)) : M Bool) else pure false) >>= fun c53 =>
  (if c53 = true then (pure [[c]] : M (List Tx)) else pure s36) >>= fun s54 =>
  (if (!decide (came = st)) = true then (pure (decide (came = 4)) : M Bool) else pure false) >>= fun c63 =>
  (if c63 = true then catM s54 [[c]] else pure s54) >>= fun s64 =>
  ((if (!decide (came = st)) = true then (pure (decide (came = 0)) : M Bool) else pure false) >>= fun c75 => if c75 = true then finM F s64 else pure (.ct F)) >>= partT (fun s76 => pure (.ct (s76, s64, came))) Tl.rt
theorem bodyM_eq {F : List Fct} {W : List Tx} {st : Nat} {c : Nat} (hJ : Jt st W) (hb : wt W + 4 ≤ SZ) (hF : F.length < SZ) : bodyM F W (st : Int) c (nxI st (cl c)) = match stepT st W F c with
    | none => .ok (.rt none)
    | some (st', W', F') => .ok (.ct (F', W', (st' : Int))) := by
  unfold nxI
  cases hn : nx st (cl c) with
  | none =>
    rw [step_none hn]
    rfl
  | some st' =>
    unfold bodyM
    have d0 : decide ((st' : Int) < 0) = false := decide_eq_false (by omega)
    have ds : decide ((st' : Int) = (st : Int)) = decide (st' = st) := by by_cases h : st' = st <;> simp [h] <;> omega
    have d1 : decide ((st' : Int) = 1) = decide (st' = 1) := by by_cases h : st' = 1 <;> simp [h] <;> omega
    have d4 : decide ((st' : Int) = 4) = decide (st' = 4) := by by_cases h : st' = 4 <;> simp [h] <;> omega
    have dz : decide ((st' : Int) = 0) = decide (st' = 0) := by by_cases h : st' = 0 <;> simp [h] <;> omega
    show (if decide ((st' : Int) < 0) = true then _ else _) = _
    rw [d0, if_neg Bool.false_ne_true, ds, d1, d4, dz]
    by_cases e : st' = st
    · rw [decide_eq_true e, if_pos rfl, if_neg (show ¬ (!true) = true from fun z => by cases z), if_neg (show ¬ (!true) = true from fun z => by cases z)]
      by_cases h : st' = 1 ∨ st' = 4
      · have hW : W ≠ [] := by
          obtain ⟨w, ws, e2, _⟩ := hJ.2 (by rw [← e]; rcases h with h | h <;> rw [h] <;> decide)
          rw [e2]; exact fun z => by cases z
        have hlast : (W.getLastD []).length ≤ wt W := by
          have := last_split hW
          have hm : W.getLastD [] ∈ W.dropLast ++ [W.getLastD []] := List.mem_append_right _ (List.mem_cons_self ..)
          rw [← this] at hm
          exact wt_mem hm
        have cnd : ((if decide (st' = 1) = true then (pure true : M Bool) else pure (decide (st' = 4))) : M Bool) = pure true := by
          rcases h with h | h <;> rw [h] <;> rfl
        have hu : updW st st' W c = W.dropLast ++ [W.getLastD [] ++ [c]] := by
          unfold updW
          rw [u1p ⟨e, h⟩, u2n (fun z => z.1 e), u3n (fun z => z.1 e)]
        rw [cnd, pure_bind, if_pos rfl, at_last hW, okb, addT_ok (by rw [List.length_singleton]; omega), pure_bind, ix_last hW, step_go hn (fun z => z.1 e) hu]
        show (pure (W.set (W.length - 1) _) : M (List Tx)) >>= _ = _
        rw [pure_bind, set_last hW]
        rfl
      · have cnd : ((if decide (st' = 1) = true then (pure true : M Bool) else pure (decide (st' = 4))) : M Bool) = pure false := by
          rw [decide_eq_false (fun z => h (.inl z)), decide_eq_false (fun z => h (.inr z))]; rfl
        have hu : updW st st' W c = W := by
          unfold updW
          rw [u1n (fun z => h z.2), u2n (fun z => z.1 e), u3n (fun z => z.1 e)]
        rw [cnd, step_go hn (fun z => z.1 e) hu]
        rfl
    · have u1 : upd1 st st' W c = W := by unfold upd1; rw [if_neg (fun z => e z.1)]
      rw [decide_eq_false e, if_neg Bool.false_ne_true, if_pos (show (!false) = true from rfl), if_pos (show (!false) = true from rfl)]
      by_cases h1 : st' = 1
      · subst h1
        have hu : updW st 1 W c = [[c]] := by
          unfold updW
          rw [u2p ⟨e, rfl⟩, u3n (fun z => by cases z.2)]
        rw [step_go hn (fun z => by cases z.2) hu]
        rfl
      · by_cases h4 : st' = 4
        · subst h4
          have hu : updW st 4 W c = W ++ [[c]] := by
            unfold updW
            rw [u1, u2n (fun z => by cases z.2), u3p ⟨e, rfl⟩]
          have hc : catM W [[c]] = .ok (W ++ [[c]]) := by
            unfold catM
            rw [chk_b (by have := wt_len W; rw [List.length_singleton]; omega)]
            rfl
          rw [step_go hn (fun z => by cases z.2) hu]
          show (catM W [[c]] >>= _) = _
          rw [hc]
          rfl
        · have hu : updW st st' W c = W := by
            unfold updW
            rw [u1, u2n (fun z => h1 z.2), u3n (fun z => h4 z.2)]
          rw [decide_eq_false h1, decide_eq_false h4]
          by_cases h0 : st' = 0
          · subst h0
            have sn : st ≠ 0 := fun z => e z.symm
            obtain ⟨w, ws, rfl, hw⟩ := hJ.2 sn
            rw [step_fin (t := w) (as := ws) hn e rfl]
            show (finM F (w :: ws) >>= _) = _
            rw [finM_eq hw (by omega) hF]
            cases okW (w :: ws) <;> rfl
          · rw [step_go hn (fun z => h0 z.2) hu, decide_eq_false h0]
            rfl
def nxB : Bool := (List.range 8).all fun st => (List.range 6).all fun k => match nx st k with
  | none => true
  | some s => decide (s < 8) && (decide (s = 0) || (decide (s = 1) || (decide (s = st) || decide (st ≠ 0))))
theorem nx_ok {st k s : Nat} (hs : st < 8) (hk : k < 6) (h : nx st k = some s) : s < 8 ∧ (s = 0 ∨ s = 1 ∨ s = st ∨ st ≠ 0) := by
  have e : nxB = true := by decide +kernel
  have := List.all_eq_true.mp (List.all_eq_true.mp e st (List.mem_range.mpr hs)) k (List.mem_range.mpr hk)
  rw [h] at this
  simp only [Bool.and_eq_true, Bool.or_eq_true, decide_eq_true_eq] at this
  exact this
theorem step_inv {st : Nat} {W : List Tx} {F : List Fct} {c st' : Nat} {W' : List Tx} {F' : List Fct} (hJ : Jt st W) (h : stepT st W F c = some (st', W', F')) : Jt st' W' ∧ wt W' ≤ wt W + 2 ∧ F'.length ≤ F.length + 1 := by
  cases hn : nx st (cl c) with
  | none => rw [step_none hn] at h; cases h
  | some s =>
    obtain ⟨n1, n2⟩ := nx_ok hJ.1 (cl_lt c) hn
    by_cases hz : ¬ s = st ∧ s = 0
    · obtain ⟨h1, h2⟩ := hz
      subst h2
      have sn : st ≠ 0 := fun z => h1 z.symm
      obtain ⟨w, ws, rfl, hw⟩ := hJ.2 sn
      rw [step_fin (t := w) (as := ws) hn h1 rfl] at h
      by_cases ok : okW (w :: ws) = true
      · rw [if_pos ok] at h
        cases h
        exact ⟨⟨by decide, fun z => absurd rfl z⟩, by omega, by rw [List.length_append, List.length_singleton]; omega⟩
      · rw [if_neg ok] at h; cases h
    · rw [step_go hn hz rfl] at h
      simp only [Option.some.injEq, Prod.mk.injEq] at h
      obtain ⟨g1, g2, g3⟩ := h
      subst g1 g2 g3
      by_cases e : s = st
      · by_cases h4 : s = 1 ∨ s = 4
        · have hu : updW st s W c = W.dropLast ++ [W.getLastD [] ++ [c]] := by
            unfold updW
            rw [u1p ⟨e, h4⟩, u2n (fun z => z.1 e), u3n (fun z => z.1 e)]
          have sn : st ≠ 0 := by rw [← e]; rcases h4 with h | h <;> rw [h] <;> decide
          obtain ⟨w, ws, hW, hw⟩ := hJ.2 sn
          have hWn : W ≠ [] := fun z => by rw [z] at hW; cases hW
          have sp := last_split hWn
          have w1 : wt W = wt W.dropLast + ((W.getLastD []).length + 1) := by
            have := congrArg wt sp
            rw [wt_app, wt_one] at this
            exact this
          rw [hu]
          refine ⟨⟨n1, fun _ => ?_⟩, ?_, by omega⟩
          · cases hd : W.dropLast with
            | nil => exact ⟨_, [], rfl, by simp⟩
            | cons x xs =>
              refine ⟨x, xs ++ [W.getLastD [] ++ [c]], rfl, ?_⟩
              rw [hd, hW] at sp
              have : w = x := by injection sp
              rw [← this]; exact hw
          · rw [wt_app, wt_one, List.length_append, List.length_singleton]; omega
        · have hu : updW st s W c = W := by
            unfold updW
            rw [u1n (fun z => h4 z.2), u2n (fun z => z.1 e), u3n (fun z => z.1 e)]
          rw [hu, e]
          exact ⟨hJ, by omega, by omega⟩
      · have u1 : upd1 st s W c = W := u1n fun z => e z.1
        by_cases h1 : s = 1
        · subst h1
          have hu : updW st 1 W c = [[c]] := by
            unfold updW
            rw [u2p ⟨e, rfl⟩, u3n (fun z => by cases z.2)]
          rw [hu]
          exact ⟨⟨by decide, fun _ => ⟨[c], [], rfl, fun z => by cases z⟩⟩, by rw [wt_one, List.length_singleton]; omega, by omega⟩
        · have hs0 : s ≠ 0 := fun z => hz ⟨e, z⟩
          have sn : st ≠ 0 := by
            rcases n2 with z | z | z | z
            · exact absurd z hs0
            · exact absurd z h1
            · exact absurd z e
            · exact z
          obtain ⟨w, ws, hW, hw⟩ := hJ.2 sn
          by_cases h4 : s = 4
          · subst h4
            have hu : updW st 4 W c = W ++ [[c]] := by
              unfold updW
              rw [u1, u2n (fun z => by cases z.2), u3p ⟨e, rfl⟩]
            rw [hu]
            exact ⟨⟨by decide, fun _ => ⟨w, ws ++ [[c]], by rw [hW]; rfl, hw⟩⟩, by rw [wt_app, wt_one, List.length_singleton]; omega, by omega⟩
          · have hu : updW st s W c = W := by
              unfold updW
              rw [u1, u2n (fun z => h1 z.2), u3n (fun z => h4 z.2)]
            rw [hu]
            exact ⟨⟨n1, fun _ => ⟨w, ws, hW, hw⟩⟩, by omega, by omega⟩
theorem loop_eq {g : Sx → Tx → M (Tl Sx (Option (List Fct)))} (hg : ∀ (F : List Fct) (W : List Tx) (st c : Nat), Jt st W → g (F, W, (st : Int)) [c] = bodyM F W (st : Int) c (nxI st (cl c))) : ∀ (r : Tx) (F : List Fct) (W : List Tx) (st : Nat), Jt st W → wt W + 2 * r.length + 4 ≤ SZ → F.length + r.length ≤ SZ →
    forT g (F, W, (st : Int)) (signs r) = .ok (match aut st W F r with
      | none => .inr none
      | some (st', W', F') => .inl (F', W', (st' : Int)))
  | [], F, W, st, _, _, _ => rfl
  | c :: r, F, W, st, hJ, hb, hF => by
    rw [List.length_cons] at hb hF
    show (g (F, W, (st : Int)) [c] >>= _) = _
    rw [hg F W st c hJ, bodyM_eq hJ (by omega) (by omega)]
    unfold aut
    cases e : stepT st W F c with
    | none => rfl
    | some s =>
      obtain ⟨st', W', F'⟩ := s
      obtain ⟨j1, j2, j3⟩ := step_inv hJ e
      exact loop_eq hg r F' W' st' j1 (by omega) (by omega)
/-! blanks alone -/
theorem tw_all {p : Nat → Bool} : ∀ {l : Tx}, (∀ x ∈ l, p x = true) → l.takeWhile p = l
  | [], _ => rfl
  | x :: l, h => by
    rw [List.takeWhile_cons, if_pos (h x (List.mem_cons_self ..)), tw_all fun y hy => h y (List.mem_cons_of_mem _ hy)]
theorem tw_lt {p : Nat → Bool} : ∀ {l : Tx}, (∃ x ∈ l, p x = false) → (l.takeWhile p).length < l.length ∧ ∃ x ∈ l.drop (l.takeWhile p).length, p x = false
  | [], h => by obtain ⟨x, hx, _⟩ := h; cases hx
  | x :: l, h => by
    rw [List.takeWhile_cons]
    cases hp : p x with
    | false =>
      rw [if_neg Bool.false_ne_true]
      exact ⟨by rw [List.length_cons, List.length_nil]; omega, x, List.mem_cons_self .., hp⟩
    | true =>
      rw [if_pos rfl]
      have h' : ∃ y ∈ l, p y = false := by
        obtain ⟨y, hy, e⟩ := h
        rcases List.mem_cons.mp hy with z | z
        · rw [z, hp] at e; cases e
        · exact ⟨y, z, e⟩
      obtain ⟨h1, h2⟩ := tw_lt h'
      rw [List.length_cons, List.length_cons, List.drop_succ_cons]
      exact ⟨by omega, h2⟩
def blankB (c : Nat) : Bool := decide (c = 32)
theorem strip_ok {t : Tx} (hz : t.length ≤ SZ) : ∃ s, stripT t (tx " ") = .ok s ∧ (s = [] ↔ ∀ c ∈ t, c = 32) := by
  refine ⟨_, by unfold stripT; rw [chk_b hz]; rfl, ?_⟩
  have eg : ((G.S (tx " ")).cps.contains : Nat → Bool) = blankB := funext fun c => by
    show (#[32] : Array Nat).contains c = _
    unfold blankB
    simp
  unfold Txt.stripChars Txt.stripBy
  rw [eg]
  have lo : stripLo blankB true (G.S t) = (t.takeWhile blankB).length := rfl
  have hi : stripHi blankB true (G.S t) (stripLo blankB true (G.S t)) = t.length - ((t.drop (t.takeWhile blankB).length).reverse.takeWhile blankB).length := by
    unfold stripHi
    rw [if_pos rfl, lo, S_length] <;> rfl
  by_cases h : ∀ c ∈ t, c = 32
  · have ta : t.takeWhile blankB = t := tw_all fun x hx => decide_eq_true (h x hx)
    have hi' : stripHi blankB true (G.S t) (stripLo blankB true (G.S t)) = t.length := by
      rw [hi, ta, List.drop_length]; rfl
    refine ⟨fun _ => h, fun _ => ?_⟩
    unfold stripSame stripped
    rw [hi', lo, ta, S_length]
    match t with
    | [] => rfl
    | x :: t =>
      rw [show ((x :: t).length == 0) = false from rfl]
      show ((G.S (x :: t)).cps.extract (x :: t).length (x :: t).length).toList = []
      simp
  · have ex : ∃ x ∈ t, blankB x = false := by
      refine Classical.byContradiction fun z => h fun c hc => ?_
      refine Classical.byContradiction fun q => z ⟨c, hc, decide_eq_false q⟩
    obtain ⟨h1, h2⟩ := tw_lt ex
    have h3 : ∃ x ∈ (t.drop (t.takeWhile blankB).length).reverse, blankB x = false := by
      obtain ⟨x, hx, e⟩ := h2
      exact ⟨x, List.mem_reverse.mpr hx, e⟩
    obtain ⟨h4, _⟩ := tw_lt h3
    rw [List.length_reverse, List.length_drop] at h4
    refine ⟨fun z => ?_, fun z => absurd z h⟩
    exfalso
    by_cases sm : stripSame blankB true true (G.S t) = true
    · rw [if_pos sm] at z
      have : t = [] := z
      rw [this] at h1
      exact absurd h1 (by simp)
    · rw [if_neg sm] at z
      unfold stripped at z
      rw [hi, lo] at z
      have z0 : ((G.S t).cps.extract (t.takeWhile blankB).length (t.length - ((t.drop (t.takeWhile blankB).length).reverse.takeWhile blankB).length)).toList = [] := z
      have z' := congrArg List.length z0
      rw [Array.length_toList, Array.size_extract] at z'
      have : (G.S t).cps.size = t.length := by show t.toArray.size = _; rw [List.size_toArray]
      rw [this, List.length_nil] at z'
      omega
theorem tk_blank : ∀ {t : Tx}, tk [] t = some [] ↔ ∀ c ∈ t, c = 32
  | [] => ⟨fun _ c h => (by cases h), fun _ => rfl⟩
  | c :: t => by
    have ih := tk_blank (t := t)
    cases hs : isSign c with
    | true =>
      refine ⟨fun z => ?_, fun z => ?_⟩
      · rw [tk_sign hs] at z
        rcases tk_name t ([] ++ [c]) (nm_one hs) with e | ⟨m, k, e, _⟩
        · rw [e] at z; cases z
        · rw [e] at z; cases z
      · have := z c (List.mem_cons_self ..)
        rw [this, sp_notSign] at hs; cases hs
    | false =>
      by_cases h32 : c = 32
      · subst h32
        rw [tk_sp]
        refine ⟨fun z d hd => ?_, fun z => ?_⟩
        · rcases List.mem_cons.mp hd with e | hd
          · exact e
          · refine ih.mp ?_ d hd
            cases q : tk [] t with
            | none => rw [q] at z; cases z
            | some k =>
              rw [q] at z
              have : [] ++ k = [] := Option.some.inj z
              rw [List.nil_append] at this
              rw [this]
        · rw [ih.mpr fun d hd => z d (List.mem_cons_of_mem _ hd)]; rfl
      · refine ⟨fun z => ?_, fun z => absurd (z c (List.mem_cons_self ..)) h32⟩
        cases hm : isMark c with
        | true =>
          rw [tk_mark hs hm] at z
          cases q : tk [] t with
          | none => rw [q] at z; cases z
          | some k => rw [q] at z; cases z
        | false => rw [tk_bad hs hm h32] at z; cases z
theorem law_read_eq {t : Tx} (hz : t.length ≤ 1000000) : m__law_read t = .ok (rdFs t) := by
  obtain ⟨s, es, hs⟩ := strip_ok (t := t) (by rw [SZ_val]; omega)
  unfold m__law_read
  simp only [pure_bind, es, okb]
  rw [tx_nil]
  by_cases h : ∀ c ∈ t, c = 32
  · rw [decide_eq_true (hs.mpr h), if_pos rfl]
    unfold rdFs
    rw [show pcs t = some [] from tk_blank.mpr h]
    rfl
  · rw [decide_eq_false (fun z => h (hs.mp z)), if_neg Bool.false_ne_true, tx_comma, addT_ok (by rw [SZ_val, List.length_singleton]; omega), pure_bind, pure_bind]
    rw [show ((0 : Int)) = ((0 : Nat) : Int) from rfl]
    rw [loop_eq (fun F W st c hJ => ?_) (t ++ [44]) [] [] 0 ⟨by decide, fun z => absurd rfl z⟩ (by rw [SZ_val, List.length_append, List.length_singleton]; show 0 + _ + 4 ≤ _; omega) (by rw [SZ_val, List.length_append, List.length_singleton, List.length_nil]; omega)]
    · have e : A 0 [] [] t = rdFs t := by
        rw [(st_all t).s0]
        unfold rdFs
        show (tk [] t).bind (contFs []) = match tk [] t with
          | none => none
          | some [] => some []
          | some (x :: xs) => contFs [] (x :: xs)
        cases q : tk [] t with
        | none => rfl
        | some k =>
          match k with
          | [] => exact absurd (tk_blank.mp q) h
          | x :: k => rfl
      rw [← e]
      unfold A
      cases aut 0 [] [] (t ++ [44]) with
      | none => rfl
      | some s =>
        obtain ⟨st', W', F'⟩ := s
        show (if (!decide ((st' : Int) = 0)) = true then (pure none : M (Option (List Fct))) else pure (some F')) = Except.ok (endA (some (st', W', F')))
        match st' with
        | 0 => rfl
        | n + 1 =>
          rw [decide_eq_false (show ¬ (((n + 1 : Nat) : Int) = 0) by omega)]
          rfl
    · show (_ : M (Tl Sx (Option (List Fct)))) = _
      simp only [sort_eq, okb, next_eq hJ.1 (cl_lt c)]
      unfold bodyM finM
      simp only [bind_assoc, bind_pure, pure_bind, tup_b]
      rfl
/-! the reads, whole -/
def mf (f : List Tx) (n : Tx) : Nat := f.flatten.length + n.length
theorem flush_flat (f : List Tx) (n : Tx) : (flush f n).flatten.length = mf f n := by
  unfold flush mf
  by_cases h : n = []
  · rw [if_pos h, h]; rfl
  · rw [if_neg h, List.flatten_append, List.length_append]; simp
theorem stp_flat {f f' : List Tx} {n n' : Tx} {c : Nat} (h : stp f n c = some (f', n')) : mf f' n' ≤ mf f n + 1 := by
  have fl := flush_flat f n
  unfold stp at h
  by_cases h1 : isSign c = true
  · rw [if_pos h1] at h; cases h; unfold mf; rw [List.length_append, List.length_singleton]; omega
  · rw [if_neg h1] at h
    by_cases h2 : isMark c = true
    · rw [if_pos h2] at h; cases h
      show (flush f n ++ [[c]]).flatten.length + 0 ≤ _
      rw [List.flatten_append, List.length_append, fl]; simp
    · rw [if_neg h2] at h
      by_cases h3 : c = 32
      · rw [if_pos h3] at h; cases h
        show (flush f n).flatten.length + 0 ≤ _
        rw [fl]; omega
      · rw [if_neg h3] at h; cases h
theorem prun_len : ∀ (r : Tx) {f f' : List Tx} {n n' : Tx}, prun f n r = some (f', n') → mf f' n' ≤ mf f n + r.length ∧ f'.length + n'.length ≤ f.length + n.length + r.length
  | [], f, f', n, n', h => by cases h; exact ⟨by simp, by simp⟩
  | c :: r, f, f', n, n', h => by
    rw [run_cons] at h
    cases e : stp f n c with
    | none => rw [e] at h; cases h
    | some s =>
      rw [e] at h
      have h1 := stp_flat (f' := s.1) (n' := s.2) e
      have h2 := stp_len (f' := s.1) (n' := s.2) e
      obtain ⟨g1, g2⟩ := prun_len r h
      rw [List.length_cons]
      exact ⟨by omega, by omega⟩
theorem pcs_tks {t : Tx} {xs : List Tx} (hz : t.length < SZ) (h : pcs t = some xs) : tks xs := by
  unfold pcs at h
  cases e : prun [] [] t with
  | none => rw [e] at h; cases h
  | some s =>
    obtain ⟨f, n⟩ := s
    rw [e] at h
    have hx : flush f n = xs := Option.some.inj h
    obtain ⟨g1, g2⟩ := prun_len t e
    have g1' : mf f n ≤ t.length := by have : mf ([] : List Tx) [] = 0 := rfl; omega
    have g2' : f.length + n.length ≤ t.length := by simpa using g2
    refine ⟨by rw [← hx]; have := flush_len f n; omega, fun x hx' => ?_⟩
    have : x.length ≤ xs.flatten.length := by
      clear h g2 g1 hx
      induction xs with
      | nil => cases hx'
      | cons y ys ih =>
        rw [List.flatten_cons, List.length_append]
        rcases List.mem_cons.mp hx' with e | e
        · rw [e]; omega
        · have := ih e; omega
    rw [← hx, flush_flat] at this
    omega
theorem read_fact_all {t : Tx} (hz : t.length < SZ) : m_read_fact t = match rdF t with
    | some f => .ok f
    | none => raise "NoLine" := by
  unfold m_read_fact rdF
  simp only [pure_bind, pieces_eq hz]
  cases e : pcs t with
  | none => rfl
  | some xs =>
    have tk := pcs_tks hz e
    have g := take_fact_eq tk (i := 0) (Nat.zero_le _)
    rw [List.drop_zero] at g
    simp only [okb]
    rw [show (0 : Int) = ((0 : Nat) : Int) from rfl, g]
    cases e2 : pF xs with
    | none => rfl
    | some s =>
      obtain ⟨f, r⟩ := s
      have hl := pF_len e2
      match r with
      | [] =>
        show (if (!decide (((xs.length - 0 : Nat) : Int) = (xs.length : Int))) = true then _ else _) = _
        rw [Nat.sub_zero, decide_eq_true rfl]
        rfl
      | y :: r =>
        show (if (!decide (((xs.length - (y :: r).length : Nat) : Int) = (xs.length : Int))) = true then _ else _) = _
        rw [decide_eq_false (by rw [List.length_cons] at hl ⊢; omega)]
        rfl
theorem read_facts_all {t : Tx} (hz : t.length < SZ) : m_read_facts t = match rdFs t with
    | some fs => .ok fs
    | none => raise "NoLine" := by
  unfold m_read_facts rdFs
  simp only [pure_bind, pieces_eq hz]
  cases e : pcs t with
  | none => rfl
  | some xs =>
    have tk := pcs_tks hz e
    match xs, e, tk with
    | [], _, _ => rfl
    | x :: xs', e, tk =>
      generalize hX : x :: xs' = xs at *
      have hn : decide ((xs.length : Int) = 0) = false := decide_eq_false (by rw [← hX, List.length_cons]; omega)
      simp only [okb, hn, Bool.false_eq_true, if_false]
      have hm : (match some xs with
        | none => none
        | some [] => some []
        | some (x :: xs) => contFs [] (x :: xs)) = contFs [] xs := by rw [← hX]
      rw [hm]
      unfold m_take_facts
      simp only [pure_bind, bind_pure]
      have := facts_loop tk (mr := fun s2 => (stuck : M (List Fct × Int))) (g := fun s2 => m_take_fact xs s2.1 >>= fun a5 => chk (s2.2.length < SZ) >>= fun _ => m_piece_at xs a5.2 >>= fun x18 => if (!decide (x18 = tx ",")) = true then (pure (.rt (s2.2 ++ [a5.1], a5.2)) : M (Tl (Int × List Fct) (List Fct × Int))) else pure (.ct (a5.2 + 1, s2.2 ++ [a5.1])))
        (fun i acc hi ha => by
          show (m_take_fact xs (i : Int) >>= _) = _
          rw [take_fact_eq tk hi]
          cases e2 : pF (xs.drop i) with
          | none => rfl
          | some s =>
            obtain ⟨f, r⟩ := s
            have sf := pF_suffix e2
            show (chk (acc.length < SZ) >>= _) = _
            rw [chk_b ha, piece_eq, okb, ← sf, tx_comma]
            show _ = if hd r = [44] then Except.ok (Tl.ct (((xs.length - r.length + 1 : Nat) : Int), acc ++ [fc f])) else Except.ok (Tl.rt (acc ++ [fc f], ((xs.length - r.length : Nat) : Int)))
            by_cases hc : hd r = [44]
            · rw [decide_eq_true hc, if_pos hc]
              rfl
            · rw [decide_eq_false hc, if_neg hc]
              rfl) FUEL 0 [] (by have := tk.1; rw [List.length_nil]; omega) (by have := tk.1; rw [SZ_val] at this; show _ < 1000000000000 + 0; omega) (Nat.zero_le _)
      rw [List.drop_zero] at this
      rw [← this]
      simp only [bind_assoc, pure_bind]
      rfl
/-! round trip -/
def Good (f : Fct) : Prop := isKd f.1 = true ∧ (∀ x ∈ (show List Tx from f.2), isNm x = true) ∧ (show List Tx from f.2).length ≤ 4
def ft (f : Fct) : Tx := ftext f.1 f.2
def tokF (f : Fct) : List Tx := toks f.1 f.2 false
def tokR : List Fct → List Tx
  | [] => []
  | f :: r => [44] :: (tokF f ++ tokR r)
theorem alt_tokF {f : Fct} {k : List Tx} (hf : Good f) (hk : ∀ b, alt b k) : alt false (tokF f ++ k) := by
  have ht := nmT_of (isKd_nm hf.1)
  unfold tokF toks
  by_cases h : (show List Tx from f.2) = [] ∧ false = false
  · rw [if_pos h]; exact .inl ⟨rfl, ht, hk true⟩
  · rw [if_neg h]
    have gen : ∀ as : List Tx, (∀ x ∈ as, isNm x = true) → alt false (commas as ++ ([41] :: k)) := fun as ha => by
      match as, ha with
      | [], _ => exact .inr ⟨mk_close, hk false⟩
      | a :: r, ha => exact alt_commas (fun b => .inr ⟨mk_close, hk false⟩) r a (nmT_of (ha a (List.mem_cons_self ..))) fun x hx => nmT_of (ha x (List.mem_cons_of_mem _ hx))
    refine .inl ⟨rfl, ht, .inr ⟨mk_open, ?_⟩⟩
    have g := gen f.2 hf.2.1
    have e : commas f.2 ++ ([41] :: k) = (commas f.2 ++ [[41]]) ++ k := by rw [List.append_assoc]; rfl
    rw [e] at g
    exact g
theorem alt_tokR : ∀ {r : List Fct}, (∀ f ∈ r, Good f) → ∀ b, alt b (tokR r)
  | [], _, _ => trivial
  | f :: r, h, b => .inr ⟨mk_comma, alt_tokF (h f (List.mem_cons_self ..)) (alt_tokR fun g hg => h g (List.mem_cons_of_mem _ hg))⟩
def spc1 : List Tx → List (Tx × Tx)
  | [] => []
  | x :: xs => ([32], x) :: xs.map fun t => ([], t)
def psR : List Fct → List (Tx × Tx)
  | [] => []
  | f :: r => ([], [44]) :: (spc1 (tokF f) ++ psR r)
theorem weave_map : ∀ ys : List Tx, weave (ys.map fun t => (([] : Tx), t)) = ys.flatten
  | [] => rfl
  | y :: ys => by show [] ++ (y ++ weave _) = _; rw [weave_map ys]; rfl
theorem spc1_map {xs : List Tx} : (spc1 xs).map (·.2) = xs := by
  cases xs with
  | nil => rfl
  | cons x xs => show x :: (xs.map fun t : Tx => (([] : Tx), t)).map (·.2) = _; rw [List.map_map]; exact congrArg _ (List.map_id' xs)
theorem spc1_weave {xs : List Tx} (h : xs ≠ []) : weave (spc1 xs) = 32 :: xs.flatten := by
  cases xs with
  | nil => exact absurd rfl h
  | cons x xs => show [32] ++ (x ++ weave _) = _; rw [weave_map]; rfl
theorem spc1_sp {xs : List Tx} : ∀ p ∈ spc1 xs, sp p.1 := by
  cases xs with
  | nil => intro p hp; cases hp
  | cons x xs =>
    intro p hp
    rcases List.mem_cons.mp hp with e | hp
    · rw [e]; intro c hc; exact List.mem_singleton.mp hc
    · obtain ⟨t, _, rfl⟩ := List.mem_map.mp hp
      intro c hc; cases hc
theorem psR_map : ∀ r : List Fct, (psR r).map (·.2) = tokR r
  | [] => rfl
  | f :: r => by show [44] :: ((spc1 (tokF f) ++ psR r).map (·.2)) = _; rw [List.map_append, spc1_map, psR_map r]; rfl
theorem psR_sp : ∀ r : List Fct, ∀ p ∈ psR r, sp p.1
  | f :: r, p, hp => by
    rcases List.mem_cons.mp hp with e | hp
    · rw [e]; intro c hc; cases hc
    · rcases List.mem_append.mp hp with h | h
      · exact spc1_sp p h
      · exact psR_sp r p h
theorem tokF_ne (f : Fct) : tokF f ≠ [] := by
  unfold tokF toks
  by_cases h : (show List Tx from f.2) = [] ∧ false = false
  · rw [if_pos h]; exact fun z => by cases z
  · rw [if_neg h]; exact fun z => by cases z
theorem psR_weave : ∀ (f : Fct) (r : List Fct), ft f ++ weave (psR r) = joinL [44, 32] (ft f :: r.map ft)
  | f, [] => by show ft f ++ [] = ft f; rw [List.append_nil]
  | f, g :: r => by
    have ih := psR_weave g r
    have e : joinL [44, 32] (ft f :: (g :: r).map ft) = ft f ++ ([44, 32] ++ joinL [44, 32] (ft g :: r.map ft)) := rfl
    rw [e, ← ih]
    show ft f ++ ([] ++ ([44] ++ weave (spc1 (tokF g) ++ psR r))) = _
    rw [weave_app, spc1_weave (tokF_ne g)]
    have : ft g = (tokF g).flatten := ftext_flat g.1 g.2
    rw [this]
    simp
theorem contFs_tok {F : List Fct} {f : Fct} {k : List Tx} (hf : Good f) (hk : hd k ≠ [40]) : contFs F (tokF f ++ k) = contFact (F ++ [f]) k := by
  rw [contFs_eq]
  have := pF_toks (br := false) hk hf.1 hf.2.1
  show (match pF (toks f.1 f.2 false ++ k) with
    | none => none
    | some (f, r) => contFact (F ++ [fc f]) r) = _
  rw [this]
  rfl
theorem contFs_all : ∀ (r : List Fct) (F : List Fct) (f : Fct), Good f → (∀ g ∈ r, Good g) → contFs F (tokF f ++ tokR r) = some (F ++ f :: r)
  | [], F, f, hf, _ => by
    rw [contFs_tok hf (show hd (tokR []) ≠ [40] by decide)]
    rfl
  | g :: r, F, f, hf, h => by
    rw [contFs_tok hf (show hd (tokR (g :: r)) ≠ [40] from (by show ([44] : Tx) ≠ [40]; decide))]
    show contFs (F ++ [f]) (tokF g ++ tokR r) = _
    rw [contFs_all r (F ++ [f]) g (h g (List.mem_cons_self ..)) fun x hx => h x (List.mem_cons_of_mem _ hx), List.append_assoc]
    rfl
theorem round_trip {fs : List Fct} (h : ∀ f ∈ fs, Good f) : rdFs (joinL [44, 32] (fs.map ft)) = some fs := by
  match fs, h with
  | [], _ => rfl
  | f :: r, h =>
    have hf := h f (List.mem_cons_self ..)
    have hr : ∀ g ∈ r, Good g := fun g hg => h g (List.mem_cons_of_mem _ hg)
    have e : joinL [44, 32] ((f :: r).map ft) = weave ((tokF f).map (fun t => (([] : Tx), t)) ++ psR r) ++ [] := by
      rw [List.append_nil, weave_app, weave_map, show (tokF f).flatten = ft f from (ftext_flat f.1 f.2).symm]
      exact (psR_weave f r).symm
    have m : (((tokF f).map (fun t => (([] : Tx), t)) ++ psR r).map (·.2)) = tokF f ++ tokR r := by
      rw [List.map_append, psR_map, List.map_map]
      exact congrArg (· ++ tokR r) (List.map_id' (tokF f))
    have p : pcs (joinL [44, 32] ((f :: r).map ft)) = some (tokF f ++ tokR r) := by
      rw [e, pcs_weave (fun p hp => ?_) (by rw [m]; exact alt_tokF hf (alt_tokR hr)) (fun c hc => by cases hc), m]
      rcases List.mem_append.mp hp with h | h
      · obtain ⟨t, _, rfl⟩ := List.mem_map.mp h
        intro c hc; cases hc
      · exact psR_sp r p h
    unfold rdFs
    rw [p]
    have q := contFs_all r [] f hf hr
    cases z : tokF f ++ tokR r with
    | nil => exact absurd (List.append_eq_nil_iff.mp z).1 (tokF_ne f)
    | cons x xs => rw [z] at q; exact q
theorem forP_list {α S : Type} {f : S → α → M S} (I : Nat → S → Prop) : ∀ (xs : List α) (k : Nat) (s : S), I k s → (∀ (j : Nat) (s : S) (x : α), x ∈ xs → j < k + xs.length → I j s → Okp (f s x) (I (j + 1))) → Okp (forP f s xs) (I (k + xs.length))
  | [], k, s, h, _ => ⟨s, rfl, h⟩
  | x :: xs, k, s, h, hf => by
    refine Okp.bind (hf k s x (List.mem_cons_self ..) (by rw [List.length_cons]; omega) h) fun s' h' => ?_
    have := forP_list I xs (k + 1) s' h' fun j s y hy hj hs => hf j s y (List.mem_cons_of_mem _ hy) (by rw [List.length_cons]; omega) hs
    rw [List.length_cons, show k + (xs.length + 1) = k + 1 + xs.length by omega]
    exact this
theorem forT_okp {α S R : Type} {f : S → α → M (Tl S R)} : ∀ (xs : List α) (s : S), (∀ s, ∀ x ∈ xs, Okp (f s x) fun _ => True) → Okp (forT f s xs) fun _ => True
  | [], s, _ => ⟨.inl s, rfl, trivial⟩
  | x :: xs, s, h => by
    obtain ⟨t, e, _⟩ := h s x (List.mem_cons_self ..)
    unfold forT
    rw [e]
    cases t with
    | ct s' => exact forT_okp xs s' fun s y hy => h s y (List.mem_cons_of_mem _ hy)
    | bk s' => exact ⟨.inl s', rfl, trivial⟩
    | rt r => exact ⟨.inr r, rfl, trivial⟩
theorem row_ok {ns : List Int} (hn : ns.length ≤ 63) : Okp (m__law_row ns) fun fs => (∀ f ∈ fs, Good f) ∧ fs.length ≤ 63 := by
  obtain ⟨c0, e0, _⟩ := cell_ok ns 0 (by decide)
  obtain ⟨c1, e1, _⟩ := cell_ok ns 1 (by decide)
  obtain ⟨c2, e2, _⟩ := cell_ok ns 2 (by decide)
  obtain ⟨ts, et, tl, th⟩ := names_ok c0 6 small (by decide) (by decide) (by decide +kernel) (by decide +kernel)
  obtain ⟨os, eo, ol, oh⟩ := names_ok c1 5 great (by decide) (by decide) (by decide +kernel) (by decide +kernel)
  obtain ⟨ws, ew, wl, wh⟩ := names_ok c2 5 (tx "abcdefghijklmnopqrstuvwxyz0123456789") (by decide) (by decide) (by decide +kernel) (by decide +kernel)
  have tl' : ts.length = 6 := tl
  have ol' : os.length = 5 := ol
  have wl' : ws.length = 5 := wl
  have et' : m__law_titles c0 6 = .ok ts := by
    unfold m__law_titles
    simp only [pure_bind]
    exact et
  have eo' : m__law_opens c1 5 = .ok os := by
    unfold m__law_opens
    simp only [pure_bind]
    exact eo
  have ew' : m__law_words c2 5 = .ok ws := by
    unfold m__law_words
    simp only [pure_bind]
    exact ew
  have ec : catM os ws = .ok (os ++ ws) := by unfold catM; rw [chk_b (by rw [SZ_val]; omega)]; rfl
  unfold m__law_row
  simp only [pure_bind, e0, e1, e2, okb, et', eo', ew', ec, modI_ok (show (0 : Int) < 3 by decide)]
  refine Okp.bind (P := fun s : List Int => s.length ≤ 63) ?_ fun cells hc => ?_
  · by_cases h : c1 % 3 = 0
    · rw [decide_eq_true h, if_pos rfl]
      exact ⟨_, rfl, Nat.le_trans (cut_len _ _ _) hn⟩
    · rw [decide_eq_false h, if_neg Bool.false_ne_true]
      exact ⟨_, rfl, Nat.le_trans (cut_len _ _ _) hn⟩
  simp only [bind_pure]
  refine Okp.imp (forP_list (fun k (s : List Fct) => (∀ f ∈ s, Good f) ∧ s.length ≤ k) cells 0 [] ⟨fun f h => (by cases h), Nat.le_refl _⟩ fun j s x hx hj ⟨h1, h2⟩ => ?_) fun fs ⟨a, b⟩ => ⟨a, by omega⟩
  obtain ⟨a, ea, a0, a1⟩ := mix_ok x 4 (by decide) (by decide)
  simp only [ea, okb, modI_ok (show (0 : Int) < 4 by decide), divI_ok (show (0 : Int) < 4 by decide) (show (4 : Int) < 1073741824 by decide), pure_bind, modI_ok (show (0 : Int) < 6 by decide)]
  rw [range1_ok (by omega) (by omega), okb]
  refine Okp.bind (lc_ok (Q := fun y => isNm y = true) (by rw [rangeL_len, SZ_val]; omega) fun e he => ?_) fun args ⟨al, ah⟩ => ?_
  · have hb := mem_rangeL he
    rw [mulI_l (show (-(2 ^ 64) : Int) < 7 by decide) (show (7 : Int) < 2 ^ 64 by decide), pure_bind, pure_bind, divI_ok (show (0 : Int) < 24 + 7 * e by omega) (show 24 + 7 * e < 1073741824 by omega), pure_bind, modI_ok (by decide), pure_bind]
    obtain ⟨y, ey, hy⟩ := atL_ok (xs := os ++ ws) (i := a / (24 + 7 * e) % 10) (by omega) (by rw [List.length_append]; omega)
    refine ⟨y, ey, ?_⟩
    rcases List.mem_append.mp hy with h | h
    · exact (oh y h).name great_sign
    · exact (wh y h).name words_sign
  · rw [rangeL_len] at al
    obtain ⟨t, eT, hT⟩ := atL_ok (xs := ts) (i := a / 4 % 6) (by omega) (by omega)
    simp only [eT, okb, tup_b, pure_bind]
    rw [chk_b (by rw [SZ_val]; omega), pure_bind]
    refine ⟨_, rfl, fun f hf => ?_, by rw [List.length_append, List.length_singleton]; omega⟩
    rcases List.mem_append.mp hf with h | h
    · exact h1 f h
    · rw [List.mem_singleton.mp h]
      exact ⟨(th t hT).kind, ah, by show args.length ≤ 4; omega⟩
theorem good_len {f : Fct} (h : Good f) : f.1.length ≤ 12 ∧ (∀ x ∈ (show List Tx from f.2), x.length ≤ 12) ∧ (show List Tx from f.2).length ≤ 100 := ⟨isNm_len (isKd_nm h.1), fun x hx => isNm_len (h.2.1 x hx), by have := h.2.2; omega⟩
theorem ft_len {f : Fct} (h : Good f) : (ft f).length ≤ 3000 := ftext_len (good_len h).1 (good_len h).2.1 (good_len h).2.2
theorem tx_cs : tx ", " = [44, 32] := rfl
theorem due_join {fs : List Fct} (h : ∀ f ∈ fs, Good f) (hl : fs.length ≤ 63) : joinM [44, 32] (fs.map ft) = .ok (joinL [44, 32] (fs.map ft)) ∧ (joinL [44, 32] (fs.map ft)).length ≤ 200000 := by
  have s1 := sum_le (k := 3000) (xs := fs.map ft) fun x hx => by
    obtain ⟨f, hf, rfl⟩ := List.mem_map.mp hx
    exact ft_len (h f hf)
  have s2 := joinL_len [44, 32] (fs.map ft)
  rw [List.length_map] at s1
  have e2 : ([44, 32] : Tx).length = 2 := rfl
  rw [List.length_map, e2] at s2
  exact ⟨joinM_ok (by rw [List.length_map, e2]; omega), by omega⟩
theorem lc_ft {fs : List Fct} (h : ∀ f ∈ fs, Good f) (hl : fs.length ≤ 63) : lc (fun e => m_fact_text e) fs = .ok (fs.map ft) := lc_map (by rw [SZ_val]; omega) fun f hf => fact_text_eq (good_len (h f hf)).1 (good_len (h f hf)).2.1 (good_len (h f hf)).2.2
theorem lc_lft {fs : List Fct} (h : ∀ f ∈ fs, Good f) (hl : fs.length ≤ 63) : lc (fun e => m__law_fact_text e) fs = .ok (fs.map ft) := lc_map (by rw [SZ_val]; omega) fun f hf => law_fact_text_eq (good_len (h f hf)).1 (good_len (h f hf)).2.1 (good_len (h f hf)).2.2
theorem sign_ok (i : Int) : Okp (m__law_sign i) fun y => y.length = 1 := by
  unfold m__law_sign
  simp only [pure_bind]
  rw [addT_ok (by rw [SZ_val]; decide), pure_bind, modI_ok (by decide), pure_bind]
  have e : (tx " !\"#$&'()*+,-./0123456789:;<=>?@ABCDEFGHIJKLMNOPQRSTUVWXYZ[\\]^_`" ++ tx "abcdefghijklmnopqrstuvwxyz{|}~\n").length = 95 := by decide +kernel
  obtain ⟨c, h, _⟩ := atT_ok (x := tx " !\"#$&'()*+,-./0123456789:;<=>?@ABCDEFGHIJKLMNOPQRSTUVWXYZ[\\]^_`" ++ tx "abcdefghijklmnopqrstuvwxyz{|}~\n") (i := i % 95) (by omega) (by rw [e]; omega) (by rw [e, SZ_val]; decide)
  exact ⟨[c], h, rfl⟩
theorem spoil_ok {t s : Tx} (ht : t.length ≤ 200000) (hs : s.length = 1) (way a : Int) : Okp (m__law_spoiled t way a s) fun x => x.length ≤ 1000000 := by
  have tz : t.length ≤ SZ := by rw [SZ_val]; omega
  have three : ∀ (l1 h1 l2 h2 : Option Int) (m : Tx), m.length = 1 → Okp (addT (cut t l1 h1) m >>= fun x => addT x (cut t l2 h2)) fun x => x.length ≤ 1000000 := fun l1 h1 l2 h2 m hm => by
    have g1 := cut_len t l1 h1
    have g2 := cut_len t l2 h2
    rw [addT_ok (by rw [SZ_val]; omega), pure_bind, addT_ok (by rw [SZ_val, List.length_append]; omega)]
    exact ⟨_, rfl, by simp only [List.length_append]; omega⟩
  have two : ∀ (l1 h1 l2 h2 : Option Int), Okp (addT (cut t l1 h1) (cut t l2 h2)) fun x => x.length ≤ 1000000 := fun l1 h1 l2 h2 => by
    have g1 := cut_len t l1 h1
    have g2 := cut_len t l2 h2
    rw [addT_ok (by rw [SZ_val]; omega)]
    exact ⟨_, rfl, by simp only [List.length_append]; omega⟩
  unfold m__law_spoiled
  simp only [pure_bind, cutT_ok tz, okb, bind_assoc]
  by_cases h0 : way = 0
  · rw [decide_eq_true h0, if_pos rfl]
    exact three _ _ _ _ _ rfl
  rw [decide_eq_false h0, if_neg Bool.false_ne_true]
  by_cases h1 : way = 1
  · rw [decide_eq_true h1, if_pos rfl]
    exact three _ _ _ _ _ hs
  rw [decide_eq_false h1, if_neg Bool.false_ne_true]
  by_cases h2 : way = 2
  · rw [decide_eq_true h2, if_pos rfl]
    exact two _ _ _ _
  rw [decide_eq_false h2, if_neg Bool.false_ne_true]
  exact three _ _ _ _ _ hs
theorem place_ok {t : Tx} (ht : t.length ≤ 200000) (a n : Int) (h0 : 0 ≤ a) (h1 : a ≤ 200001) : Okp (m__law_place t a n) fun _ => True := by
  have tz : t.length ≤ SZ := by rw [SZ_val]; omega
  unfold m__law_place
  simp only [pure_bind, lenT_ok tz, modI_ok (show (0 : Int) < 2 by decide)]
  refine Okp.bind (P := fun z : Tl Unit Int => match z with
    | .bk _ => False
    | _ => True) ?_ fun z hz => ?_
  · by_cases h : n % 2 = 0
    · rw [decide_eq_true h, if_pos rfl]
      unfold range2
      rw [chk_b (by omega), pure_bind]
      refine Okp.bind (P := fun _ => True) (forT_okp _ _ fun s x hx => ?_) fun z _ => ?_
      · have hb := mem_rangeL hx
        obtain ⟨c, e, _⟩ := atT_ok (x := t) (i := x) (by omega) (by omega) tz
        rw [e, pure_bind, inS_one, pure_bind]
        cases decide (c ∈ tx " (),") with
        | true => exact ⟨_, rfl, trivial⟩
        | false => exact ⟨_, rfl, trivial⟩
      · cases z with
        | inl s => exact ⟨_, rfl, trivial⟩
        | inr r => exact ⟨_, rfl, trivial⟩
    · rw [decide_eq_false h, if_neg Bool.false_ne_true]
      exact ⟨_, rfl, trivial⟩
  · cases z with
    | ct s => exact ⟨_, rfl, trivial⟩
    | rt r => exact ⟨_, rfl, trivial⟩
    | bk s => exact hz.elim
theorem isx_b : isx "NoLine" "NoLine" = true ∧ isx "NoLine" "ValueError" = true ∧ isx "NoLine" "NoKind" = false ∧ isx "NoLine" "NoFact" = false ∧ isx "NoLine" "NoName" = false := by decide +kernel
theorem exc_mem : ("NoLine" : Str) ∈ exc_PoolError := List.mem_cons_self ..
theorem try_raise {α S : Type} {sOk : α → S} {h : Str → M S} {s : S} (e : h "NoLine" = .ok s) : tryM exc_PoolError sOk h (raise "NoLine" : M α) = .ok s := by
  show (if ("NoLine" : Str) ∈ exc_PoolError then nr (h "NoLine") else stuck) = _
  rw [if_pos exc_mem, e]
  rfl
theorem refusal_eq {t : Tx} (hz : t.length < SZ) (h : rdFs t = none) : m__law_refusal t = .ok [true, true, false, false, false] := by
  obtain ⟨i1, i2, i3, i4, i5⟩ := isx_b
  unfold m__law_refusal
  simp only [pure_bind, read_facts_all hz, h]
  rw [try_raise (s := [true, true, false, false, false])]
  · rfl
  · simp only [i1, i2, i3, i4, i5]
    unfold catM
    rw [chk_b (by rw [SZ_val]; decide)]
    rfl
theorem dec_self {α : Type} [DecidableEq α] (a : α) : decide (a = a) = true := decide_eq_true rfl
theorem single_eq {t : Tx} (hz : t.length < SZ) : m__law_single t (rdFs t) = .ok true := by
  obtain ⟨i1, i2, i3, i4, i5⟩ := isx_b
  unfold m__law_single
  simp only [pure_bind, read_fact_all hz, rdF_eq]
  have bad : tryM exc_PoolError (fun (a4 : Fct) => ((some a4, []) : Option Fct × List Bool)) (fun (ec5 : Str) => (pure (none, [isx ec5 "NoLine", isx ec5 "ValueError"]) : M (Option Fct × List Bool))) (raise "NoLine") = .ok (none, [true, true]) := try_raise (by simp only [i1, i2]; rfl)
  cases h : rdFs t with
  | none =>
    show (tryM _ _ _ (raise "NoLine") >>= _) = _
    rw [bad]
    rfl
  | some l =>
    match l with
    | [] =>
      show (tryM _ _ _ (raise "NoLine") >>= _) = _
      rw [bad]
      rfl
    | [f] =>
      show (if (!decide ((([f] : List Fct).length : Int) = 1)) = true then (pure (decide (([] : List Bool) = [true, true])) : M Bool) else (if decide (([] : List Bool) = []) = true then (if (true && true) = true then (pure (decide (f = f)) : M Bool) else pure false) else pure false)) = _
      rw [dec_self f]
      rfl
    | f :: g :: r =>
      show (tryM _ _ _ (raise "NoLine") >>= _) = _
      rw [bad]
      show (if (!decide (((f :: g :: r).length : Int) = 1)) = true then (pure (decide ([true, true] = [true, true])) : M Bool) else (if decide ([true, true] = ([] : List Bool)) = true then (if (false && true) = true then (ofO (none : Option Fct) >>= fun x34 => atL (f :: g :: r) 0 >>= fun y35 => (pure (decide (x34 = y35)) : M Bool)) else pure false) else pure false)) = _
      rw [decide_eq_false (by rw [List.length_cons, List.length_cons]; omega)]
      rfl
theorem told_eq {fs : List Fct} (h : ∀ f ∈ fs, Good f) (hl : fs.length ≤ 63) : m_facts_text fs = .ok (joinL [44, 32] (fs.map ft)) ∧ m_facts_text_v1 fs = .ok (joinL [44, 32] (fs.map ft)) := by
  have e := lc_ft h hl
  have j := (due_join h hl).1
  constructor
  · unfold m_facts_text
    simp only [pure_bind]
    rw [e, okb, tx_cs, j]
  · unfold m_facts_text_v1
    simp only [pure_bind]
    show (lc (fun e => m_fact_text e) fs >>= fun y5 => joinM (tx ", ") y5) = _
    rw [e, okb, tx_cs, j]
theorem law_end {t : Tx} (hz : t.length ≤ 1000000) : (m__law_read t >>= fun a89 => (m__law_single t a89 >>= fun c93 => (pure (!c93) : M Bool)) >>= fun c94 => if c94 = true then (pure false : M Bool) else
    if a89.isNone = true then m__law_refusal t >>= fun x109 => (pure (decide (x109 = [true, true, false, false, false])) : M Bool) else
    m_read_facts t >>= fun a111 => (ofO a89 : M (List Fct)) >>= fun y116 => (pure (decide (a111 = y116)) : M Bool)) = .ok true := by
  have hz' : t.length < SZ := by rw [SZ_val]; omega
  rw [law_read_eq hz, okb, single_eq hz', okb, pure_bind]
  simp only [Bool.not_true, Bool.false_eq_true, if_false]
  cases h : rdFs t with
  | none =>
    show (m__law_refusal t >>= _) = _
    rw [refusal_eq hz' h, okb, dec_self]
    rfl
  | some l =>
    show (m_read_facts t >>= fun a111 => pure (decide (a111 = l))) = _
    rw [read_facts_all hz', h]
    show (pure (decide (l = l)) : M Bool) = _
    rw [dec_self]
    rfl
theorem law_ok (ns : List Int) (hn : ns.length ≤ 63) : m_law ns = pure true := by
  obtain ⟨fs, ef, hg, hl⟩ := row_ok hn
  obtain ⟨t1, t2⟩ := told_eq hg hl
  obtain ⟨dj, dl⟩ := due_join hg hl
  have rt : m_read_facts (joinL [44, 32] (fs.map ft)) = .ok fs := by
    rw [read_facts_all (by rw [SZ_val]; omega), round_trip hg]
  have lf := lc_lft hg hl
  obtain ⟨c0, e0, _⟩ := cell_ok ns 0 (by decide)
  obtain ⟨c1, e1, _⟩ := cell_ok ns 1 (by decide)
  obtain ⟨c2, e2, _⟩ := cell_ok ns 2 (by decide)
  unfold m_law
  simp only [pure_bind, ef, okb, lf, tx_cs, dj, t1, tup_b, e0, e1, e2]
  generalize hD : joinL [44, 32] (fs.map ft) = D at *
  have t2' : m_facts_text_v1 (show Tup Fct from fs) = .ok D := t2
  rw [t2', okb]
  simp only [pure_bind]
  have a0 : atL [D, D] 0 = .ok D := rfl
  rw [a0, okb, pure_bind]
  simp only [Bool.not_true, Bool.false_eq_true, if_false]
  simp only [decide_true, Bool.not_true, Bool.false_eq_true, if_false, if_true, pure_bind]
  rw [rt, okb]
  simp only [decide_true, Bool.not_true, Bool.false_eq_true, if_false, if_true, pure_bind]
  obtain ⟨m1, em1, m10, m11⟩ := mix_ok c1 3 (by decide) (by decide)
  obtain ⟨m2, em2, m20, m21⟩ := mix_ok c2 5 (by decide) (by decide)
  obtain ⟨s0, es0, hs0⟩ := sign_ok (m2 / 2)
  have Dz : D.length ≤ SZ := by rw [SZ_val]; omega
  rw [modI_ok (show (0 : Int) < 4 by decide), pure_bind, em1, okb, lenT_ok Dz, pure_bind, pure_bind, modI_ok (show (0 : Int) < (D.length : Int) + 1 by omega), pure_bind, em2, okb, divI_ok (show (0 : Int) < 2 by decide) (show (2 : Int) < 1073741824 by decide), pure_bind, es0, okb]
  obtain ⟨s1, es1, hs1⟩ : ∃ s1 : Tx, (modI m2 2 >>= fun x68 => if decide (x68 = 1) = true then (modI (m2 / 2) 9 >>= fun y74 => atT (tx "(), aA1;\n") y74) else pure s0) = .ok s1 ∧ s1.length = 1 := by
    rw [modI_ok (show (0 : Int) < 2 by decide), pure_bind]
    by_cases h : m2 % 2 = 1
    · rw [decide_eq_true h, if_pos rfl, modI_ok (show (0 : Int) < 9 by decide), pure_bind]
      have l9 : (tx "(), aA1;\n").length = 9 := by decide +kernel
      obtain ⟨c, e, _⟩ := atT_ok (x := tx "(), aA1;\n") (i := m2 / 2 % 9) (by omega) (by rw [l9]; omega) (by rw [l9, SZ_val]; decide)
      exact ⟨[c], e, rfl⟩
    · rw [decide_eq_false h, if_neg Bool.false_ne_true]
      exact ⟨s0, rfl, hs0⟩
  have p0 : 0 ≤ m1 % ((D.length : Int) + 1) := Int.emod_nonneg _ (by omega)
  have p1 : m1 % ((D.length : Int) + 1) < (D.length : Int) + 1 := Int.emod_lt_of_pos _ (by omega)
  obtain ⟨pl, epl, _⟩ := place_ok dl (m1 % ((D.length : Int) + 1)) (m2 / 18) p0 (by omega)
  obtain ⟨T, eT, hT⟩ := spoil_ok dl hs1 (c0 % 4) pl
  have le := law_end hT
  simp only [bind_assoc, bind_pure, pure_bind, modI_ok (show (0 : Int) < 2 by decide), modI_ok (show (0 : Int) < 9 by decide), divI_ok (show (0 : Int) < 2 by decide) (show (2 : Int) < 1073741824 by decide), divI_ok (show (0 : Int) < 18 by decide) (show (18 : Int) < 1073741824 by decide)] at es1 le ⊢
  rw [es1, okb, epl, okb, eT, okb]
  exact le
end Q

set_option Elab.async false
set_option linter.all false
set_option maxRecDepth 100000
set_option maxHeartbeats 0
namespace Q
open PySem L2 G
/-! the head -/
def fn : List He.DefD := [⟨("is_name", none), "is_name", "is_name", defArgs (top 11), defBody (top 11), defScope (top 11), [], []⟩,
  ⟨("is_kind", none), "is_kind", "is_kind", defArgs (top 12), defBody (top 12), defScope (top 12), [], []⟩,
  ⟨("pieces", none), "pieces", "pieces", defArgs (top 13), defBody (top 13), defScope (top 13), [], []⟩,
  ⟨("piece_at", none), "piece_at", "piece_at", defArgs (top 14), defBody (top 14), defScope (top 14), [], []⟩,
  ⟨("take_arguments", none), "take_arguments", "take_arguments", defArgs (top 15), defBody (top 15), defScope (top 15), [], []⟩,
  ⟨("take_fact", none), "take_fact", "take_fact", defArgs (top 16), defBody (top 16), defScope (top 16), [], []⟩,
  ⟨("take_facts", none), "take_facts", "take_facts", defArgs (top 17), defBody (top 17), defScope (top 17), [], []⟩,
  ⟨("fact_text", none), "fact_text", "fact_text", defArgs (top 18), defBody (top 18), defScope (top 18), [], []⟩,
  ⟨("read_fact", none), "read_fact", "read_fact", defArgs (top 19), defBody (top 19), defScope (top 19), [], []⟩,
  ⟨("facts_text", none), "facts_text", "facts_text", defArgs (top 20), defBody (top 20), defScope (top 20), [], []⟩,
  ⟨("read_facts", none), "read_facts", "read_facts", defArgs (top 21), defBody (top 21), defScope (top 21), [], []⟩,
  ⟨("_law_cell_at", none), "_law_cell_at", "_law_cell_at", defArgs (top 23), defBody (top 23), defScope (top 23), [], []⟩,
  ⟨("_law_mix", none), "_law_mix", "_law_mix", defArgs (top 24), defBody (top 24), defScope (top 24), [], []⟩,
  ⟨("_law_names", none), "_law_names", "_law_names", defArgs (top 25), defBody (top 25), defScope (top 25), [], []⟩,
  ⟨("_law_titles", none), "_law_titles", "_law_titles", defArgs (top 26), defBody (top 26), defScope (top 26), [], []⟩,
  ⟨("_law_opens", none), "_law_opens", "_law_opens", defArgs (top 27), defBody (top 27), defScope (top 27), [], []⟩,
  ⟨("_law_words", none), "_law_words", "_law_words", defArgs (top 28), defBody (top 28), defScope (top 28), [], []⟩,
  ⟨("_law_sign", none), "_law_sign", "_law_sign", defArgs (top 29), defBody (top 29), defScope (top 29), [], []⟩,
  ⟨("_law_fact_text", none), "_law_fact_text", "_law_fact_text", defArgs (top 30), defBody (top 30), defScope (top 30), [], []⟩,
  ⟨("_law_sort", none), "_law_sort", "_law_sort", defArgs (top 31), defBody (top 31), defScope (top 31), [], []⟩,
  ⟨("_law_next", none), "_law_next", "_law_next", defArgs (top 32), defBody (top 32), defScope (top 32), [], []⟩,
  ⟨("_law_read", none), "_law_read", "_law_read", defArgs (top 33), defBody (top 33), defScope (top 33), [], []⟩,
  ⟨("_law_spoiled", none), "_law_spoiled", "_law_spoiled", defArgs (top 34), defBody (top 34), defScope (top 34), [], []⟩,
  ⟨("_law_place", none), "_law_place", "_law_place", defArgs (top 35), defBody (top 35), defScope (top 35), [], []⟩,
  ⟨("_law_row", none), "_law_row", "_law_row", defArgs (top 36), defBody (top 36), defScope (top 36), [], []⟩,
  ⟨("_law_refusal", none), "_law_refusal", "_law_refusal", defArgs (top 37), defBody (top 37), defScope (top 37), [], []⟩,
  ⟨("_law_single", none), "_law_single", "_law_single", defArgs (top 38), defBody (top 38), defScope (top 38), [], []⟩,
  ⟨("law", none), "law", "law", defArgs (top 39), defBody (top 39), defScope (top 39), [], []⟩]
def fa : List He.Fa := [.glo "is_name",
  .glo "is_kind",
  .glo "pieces",
  .glo "piece_at",
  .glo "take_arguments",
  .glo "take_fact",
  .glo "take_facts",
  .glo "fact_text",
  .glo "read_fact",
  .glo "facts_text",
  .glo "read_facts",
  .glo "_law_cell_at",
  .glo "_law_mix",
  .glo "_law_names",
  .glo "_law_titles",
  .glo "_law_opens",
  .glo "_law_words",
  .glo "_law_sign",
  .glo "_law_fact_text",
  .glo "_law_sort",
  .glo "_law_next",
  .glo "_law_read",
  .glo "_law_spoiled",
  .glo "_law_place",
  .glo "_law_row",
  .glo "_law_refusal",
  .glo "_law_single",
  .glo "law",
  .exm "NoLine" "PoolError" true,
  .glo "NoFact",
  .glo "NoKind",
  .glo "NoName",
  .glo "PoolError",
  .free "ValueError",
  .free "isinstance",
  .free "len",
  .free "list",
  .free "max",
  .free "range",
  .free "str",
  .free "tuple",
  .str "FIGURES" "0123456789",
  .str "GREAT" "ABCDEFGHIJKLMNOPQRSTUVWXYZ",
  .str "SIGNS" "(),;:=-",
  .str "SMALL" "abcdefghijklmnopqrstuvwxyz",
  .glo "NoLine",
  .exc "NoLine"]
def fx : List (Fg → Bool) := [fun K => excB K "NoLine",
  fun K => kitOwnB K "NoLine" "NoFact" (isx "NoLine" "NoFact"),
  fun K => kitOwnB K "NoLine" "NoKind" (isx "NoLine" "NoKind"),
  fun K => kitOwnB K "NoLine" "NoLine" (isx "NoLine" "NoLine"),
  fun K => kitOwnB K "NoLine" "NoName" (isx "NoLine" "NoName"),
  fun K => kitTyB K "NoLine" "ValueError" (isx "NoLine" "ValueError")]
abbrev R : PySem.W.OpenRow := PySem.W.OpenLaw.row PySem.Challenge.rw_poolrules_k03_rows_of_facts_read
abbrev hk : PySem.W.Hook := G.hookX 5 fa fn fx
def ob (s : PySem.W.SharedT) : He.AlD × Bool := G.obX 5 fa fn fx (HandSHeadRun.getT s)
theorem ob_eq (s : PySem.W.SharedT) : ob s = hk.obs s.abs := G.obX_eq (HandSHeadRun.getT_eq s)
def loose : List PySem.Str := (["PoolError", "NoLine", "NoKind", "NoFact", "NoName", "SMALL", "GREAT", "FIGURES", "SIGNS", "is_name", "is_kind", "pieces", "piece_at", "take_arguments", "take_fact", "take_facts", "fact_text", "read_fact", "facts_text", "read_facts"] : List PySem.Str) ++ ((["_law_cell_at", "_law_mix", "_law_names", "_law_titles", "_law_opens", "_law_words", "_law_sign", "_law_fact_text", "_law_sort", "_law_next", "_law_read", "_law_spoiled", "_law_place", "_law_row", "_law_refusal", "_law_single"] : List PySem.Str))
theorem run (w : World) : HandSHeadRun.RunEq R (PySem.W.view R.prog [39]) hk ob 4000 loose w := by
  intro os
  kernel_rfl
theorem facts {K : Fg} {h : Heap} {mg : Str → Option Value} (X : K.In h) (G : h.Ns mainGlobals mg) (c : He.SaysD fa fn K) (cx : (fx.all fun f => f K) = true) : Fx K mg where
  f_is_name := c.def_ 0 (d := ⟨("is_name", none), "is_name", "is_name", defArgs (top 11), defBody (top 11), defScope (top 11), [], []⟩) rfl
  g_is_name := He.glo_ok X G (c.fact 0 (f := .glo "is_name") rfl)
  f_is_kind := c.def_ 1 (d := ⟨("is_kind", none), "is_kind", "is_kind", defArgs (top 12), defBody (top 12), defScope (top 12), [], []⟩) rfl
  g_is_kind := He.glo_ok X G (c.fact 1 (f := .glo "is_kind") rfl)
  f_pieces := c.def_ 2 (d := ⟨("pieces", none), "pieces", "pieces", defArgs (top 13), defBody (top 13), defScope (top 13), [], []⟩) rfl
  g_pieces := He.glo_ok X G (c.fact 2 (f := .glo "pieces") rfl)
  f_piece_at := c.def_ 3 (d := ⟨("piece_at", none), "piece_at", "piece_at", defArgs (top 14), defBody (top 14), defScope (top 14), [], []⟩) rfl
  g_piece_at := He.glo_ok X G (c.fact 3 (f := .glo "piece_at") rfl)
  f_take_arguments := c.def_ 4 (d := ⟨("take_arguments", none), "take_arguments", "take_arguments", defArgs (top 15), defBody (top 15), defScope (top 15), [], []⟩) rfl
  g_take_arguments := He.glo_ok X G (c.fact 4 (f := .glo "take_arguments") rfl)
  f_take_fact := c.def_ 5 (d := ⟨("take_fact", none), "take_fact", "take_fact", defArgs (top 16), defBody (top 16), defScope (top 16), [], []⟩) rfl
  g_take_fact := He.glo_ok X G (c.fact 5 (f := .glo "take_fact") rfl)
  f_take_facts := c.def_ 6 (d := ⟨("take_facts", none), "take_facts", "take_facts", defArgs (top 17), defBody (top 17), defScope (top 17), [], []⟩) rfl
  g_take_facts := He.glo_ok X G (c.fact 6 (f := .glo "take_facts") rfl)
  f_fact_text := c.def_ 7 (d := ⟨("fact_text", none), "fact_text", "fact_text", defArgs (top 18), defBody (top 18), defScope (top 18), [], []⟩) rfl
  g_fact_text := He.glo_ok X G (c.fact 7 (f := .glo "fact_text") rfl)
  f_read_fact := c.def_ 8 (d := ⟨("read_fact", none), "read_fact", "read_fact", defArgs (top 19), defBody (top 19), defScope (top 19), [], []⟩) rfl
  g_read_fact := He.glo_ok X G (c.fact 8 (f := .glo "read_fact") rfl)
  f_facts_text := c.def_ 9 (d := ⟨("facts_text", none), "facts_text", "facts_text", defArgs (top 20), defBody (top 20), defScope (top 20), [], []⟩) rfl
  g_facts_text := He.glo_ok X G (c.fact 9 (f := .glo "facts_text") rfl)
  f_read_facts := c.def_ 10 (d := ⟨("read_facts", none), "read_facts", "read_facts", defArgs (top 21), defBody (top 21), defScope (top 21), [], []⟩) rfl
  g_read_facts := He.glo_ok X G (c.fact 10 (f := .glo "read_facts") rfl)
  f__law_cell_at := c.def_ 11 (d := ⟨("_law_cell_at", none), "_law_cell_at", "_law_cell_at", defArgs (top 23), defBody (top 23), defScope (top 23), [], []⟩) rfl
  g__law_cell_at := He.glo_ok X G (c.fact 11 (f := .glo "_law_cell_at") rfl)
  f__law_mix := c.def_ 12 (d := ⟨("_law_mix", none), "_law_mix", "_law_mix", defArgs (top 24), defBody (top 24), defScope (top 24), [], []⟩) rfl
  g__law_mix := He.glo_ok X G (c.fact 12 (f := .glo "_law_mix") rfl)
  f__law_names := c.def_ 13 (d := ⟨("_law_names", none), "_law_names", "_law_names", defArgs (top 25), defBody (top 25), defScope (top 25), [], []⟩) rfl
  g__law_names := He.glo_ok X G (c.fact 13 (f := .glo "_law_names") rfl)
  f__law_titles := c.def_ 14 (d := ⟨("_law_titles", none), "_law_titles", "_law_titles", defArgs (top 26), defBody (top 26), defScope (top 26), [], []⟩) rfl
  g__law_titles := He.glo_ok X G (c.fact 14 (f := .glo "_law_titles") rfl)
  f__law_opens := c.def_ 15 (d := ⟨("_law_opens", none), "_law_opens", "_law_opens", defArgs (top 27), defBody (top 27), defScope (top 27), [], []⟩) rfl
  g__law_opens := He.glo_ok X G (c.fact 15 (f := .glo "_law_opens") rfl)
  f__law_words := c.def_ 16 (d := ⟨("_law_words", none), "_law_words", "_law_words", defArgs (top 28), defBody (top 28), defScope (top 28), [], []⟩) rfl
  g__law_words := He.glo_ok X G (c.fact 16 (f := .glo "_law_words") rfl)
  f__law_sign := c.def_ 17 (d := ⟨("_law_sign", none), "_law_sign", "_law_sign", defArgs (top 29), defBody (top 29), defScope (top 29), [], []⟩) rfl
  g__law_sign := He.glo_ok X G (c.fact 17 (f := .glo "_law_sign") rfl)
  f__law_fact_text := c.def_ 18 (d := ⟨("_law_fact_text", none), "_law_fact_text", "_law_fact_text", defArgs (top 30), defBody (top 30), defScope (top 30), [], []⟩) rfl
  g__law_fact_text := He.glo_ok X G (c.fact 18 (f := .glo "_law_fact_text") rfl)
  f__law_sort := c.def_ 19 (d := ⟨("_law_sort", none), "_law_sort", "_law_sort", defArgs (top 31), defBody (top 31), defScope (top 31), [], []⟩) rfl
  g__law_sort := He.glo_ok X G (c.fact 19 (f := .glo "_law_sort") rfl)
  f__law_next := c.def_ 20 (d := ⟨("_law_next", none), "_law_next", "_law_next", defArgs (top 32), defBody (top 32), defScope (top 32), [], []⟩) rfl
  g__law_next := He.glo_ok X G (c.fact 20 (f := .glo "_law_next") rfl)
  f__law_read := c.def_ 21 (d := ⟨("_law_read", none), "_law_read", "_law_read", defArgs (top 33), defBody (top 33), defScope (top 33), [], []⟩) rfl
  g__law_read := He.glo_ok X G (c.fact 21 (f := .glo "_law_read") rfl)
  f__law_spoiled := c.def_ 22 (d := ⟨("_law_spoiled", none), "_law_spoiled", "_law_spoiled", defArgs (top 34), defBody (top 34), defScope (top 34), [], []⟩) rfl
  g__law_spoiled := He.glo_ok X G (c.fact 22 (f := .glo "_law_spoiled") rfl)
  f__law_place := c.def_ 23 (d := ⟨("_law_place", none), "_law_place", "_law_place", defArgs (top 35), defBody (top 35), defScope (top 35), [], []⟩) rfl
  g__law_place := He.glo_ok X G (c.fact 23 (f := .glo "_law_place") rfl)
  f__law_row := c.def_ 24 (d := ⟨("_law_row", none), "_law_row", "_law_row", defArgs (top 36), defBody (top 36), defScope (top 36), [], []⟩) rfl
  g__law_row := He.glo_ok X G (c.fact 24 (f := .glo "_law_row") rfl)
  f__law_refusal := c.def_ 25 (d := ⟨("_law_refusal", none), "_law_refusal", "_law_refusal", defArgs (top 37), defBody (top 37), defScope (top 37), [], []⟩) rfl
  g__law_refusal := He.glo_ok X G (c.fact 25 (f := .glo "_law_refusal") rfl)
  f__law_single := c.def_ 26 (d := ⟨("_law_single", none), "_law_single", "_law_single", defArgs (top 38), defBody (top 38), defScope (top 38), [], []⟩) rfl
  g__law_single := He.glo_ok X G (c.fact 26 (f := .glo "_law_single") rfl)
  f_law := c.def_ 27 (d := ⟨("law", none), "law", "law", defArgs (top 39), defBody (top 39), defScope (top 39), [], []⟩) rfl
  g_law := He.glo_ok X G (c.fact 27 (f := .glo "law") rfl)
  em_PoolError := (List.forall_mem_cons.mpr ⟨c.fact 28 (f := .exm "NoLine" "PoolError" true) rfl, (fun _ h => nomatch h)⟩)
  ex_PoolError := (List.forall_mem_cons.mpr ⟨fx_at cx 0 (f := fun K => excB K "NoLine") rfl, (fun _ h => nomatch h)⟩)
  kx_PoolError_NoFact := (List.forall_mem_cons.mpr ⟨fx_at cx 1 (f := fun K => kitOwnB K "NoLine" "NoFact" (isx "NoLine" "NoFact")) rfl, (fun _ h => nomatch h)⟩)
  kx_PoolError_NoKind := (List.forall_mem_cons.mpr ⟨fx_at cx 2 (f := fun K => kitOwnB K "NoLine" "NoKind" (isx "NoLine" "NoKind")) rfl, (fun _ h => nomatch h)⟩)
  kx_PoolError_NoLine := (List.forall_mem_cons.mpr ⟨fx_at cx 3 (f := fun K => kitOwnB K "NoLine" "NoLine" (isx "NoLine" "NoLine")) rfl, (fun _ h => nomatch h)⟩)
  kx_PoolError_NoName := (List.forall_mem_cons.mpr ⟨fx_at cx 4 (f := fun K => kitOwnB K "NoLine" "NoName" (isx "NoLine" "NoName")) rfl, (fun _ h => nomatch h)⟩)
  kx_PoolError_ValueError := (List.forall_mem_cons.mpr ⟨fx_at cx 5 (f := fun K => kitTyB K "NoLine" "ValueError" (isx "NoLine" "ValueError")) rfl, (fun _ h => nomatch h)⟩)
  g_NoFact := He.glo_ok X G (c.fact 29 (f := .glo "NoFact") rfl)
  g_NoKind := He.glo_ok X G (c.fact 30 (f := .glo "NoKind") rfl)
  g_NoName := He.glo_ok X G (c.fact 31 (f := .glo "NoName") rfl)
  g_PoolError := He.glo_ok X G (c.fact 32 (f := .glo "PoolError") rfl)
  n_ValueError := He.free_ok X G (c.fact 33 (f := .free "ValueError") rfl)
  n_isinstance := He.free_ok X G (c.fact 34 (f := .free "isinstance") rfl)
  n_len := He.free_ok X G (c.fact 35 (f := .free "len") rfl)
  n_list := He.free_ok X G (c.fact 36 (f := .free "list") rfl)
  n_max := He.free_ok X G (c.fact 37 (f := .free "max") rfl)
  n_range := He.free_ok X G (c.fact 38 (f := .free "range") rfl)
  n_str := He.free_ok X G (c.fact 39 (f := .free "str") rfl)
  n_tuple := He.free_ok X G (c.fact 40 (f := .free "tuple") rfl)
  s_FIGURES := He.str_ok X G (c.fact 41 (f := .str "FIGURES" "0123456789") rfl)
  s_GREAT := He.str_ok X G (c.fact 42 (f := .str "GREAT" "ABCDEFGHIJKLMNOPQRSTUVWXYZ") rfl)
  s_SIGNS := He.str_ok X G (c.fact 43 (f := .str "SIGNS" "(),;:=-") rfl)
  s_SMALL := He.str_ok X G (c.fact 44 (f := .str "SMALL" "abcdefghijklmnopqrstuvwxyz") rfl)
  g_NoLine := He.glo_ok X G (c.fact 45 (f := .glo "NoLine") rfl)
  x_NoLine := c.fact 46 (f := .exc "NoLine") rfl
theorem atlaw {l : PySem.W.OpenLaw} {w : World} {K : Fg} {h : Heap} {mg : Str → Option Value} {f : Addr} (X : K.In h) (G : h.Ns mainGlobals mg) (hfa : mg ("law" : Str) = some (.ref f)) (c : He.SaysD fa fn K) (cx : (fx.all fun f => f K) = true) :
    ∃ fd : FuncData, (∀ (s : Shared) (v : Value), BindsTo s fd ⟨[v], []⟩ [("_law_script", v)]) ∧ ∀ base : Heap, K.In base → base.Ns mainGlobals mg → FnOk l.prog w K mg base (L2.CX l.prog w) 7 f fd ["_law_script"] (sp1 K m_law) := by
  have T := facts X G c cx
  obtain ⟨fd, F⟩ := T.f_law
  have e := hfa.symm.trans T.g_law
  cases e
  have b := FunD.bindsA (ps := ["_law_script"]) F fun _ _ _ _ _ _ us hl => match us, hl with | [_], _ => rfl
  exact ⟨fd, fun s v => b s [v] rfl, fun base _ _ => ok_law T F⟩
theorem ends {K : Fg} (hl : ∀ ns : List Int, ns.length ≤ 63 → m_law ns = pure true) (H : Hp) (a : Addr) (ns : List Int) (hn : ns.length ≤ 63) (hS : SqL K H a (ns.map V.int)) : sp1 K m_law [.ref a] H (fun v _ => v = .bl true) fun _ _ _ => False :=
  ⟨ns, .ref a, H, rfl, Same.refl _, ⟨a, _, rfl, hS, rl_ints ns⟩, by rw [hl ns hn]; exact fun _ _ _ v r => r⟩
end Q
open PySem PySem.W PySem.Calls PyProof.Rows
theorem Q.done (hl : ∀ ns : List Int, ns.length ≤ 63 → Q.m_law ns = pure true) : PySem.Challenge.rw_poolrules_k03_rows_of_facts_read.Holds := by
  w_on; o_law
  refine HandSHeadRun.head_any (r := OpenLaw.row PySem.Challenge.rw_poolrules_k03_rows_of_facts_read) (q := view (OpenLaw.row PySem.Challenge.rw_poolrules_k03_rows_of_facts_read).prog [39]) (H := Q.hk) (ob := Q.ob) (M := 4000) (loose := Q.loose) (d := HandSHeadRun.topDef (OpenLaw.row PySem.Challenge.rw_poolrules_k03_rows_of_facts_read).prog 39) (kwd := []) Q.ob_eq
    (by kernel_rfl) (fun s => by kernel_rfl) Q.run (by kernel_rfl) (by kernel_rfl) (by kernel_rfl) (by rfl) (by first | assumption | decide +kernel) (by decide +kernel) ⟨rfl, rfl, rfl, rfl, rfl, by decide +kernel⟩ ?hw ?hc
  case hw => w_witness2
  case hc =>
    refine G.walkE (l := PySem.Challenge.rw_poolrules_k03_rows_of_facts_read) (n := 63) (k := 7) (x := "_law_script") (CX := fun w => L2.CX (PySem.Challenge.rw_poolrules_k03_rows_of_facts_read).prog w) rfl (by decide) (by kernel_rfl) ⟨rfl, by decide, by decide⟩ ?F (fun _ _ _ _ _ z => G.cx_false z)
    intro w mg fa h Y Gg hmg0
    obtain ⟨K, KX, c, cx⟩ := Y
    have hmg : mg ("law" : PySem.Str) = some (.ref fa) := by
      have e : (HandSHeadRun.topDef (OpenLaw.row PySem.Challenge.rw_poolrules_k03_rows_of_facts_read).prog 39).name = ("law" : PySem.Str) := by kernel_rfl
      rw [← e]
      exact hmg0
    obtain ⟨fd, hb, hF⟩ := Q.atlaw (l := PySem.Challenge.rw_poolrules_k03_rows_of_facts_read) (w := w) KX Gg hmg c cx
    exact ⟨K, fd, G.sp1 K Q.m_law, KX, hb, fun H a ns hl0 _ hS => Q.ends hl H a ns hl0 hS, hF⟩

set_option maxHeartbeats 4000000
theorem PySem.Challenge.cw_poolrules_k03_rows_of_facts_read_holds : PySem.Challenge.rw_poolrules_k03_rows_of_facts_read.Holds := by
  exact Q.done Q.law_ok
#print axioms PySem.Challenge.cw_poolrules_k03_rows_of_facts_read_holds
