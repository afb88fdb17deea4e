import PyProof.Rows.All
import Wide.All
import OpenK.AllK
import Wide.FinOn
import KE.KStateDown
import Lean
import HandS.ForMost
import HandS.ForExc
import HandS.IsInst
import HandS.Steps
import HandS.Defaults
import HandS.Head0
import HandS.Head1
import HandS.Head2
import HandS.HeadEnd
import HandS.HeadHook1
import HandS.HeadHook2
import PySem.Challenge.RW_poolrules_k02_a_fact_written_and_read
set_option Elab.async false
set_option linter.all false
set_option maxRecDepth 100000
set_option maxHeartbeats 2000000
namespace G
open PySem L2

/-! ### the monad of the mirrors: a raise by its class, or stuck -/
inductive Er where
  | rs (c : Str)
  | st
abbrev M := Except Er
abbrev Fg := PySem.W.Frag
abbrev Tx := List Nat
def S (l : Tx) : Str := ⟨l.toArray⟩
def Tup (α : Type) := List α
def raise {α : Type} (c : Str) : M α := .error (.rs c)
def stuck {α : Type} : M α := .error .st
def chk (p : Prop) [Decidable p] : M Unit := if p then pure () else .error .st
def ofO {α : Type} : Option α → M α
  | some a => pure a
  | none => .error .st
abbrev SZ : Nat := sizeLine

/-! ### data over the heap -/
class Py (α : Type) where
  rep : Fg → Hp → α → V → Prop
  mono : ∀ {K : Fg} {H H' : Hp} {a : α} {v : V}, Same H H' → rep K H a v → rep K H' a v
structure Pr where
  r : Hp → V → Prop
  m : ∀ {H H' : Hp} {v : V}, Same H H' → r H v → r H' v
def rp (K : Fg) {α : Type} [Py α] (a : α) : Pr := ⟨fun H v => Py.rep K H a v, fun e h => Py.mono e h⟩
structure Ct where
  r : Hp → HO → Prop
  m : ∀ {H H' : Hp} {o : HO}, Same H H' → r H o → r H' o
inductive En where
  | no
  | im (p : Pr)
  | mu (c : Ct)

theorem sqt_mono {K : Fg} {H H' : Hp} {a : Addr} {xs : List V} (e : Same H H') (h : SqT K H a xs) : SqT K H' a xs := by
  rcases h with (h | ⟨o, h⟩) | h
  · exact .inl (.inl (e _ _ h))
  · exact .inl (.inr ⟨o, e _ _ h⟩)
  · exact .inr h
def Rl (K : Fg) (H : Hp) {α : Type} [Py α] (xs : List α) (vs : List V) : Prop := Paired (fun a v => Py.rep K H a v) xs vs
theorem Rl.mono {K : Fg} {H H' : Hp} {α : Type} [Py α] {xs : List α} {vs : List V} (e : Same H H') (h : Rl K H xs vs) : Rl K H' xs vs := Paired.mapP h fun _ _ r => Py.mono e r

instance : Py Int := ⟨fun _ _ i v => v = .int i, fun _ h => h⟩
instance : Py Bool := ⟨fun _ _ i v => v = .bl i, fun _ h => h⟩
instance : Py Unit := ⟨fun _ _ _ v => v = .non, fun _ h => h⟩
instance instPyList {α : Type} [Py α] : Py (List α) := ⟨fun K H xs v => ∃ p vs, v = .ref p ∧ SqL K H p vs ∧ Rl K H xs vs, fun e ⟨p, vs, h1, h2, h3⟩ => ⟨p, vs, h1, Same.seq e h2, h3.mono e⟩⟩
instance instPyTx : Py Tx := ⟨fun _ _ l v => v = .str (S l), fun _ h => h⟩
instance instPyTup {α : Type} [Py α] : Py (Tup α) := ⟨fun K H xs v => ∃ p vs, v = .ref p ∧ SqT K H p vs ∧ Rl K H (α := α) xs vs, fun e ⟨p, vs, h1, h2, h3⟩ => ⟨p, vs, h1, sqt_mono e h2, h3.mono e⟩⟩
instance instPyProd {α β : Type} [Py α] [Py β] : Py (α × β) := ⟨fun K H x v => ∃ p v1 v2, v = .ref p ∧ SqT K H p [v1, v2] ∧ Py.rep K H x.1 v1 ∧ Py.rep K H x.2 v2,
  fun e ⟨p, v1, v2, h1, h2, h3, h4⟩ => ⟨p, v1, v2, h1, sqt_mono e h2, Py.mono e h3, Py.mono e h4⟩⟩
instance instPyOption {α : Type} [Py α] : Py (Option α) := ⟨fun K H x v => match x with
    | none => v = .non
    | some a => Py.rep K H a v, fun {K H H' a v} e h => by
  cases a with
  | none => exact h
  | some a => exact Py.mono (α := α) e h⟩
structure T3 (α β γ : Type) where
  a : α
  b : β
  c : γ
  deriving DecidableEq
instance instPyT3 {α β γ : Type} [Py α] [Py β] [Py γ] : Py (T3 α β γ) := ⟨fun K H x v => ∃ p v1 v2 v3, v = .ref p ∧ SqT K H p [v1, v2, v3] ∧ Py.rep K H x.a v1 ∧ Py.rep K H x.b v2 ∧ Py.rep K H x.c v3,
  fun e ⟨p, v1, v2, v3, h1, h2, h3, h4, h5⟩ => ⟨p, v1, v2, v3, h1, sqt_mono e h2, Py.mono e h3, Py.mono e h4, Py.mono e h5⟩⟩
structure T4 (α β γ δ : Type) where
  a : α
  b : β
  c : γ
  d : δ
  deriving DecidableEq
instance instPyT4 {α β γ δ : Type} [Py α] [Py β] [Py γ] [Py δ] : Py (T4 α β γ δ) := ⟨fun K H x v => ∃ p v1 v2 v3 v4, v = .ref p ∧ SqT K H p [v1, v2, v3, v4] ∧ Py.rep K H x.a v1 ∧ Py.rep K H x.b v2 ∧ Py.rep K H x.c v3 ∧ Py.rep K H x.d v4,
  fun e ⟨p, v1, v2, v3, v4, h1, h2, h3, h4, h5, h6⟩ => ⟨p, v1, v2, v3, v4, h1, sqt_mono e h2, Py.mono e h3, Py.mono e h4, Py.mono e h5, Py.mono e h6⟩⟩

/-! ### heaps: what is told for good (Hi) within what stands (H) -/
structure Bs where
  Hi : Hp
  H : Hp
  own : List Addr
structure Ok (b : Bs) (Hi H : Hp) : Prop where
  sub : Same Hi H
  base : Same b.Hi Hi
  fr : ∀ a o, a ∉ b.own → b.H a = some o → H a = some o
  keep : ∀ a, b.H a ≠ none → H a ≠ none
  cap : ∀ a, b.H a ≠ none → b.Hi a = none → Hi a = none
structure Nx (Hi H Hi' H' : Hp) : Prop where
  im : Same Hi Hi'
  al : Same H H'
  sub : Same Hi' H'
  cap : ∀ a, H a ≠ none → Hi a = none → Hi' a = none
theorem Nx.refl {Hi H : Hp} (s : Same Hi H) : Nx Hi H Hi H := ⟨Same.refl _, Same.refl _, s, fun _ _ h => h⟩
theorem some_ne {H H' : Hp} (e : Same H H') {a : Addr} (h : H a ≠ none) : H' a ≠ none := by
  cases q : H a with
  | none => exact absurd q h
  | some o => rw [e a o q]; exact fun z => nomatch z
theorem Nx.trans {Hi H Hi1 H1 Hi2 H2 : Hp} (x : Nx Hi H Hi1 H1) (y : Nx Hi1 H1 Hi2 H2) : Nx Hi H Hi2 H2 :=
  ⟨x.im.trans y.im, x.al.trans y.al, y.sub, fun a h n => y.cap a (some_ne x.al h) (x.cap a h n)⟩
theorem same_new {H : Hp} {p : Addr} {o : HO} (h : H p = none) : Same H (upd H p o) := fun a u e => by
  rw [upd_ne (ne_of_none e h)]
  exact e
theorem hi_none {Hi H : Hp} (s : Same Hi H) {p : Addr} (h : H p = none) : Hi p = none := by
  cases q : Hi p with
  | none => rfl
  | some o => rw [s p o q] at h; cases h
theorem same_upd {Hi H : Hp} (s : Same Hi H) {p : Addr} {o : HO} : Same (upd Hi p o) (upd H p o) := fun a u e => by
  by_cases h : a = p
  · subst h
    rw [upd_same] at e ⊢
    exact e
  · rw [upd_ne h] at e ⊢
    exact s a u e
theorem Nx.new {Hi H : Hp} (s : Same Hi H) {p : Addr} {o : HO} (h : H p = none) : Nx Hi H (upd Hi p o) (upd H p o) :=
  ⟨same_new (hi_none s h), same_new h, same_upd s, fun a ha hn => by
    rw [upd_ne (fun e => ha (by rw [e]; exact h))]
    exact hn⟩
/-- a new object that is not told for good -/
theorem Nx.temp {Hi H : Hp} (s : Same Hi H) {p : Addr} {o : HO} (h : H p = none) : Nx Hi H Hi (upd H p o) :=
  ⟨Same.refl _, same_new h, s.trans (same_new h), fun _ _ hn => hn⟩
theorem Ok.nx {b : Bs} {Hi H Hi' H' : Hp} (o : Ok b Hi H) (x : Nx Hi H Hi' H') : Ok b Hi' H' :=
  ⟨x.sub, o.base.trans x.im, fun a u n h => x.al a u (o.fr a u n h), fun a h => some_ne x.al (o.keep a h), fun a h n => x.cap a (o.keep a h) (o.cap a h n)⟩
/-- an own or a new object is changed -/
theorem Ok.mut {b : Bs} {Hi H : Hp} (o : Ok b Hi H) {a : Addr} {u : HO} (hn : Hi a = none) (hb : a ∈ b.own ∨ b.H a = none) : Ok b Hi (upd H a u) where
  sub := fun c w h => by
    rw [upd_ne (ne_of_none h hn)]
    exact o.sub c w h
  base := o.base
  fr := fun c w n h => by
    have hc : c ≠ a := by
      rintro rfl
      rcases hb with z | z
      · exact n z
      · rw [z] at h; cases h
    rw [upd_ne hc]
    exact o.fr c w n h
  keep := fun c h => by
    by_cases hc : c = a
    · subst hc; rw [upd_same]; exact fun z => nomatch z
    · rw [upd_ne hc]; exact o.keep c h
  cap := o.cap

structure EnvOk (b : Bs) (L : List En) (σ : L2.St) (Hi H : Hp) : Prop where
  ok : Ok b Hi H
  len : σ.length = L.length
  im : ∀ (i : Nat) (p : Pr), L[i]? = some (.im p) → ∃ v : V, σ[i]? = some (some v) ∧ p.r Hi v
  mu : ∀ (i : Nat) (c : Ct), L[i]? = some (.mu c) → ∃ (a : Addr) (o : HO), σ[i]? = some (some (V.ref a)) ∧ H a = some o ∧ Hi a = none ∧ (a ∈ b.own ∨ b.H a = none) ∧ c.r Hi o
  dis : ∀ (i j : Nat) (c d : Ct) (a : Addr), L[i]? = some (.mu c) → L[j]? = some (.mu d) → σ[i]? = some (some (.ref a)) → σ[j]? = some (some (.ref a)) → i = j
section
variable {b : Bs} {L L' : List En} {σ : L2.St} {Hi H Hi' H' : Hp}
theorem EnvOk.nx (e : EnvOk b L σ Hi H) (x : Nx Hi H Hi' H') : EnvOk b L σ Hi' H' where
  ok := e.ok.nx x
  len := e.len
  im := fun i p h => let ⟨v, h1, h2⟩ := e.im i p h; ⟨v, h1, p.m x.im h2⟩
  mu := fun i c h => let ⟨a, o, h1, h2, h3, h4, h5⟩ := e.mu i c h; ⟨a, o, h1, x.al _ _ h2, x.cap a (by rw [h2]; exact fun z => nomatch z) h3, h4, c.m x.im h5⟩
  dis := e.dis
theorem EnvOk.sub (e : EnvOk b L σ Hi H) : Same Hi H := e.ok.sub
theorem EnvOk.rf (e : EnvOk b L σ Hi H) : Nx Hi H Hi H := Nx.refl e.ok.sub

inductive Wk : List En → List En → Prop where
  | nil : Wk [] []
  | s {e : En} {L L' : List En} (h : Wk L L') : Wk (e :: L) (e :: L')
  | n {e : En} {L L' : List En} (h : Wk L L') : Wk (e :: L) (.no :: L')
theorem Wk.refl : ∀ L : List En, Wk L L
  | [] => .nil
  | _ :: r => .s (Wk.refl r)
theorem Wk.length {L L' : List En} (w : Wk L L') : L'.length = L.length := by
  induction w with
  | nil => rfl
  | s _ ih => simp [ih]
  | n _ ih => simp [ih]
theorem Wk.get {L L' : List En} (w : Wk L L') : ∀ {i : Nat} {e : En}, L'[i]? = some e → e = .no ∨ L[i]? = some e := by
  induction w with
  | nil => intro i e h; simp at h
  | s _ ih =>
    intro i e h
    cases i with
    | zero => exact .inr h
    | succ i => exact ih (i := i) (by simpa using h)
  | n _ ih =>
    intro i e h
    cases i with
    | zero =>
      have : En.no = e := by simpa using h
      exact .inl this.symm
    | succ i => exact ih (i := i) (by simpa using h)
theorem EnvOk.wk (e : EnvOk b L σ Hi H) (w : Wk L L') : EnvOk b L' σ Hi H where
  ok := e.ok
  len := e.len.trans w.length.symm
  im := fun i p h => (w.get h).elim (fun z => nomatch z) (e.im i p)
  mu := fun i c h => (w.get h).elim (fun z => nomatch z) (e.mu i c)
  dis := fun i j c d a h1 h2 h3 h4 => (w.get h1).elim (fun z => nomatch z) fun g1 => (w.get h2).elim (fun z => nomatch z) fun g2 => e.dis i j c d a g1 g2 h3 h4
theorem EnvOk.set {i : Nat} {p : Pr} {v : V} (e : EnvOk b L σ Hi H) (r : p.r Hi v) : EnvOk b (L.set i (.im p)) (σ.set i (some v)) Hi H where
  ok := e.ok
  len := by rw [List.length_set, List.length_set]; exact e.len
  im := fun j q h => by
    by_cases hj : i = j
    · subst hj
      have hl : i < (L.set i (En.im p)).length := (List.getElem?_eq_some_iff.mp h).1
      rw [List.length_set] at hl
      rw [List.getElem?_set_self hl] at h
      cases h
      exact ⟨v, List.getElem?_set_self (by rw [e.len]; exact hl), r⟩
    · rw [List.getElem?_set_ne hj] at h ⊢
      exact e.im j q h
  mu := fun j c h => by
    by_cases hj : i = j
    · subst hj
      have hl : i < (L.set i (En.im p)).length := (List.getElem?_eq_some_iff.mp h).1
      rw [List.length_set] at hl
      rw [List.getElem?_set_self hl] at h
      cases h
    · rw [List.getElem?_set_ne hj] at h ⊢
      exact e.mu j c h
  dis := fun j k c d a h1 h2 h3 h4 => by
    have ne : ∀ {j : Nat} {c : Ct}, (L.set i (En.im p))[j]? = some (.mu c) → i ≠ j := fun {j c} h z => by
      subst z
      have hl : i < (L.set i (En.im p)).length := (List.getElem?_eq_some_iff.mp h).1
      rw [List.length_set] at hl
      rw [List.getElem?_set_self hl] at h
      cases h
    have n1 := ne h1
    have n2 := ne h2
    rw [List.getElem?_set_ne n1] at h1 h3
    rw [List.getElem?_set_ne n2] at h2 h4
    exact e.dis j k c d a h1 h2 h3 h4
/-- a new object, held by the name alone -/
theorem EnvOk.setNew {i : Nat} {c : Ct} {p : Addr} {o : HO} (e : EnvOk b L σ Hi H) (hp : H p = none) (r : c.r Hi o) : EnvOk b (L.set i (.mu c)) (σ.set i (some (.ref p))) Hi (upd H p o) := by
  have x : Nx Hi H Hi (upd H p o) := Nx.temp e.sub hp
  have e1 := e.nx x
  have hpi : Hi p = none := hi_none e.sub hp
  have hpb : b.H p = none := by
    cases q : b.H p with
    | none => rfl
    | some u => exact absurd hp (e.ok.keep p (by rw [q]; exact fun z => nomatch z))
  have old : ∀ {j : Nat} {d : Ct} {a : Addr}, L[j]? = some (.mu d) → σ[j]? = some (some (.ref a)) → a ≠ p := fun {j d a} h1 h2 z => by
    obtain ⟨a', o', g1, g2, _⟩ := e.mu j d h1
    rw [h2] at g1
    cases g1
    rw [z, hp] at g2
    cases g2
  have hi : ∀ {j : Nat}, i = j → ∀ {en : En}, (L.set i (En.mu c))[j]? = some en → en = .mu c ∧ i < L.length := fun {j} hj {en} h => by
    subst hj
    have hl : i < (L.set i (En.mu c)).length := (List.getElem?_eq_some_iff.mp h).1
    rw [List.length_set] at hl
    rw [List.getElem?_set_self hl] at h
    cases h
    exact ⟨rfl, hl⟩
  refine ⟨e1.ok, by rw [List.length_set, List.length_set]; exact e.len, fun j q h => ?_, fun j d h => ?_, fun j k d f a h1 h2 h3 h4 => ?_⟩
  · by_cases hj : i = j
    · exact nomatch (hi hj h).1
    · rw [List.getElem?_set_ne hj] at h ⊢
      exact e1.im j q h
  · by_cases hj : i = j
    · obtain ⟨h5, h6⟩ := hi hj h
      cases h5
      subst hj
      exact ⟨p, o, List.getElem?_set_self (by rw [e.len]; exact h6), upd_same, hpi, .inr hpb, r⟩
    · rw [List.getElem?_set_ne hj] at h ⊢
      exact e1.mu j d h
  · by_cases hj : i = j
    · by_cases hk : i = k
      · exact hj.symm.trans hk
      · obtain ⟨_, h6⟩ := hi hj h1
        subst hj
        rw [List.getElem?_set_self (by rw [e.len]; exact h6)] at h3
        cases h3
        rw [List.getElem?_set_ne hk] at h2 h4
        exact absurd rfl (old h2 h4)
    · by_cases hk : i = k
      · obtain ⟨_, h6⟩ := hi hk h2
        subst hk
        rw [List.getElem?_set_self (by rw [e.len]; exact h6)] at h4
        cases h4
        rw [List.getElem?_set_ne hj] at h1 h3
        exact absurd rfl (old h1 h3)
      · rw [List.getElem?_set_ne hj] at h1 h3
        rw [List.getElem?_set_ne hk] at h2 h4
        exact e.dis j k d f a h1 h2 h3 h4
/-- the object that a name holds alone is changed -/
theorem EnvOk.mut {i : Nat} {c c' : Ct} {a : Addr} {o' : HO} (e : EnvOk b L σ Hi H) (hL : L[i]? = some (.mu c)) (hs : σ[i]? = some (some (.ref a))) (r : c'.r Hi o') : EnvOk b (L.set i (.mu c')) σ Hi (upd H a o') := by
  obtain ⟨a', o, g1, g2, g3, g4, g5⟩ := e.mu i c hL
  rw [hs] at g1
  cases g1
  have hl : i < L.length := (List.getElem?_eq_some_iff.mp hL).1
  have ne : ∀ {j : Nat} {d : Ct} {a' : Addr}, i ≠ j → L[j]? = some (.mu d) → σ[j]? = some (some (.ref a')) → a' ≠ a := fun {j d a'} hj h1 h2 z => by
    subst z
    exact hj (e.dis i j c d a' hL h1 hs h2)
  refine ⟨e.ok.mut g3 g4, by rw [List.length_set]; exact e.len, fun j q h => ?_, fun j d h => ?_, fun j k d f a' h1 h2 h3 h4 => ?_⟩
  · by_cases hj : i = j
    · subst hj
      rw [List.getElem?_set_self hl] at h
      cases h
    · rw [List.getElem?_set_ne hj] at h
      exact e.im j q h
  · by_cases hj : i = j
    · subst hj
      rw [List.getElem?_set_self hl] at h
      cases h
      exact ⟨a, o', hs, upd_same, g3, g4, r⟩
    · rw [List.getElem?_set_ne hj] at h
      obtain ⟨a2, o2, k1, k2, k3, k4, k5⟩ := e.mu j d h
      exact ⟨a2, o2, k1, by rw [upd_ne (ne hj h k1)]; exact k2, k3, k4, k5⟩
  · have back : ∀ {j : Nat} {d : Ct}, (L.set i (En.mu c'))[j]? = some (.mu d) → ∃ d', L[j]? = some (.mu d') := fun {j d} h => by
      by_cases hj : i = j
      · subst hj; exact ⟨c, hL⟩
      · rw [List.getElem?_set_ne hj] at h; exact ⟨d, h⟩
    obtain ⟨d1, q1⟩ := back h1
    obtain ⟨d2, q2⟩ := back h2
    exact e.dis j k d1 d2 a' q1 q2 h3 h4
/-- what a name holds alone is told for good -/
theorem EnvOk.frz {i : Nat} {c : Ct} {p : Pr} (e : EnvOk b L σ Hi H) (hL : L[i]? = some (.mu c)) (hn : b.own = []) (r : ∀ (a : Addr) (Hi' : Hp) (o : HO), Same Hi Hi' → c.r Hi o → Hi' a = some o → p.r Hi' (.ref a)) : ∃ Hi', EnvOk b (L.set i (.im p)) σ Hi' H := by
  obtain ⟨a, o, g1, g2, g3, g4, g5⟩ := e.mu i c hL
  have hl : i < L.length := (List.getElem?_eq_some_iff.mp hL).1
  have g6 : b.H a = none := by
    rcases g4 with z | z
    · rw [hn] at z; cases z
    · exact z
  have sm : Same Hi (upd Hi a o) := same_new g3
  refine ⟨upd Hi a o, ⟨⟨fun d u h => ?_, e.ok.base.trans sm, e.ok.fr, e.ok.keep, fun d h n => ?_⟩, by rw [List.length_set]; exact e.len, fun j q h => ?_, fun j d h => ?_, fun j k d f a' h1 h2 h3 h4 => ?_⟩⟩
  · by_cases hd : d = a
    · subst hd; rw [upd_same] at h; cases h; exact g2
    · rw [upd_ne hd] at h; exact e.ok.sub d u h
  · have hd : d ≠ a := fun z => h (by rw [z]; exact g6)
    rw [upd_ne hd]; exact e.ok.cap d h n
  · by_cases hj : i = j
    · subst hj
      rw [List.getElem?_set_self hl] at h
      cases h
      exact ⟨_, g1, r a _ o sm g5 upd_same⟩
    · rw [List.getElem?_set_ne hj] at h
      obtain ⟨v, k1, k2⟩ := e.im j q h
      exact ⟨v, k1, q.m sm k2⟩
  · by_cases hj : i = j
    · subst hj
      rw [List.getElem?_set_self hl] at h
      cases h
    · rw [List.getElem?_set_ne hj] at h
      obtain ⟨a2, o2, k1, k2, k3, k4, k5⟩ := e.mu j d h
      have hne : a2 ≠ a := fun z => by
        subst z
        exact hj (e.dis i j c d a2 hL h g1 k1)
      exact ⟨a2, o2, k1, k2, by rw [upd_ne hne]; exact k3, k4, d.m sm k5⟩
  · have back : ∀ {j : Nat} {d : Ct}, (L.set i (En.im p))[j]? = some (.mu d) → L[j]? = some (.mu d) := fun {j d} h => by
      by_cases hj : i = j
      · subst hj
        rw [List.getElem?_set_self hl] at h
        cases h
      · rw [List.getElem?_set_ne hj] at h; exact h
    exact e.dis j k d f a' (back h1) (back h2) h3 h4
end

/-! ### what is wanted behind a computation -/
def PX (K : Fg) (E : XK) {α : Type} (m : M α) (Hi H : Hp) (k : α → Hp → Hp → Prop) : Prop := match m with
  | .ok a => ∀ Hi' H', Nx Hi H Hi' H' → k a Hi' H'
  | .error (.rs c) => ∀ Hi' H', Nx Hi H Hi' H' → E (.ref (He.ga K c)) none H'
  | .error .st => False
section
variable {K : Fg} {E : XK} {α β : Type} {m : M α} {f : α → M β} {Hi H Hi' H' : Hp}
theorem PX.nx {k : α → Hp → Hp → Prop} (x : Nx Hi H Hi' H') (h : PX K E m Hi H k) : PX K E m Hi' H' k := by
  cases m with
  | ok a => exact fun _ _ y => h _ _ (x.trans y)
  | error e =>
    cases e with
    | rs c => exact fun _ _ y => h _ _ (x.trans y)
    | st => exact h
theorem PX.bind {k : β → Hp → Hp → Prop} (h : PX K E (m >>= f) Hi H k) : PX K E m Hi H fun a Hi' H' => PX K E (f a) Hi' H' k := by
  cases m with
  | ok a => exact fun _ _ y => PX.nx (m := f a) y h
  | error e =>
    cases e with
    | rs c => exact h
    | st => exact h
theorem PX.imp {k k' : α → Hp → Hp → Prop} (h : PX K E m Hi H k) (i : ∀ a Hi' H', Nx Hi H Hi' H' → k a Hi' H' → k' a Hi' H') : PX K E m Hi H k' := by
  cases m with
  | ok a => exact fun _ _ y => i a _ _ y (h _ _ y)
  | error e =>
    cases e with
    | rs c => exact h
    | st => exact h
theorem PX.chk {p : Prop} [Decidable p] {g : Unit → M β} {k : β → Hp → Hp → Prop} (h : PX K E (chk p >>= g) Hi H k) : p ∧ PX K E (g ()) Hi H k := by
  unfold G.chk at h
  by_cases hp : p
  · rw [if_pos hp] at h; exact ⟨hp, h⟩
  · rw [if_neg hp] at h; exact h.elim
theorem PX.ofO {o : Option α} {g : α → M β} {k : β → Hp → Hp → Prop} (h : PX K E (ofO o >>= g) Hi H k) : ∃ a, o = some a ∧ PX K E (g a) Hi H k := by
  cases o with
  | none => exact h.elim
  | some a => exact ⟨a, rfl, h⟩
theorem PX.ofO1 {o : Option α} {k : α → Hp → Hp → Prop} (h : PX K E (G.ofO o) Hi H k) : ∃ a, o = some a ∧ PX K E (pure a) Hi H k := by
  cases o with
  | none => exact h.elim
  | some a => exact ⟨a, rfl, h⟩
end
/-- behind an expression -/
abbrev PV (K : Fg) (E : XK) {α : Type} [Py α] (m : M α) (Hi H : Hp) (Q : VK) : Prop := PX K E m Hi H fun a Hi' H' => ∀ v, Py.rep K Hi' a v → Q v H'

/-- the weakest readings -/
def wpE (X : Cx) (e : Expr) : TE := fun σ H Q => ∀ (pins : List (Addr × Obj)) (s : Shared), Inv X pins σ H s → wpAny (model X.prog X.w) X.A (eval e X.env) (EP X pins σ Q) X.xe s
def wpT (X : Cx) (e : Expr) : TT := fun σ H Q => ∀ (pins : List (Addr × Obj)) (s : Shared), Inv X pins σ H s → wpAny (model X.prog X.w) X.A (isTrue e X.env (eval e X.env)) (TP X pins σ Q) X.xe s
def wpW (X : Cx) (e : Expr) : TT := fun σ H Q => ∀ (whole : Sem Value) (pins : List (Addr × Obj)) (s : Shared), Inv X pins σ H s → wpAny (model X.prog X.w) X.A (isTrue e X.env whole) (TP X pins σ Q) X.xe s
def wpA (X : Cx) (es : List Expr) : TA := fun σ H Q => ∀ (pos : Pos) (pins : List (Addr × Obj)) (s : Shared), Inv X pins σ H s → wpAny (model X.prog X.w) X.A (spliced (backTo pos (starEach es X.env))) (AP X pins σ Q) X.xe s
def wpI (X : Cx) (tg iter : Expr) : TI := fun σ H R => ∀ (pins : List (Addr × Obj)) (s : Shared), Inv X pins σ H s → wpAny (model X.prog X.w) X.A (eval iter X.env) (fun v s1 => wpAny (model X.prog X.w) X.A (pyIter v) (PIE X pins σ tg R) X.xe s1) X.xe s
def wpS (X : Cx) (st : Stmt) : TS := fun D σ H => ∀ (pins : List (Addr × Obj)) (s : Shared), Inv X pins σ H s → wpAny (model X.prog X.w) X.A (exec st X.env) (SP X pins D) X.xe s
def wpB (X : Cx) (st : List Stmt) : TS := fun D σ H => ∀ (pins : List (Addr × Obj)) (s : Shared), Inv X pins σ H s → wpAny (model X.prog X.w) X.A (execs st X.env) (SP X pins D) X.xe s
def wpO (X : Cx) (e : Option Expr) : TO := fun σ H Q => ∀ (pins : List (Addr × Obj)) (s : Shared), Inv X pins σ H s → wpAny (model X.prog X.w) X.A (evalPart e X.env) (fun u s' => ∃ o H', Inv X pins σ H' s' ∧ IsPart u o ∧ Q o H') X.xe s
section
variable {X : Cx}
theorem pe_wp {e : Expr} : PE X e (wpE X e) := ⟨fun pins s _ _ _ I h => h pins s I⟩
theorem pt_wp {e : Expr} : PT X e (wpT X e) := ⟨fun pins s _ _ _ I h => h pins s I⟩
theorem pw_wp {e : Expr} : PW X e (wpW X e) := ⟨fun whole pins s _ _ _ I h => h whole pins s I⟩
theorem pa_wp {es : List Expr} : PA X es (wpA X es) := ⟨fun pos pins s _ _ _ I h => h pos pins s I⟩
theorem pi_wp {tg iter : Expr} : PI X tg iter (wpI X tg iter) := ⟨fun pins s _ _ _ I h => h pins s I⟩
theorem ps_wp {st : Stmt} : PS X st (wpS X st) := ⟨fun pins s _ _ _ I h => h pins s I⟩
theorem pss_wp {st : List Stmt} : PSs X st (wpB X st) := ⟨fun pins s _ _ _ I h => h pins s I⟩
theorem po_wp {e : Option Expr} : PO X e (wpO X e) := ⟨fun pins s _ _ _ I h => h pins s I⟩
theorem PE.wp {e : Expr} {t : TE} {σ : L2.St} {H : Hp} {Q : VK} (d : PE X e t) (h : t σ H Q) : wpE X e σ H Q := fun pins s I => d.run pins s σ H Q I h
theorem PT.wp {e : Expr} {t : TT} {σ : L2.St} {H : Hp} {Q : Bool → Hp → Prop} (d : PT X e t) (h : t σ H Q) : wpT X e σ H Q := fun pins s I => d.run pins s σ H Q I h
theorem PW.wp {e : Expr} {t : TT} {σ : L2.St} {H : Hp} {Q : Bool → Hp → Prop} (d : PW X e t) (h : t σ H Q) : wpW X e σ H Q := fun whole pins s I => d.run whole pins s σ H Q I h
theorem PA.wp {es : List Expr} {t : TA} {σ : L2.St} {H : Hp} {Q : List V → Hp → Prop} (d : PA X es t) (h : t σ H Q) : wpA X es σ H Q := fun pos pins s I => d.run pos pins s σ H Q I h
theorem PI.wp {tg iter : Expr} {t : TI} {σ : L2.St} {H : Hp} {R : It → Hp → Prop} (d : PI X tg iter t) (h : t σ H R) : wpI X tg iter σ H R := fun pins s I => d.run pins s σ H R I h
theorem PS.wp {st : Stmt} {t : TS} {σ : L2.St} {H : Hp} {D : Ends} (d : PS X st t) (h : t D σ H) : wpS X st D σ H := fun pins s I => d.run pins s σ H D I h
theorem PSs.wp {st : List Stmt} {t : TS} {σ : L2.St} {H : Hp} {D : Ends} (d : PSs X st t) (h : t D σ H) : wpB X st D σ H := fun pins s I => d.run pins s σ H D I h
theorem PO.wp {e : Option Expr} {t : TO} {σ : L2.St} {H : Hp} {Q : Option Int → Hp → Prop} (d : PO X e t) (h : t σ H Q) : wpO X e σ H Q := fun pins s I => d.run pins s σ H Q I h
end

structure JE (X : Cx) (K : Fg) (b : Bs) (L : List En) (E : XK) (e : Expr) {α : Type} [Py α] (m : M α) : Prop where
  go : ∀ σ Hi H, EnvOk b L σ Hi H → ∀ Q : VK, PV K E m Hi H Q → wpE X e σ H Q
structure JT (X : Cx) (K : Fg) (b : Bs) (L : List En) (E : XK) (e : Expr) (m : M Bool) : Prop where
  go : ∀ σ Hi H, EnvOk b L σ Hi H → ∀ Q : Bool → Hp → Prop, PX K E m Hi H (fun a _ H' => Q a H') → wpT X e σ H Q
structure JW (X : Cx) (K : Fg) (b : Bs) (L : List En) (E : XK) (e : Expr) (m : M Bool) : Prop where
  go : ∀ σ Hi H, EnvOk b L σ Hi H → ∀ Q : Bool → Hp → Prop, PX K E m Hi H (fun a _ H' => Q a H') → wpW X e σ H Q
/-- an argument list, item by item of one type -/
structure JL (X : Cx) (K : Fg) (b : Bs) (L : List En) (E : XK) (es : List Expr) {α : Type} [Py α] (m : M (List α)) : Prop where
  go : ∀ σ Hi H, EnvOk b L σ Hi H → ∀ Q : List V → Hp → Prop, PX K E m Hi H (fun xs Hi' H' => ∀ vs, Rl K Hi' xs vs → Q vs H') → wpA X es σ H Q
  len : ∀ xs, m = .ok xs → xs.length = es.length
/-- what is walked -/
structure ItOk (K : Fg) {α : Type} [Py α] (J : It) (Hi0 : Hp) (xs : List α) : Prop where
  go : ∀ (i : Nat) (y : α) (Hi H : Hp), Same Hi0 Hi → Same Hi H → xs[i]? = some y → J.go i H ∧ ∀ (x : V) (H' : Hp), J.yld i H x H' → ∃ Hi', Nx Hi H Hi' H' ∧ Py.rep K Hi' y x
  stop : ∀ (i : Nat) (Hi H : Hp), Same Hi0 Hi → Same Hi H → xs.length ≤ i → J.stop i H
structure JI (X : Cx) (K : Fg) (b : Bs) (L : List En) (E : XK) (tg iter : Expr) {α : Type} [Py α] (m : M (List α)) : Prop where
  go : ∀ σ Hi H, EnvOk b L σ Hi H → ∀ R : It → Hp → Prop, PX K E m Hi H (fun xs Hi' H' => ∀ J, ItOk K J Hi' xs → R J H') → wpI X tg iter σ H R
/-- a target: the same rule in each of these contexts -/
structure JG {ι : Type} (X : ι → Cx) (K : Fg) (tg : Expr) (sl : List Nat) {α : Type} [Py α] (u : α → List En → List En) : Prop where
  ex : ∃ g : TG, (∀ i, PG (X i) tg g) ∧ ∀ (b : Bs) (L : List En) (σ : L2.St) (Hi H : Hp) (y : α) (x : V) (Q : L2.St → Hp → Prop), EnvOk b L σ Hi H → Py.rep K Hi y x → (∀ σ', EnvOk b (u y L) σ' Hi H → wipe σ' sl = wipe σ sl → Q σ' H) → g x σ H Q
structure JO (X : Cx) (K : Fg) (b : Bs) (L : List En) (E : XK) (e : Option Expr) (m : M (Option Int)) : Prop where
  go : ∀ σ Hi H, EnvOk b L σ Hi H → ∀ Q : Option Int → Hp → Prop, PX K E m Hi H (fun o _ H' => Q o H') → wpO X e σ H Q
section
variable {X : Cx} {K : Fg} {b : Bs} {L : List En} {E : XK} {e tg : Expr} {es : List Expr} {α : Type} [Py α]
theorem JE.of {m : M α} (h : ∃ t : TE, PE X e t ∧ ∀ σ Hi H, EnvOk b L σ Hi H → ∀ Q : VK, PV K E m Hi H Q → t σ H Q) : JE X K b L E e m := let ⟨_, d, p⟩ := h; ⟨fun σ Hi H en Q z => PE.wp d (p σ Hi H en Q z)⟩
theorem JE.ex {m : M α} (h : JE X K b L E e m) : ∃ t : TE, PE X e t ∧ ∀ σ Hi H, EnvOk b L σ Hi H → ∀ Q : VK, PV K E m Hi H Q → t σ H Q := ⟨_, pe_wp, h.go⟩
theorem JT.of {m : M Bool} (h : ∃ t : TT, PT X e t ∧ ∀ σ Hi H, EnvOk b L σ Hi H → ∀ Q : Bool → Hp → Prop, PX K E m Hi H (fun a _ H' => Q a H') → t σ H Q) : JT X K b L E e m := let ⟨_, d, p⟩ := h; ⟨fun σ Hi H en Q z => PT.wp d (p σ Hi H en Q z)⟩
theorem JT.ex {m : M Bool} (h : JT X K b L E e m) : ∃ t : TT, PT X e t ∧ ∀ σ Hi H, EnvOk b L σ Hi H → ∀ Q : Bool → Hp → Prop, PX K E m Hi H (fun a _ H' => Q a H') → t σ H Q := ⟨_, pt_wp, h.go⟩
theorem JW.of {m : M Bool} (h : ∃ t : TT, PW X e t ∧ ∀ σ Hi H, EnvOk b L σ Hi H → ∀ Q : Bool → Hp → Prop, PX K E m Hi H (fun a _ H' => Q a H') → t σ H Q) : JW X K b L E e m := let ⟨_, d, p⟩ := h; ⟨fun σ Hi H en Q z => PW.wp d (p σ Hi H en Q z)⟩
theorem JW.ex {m : M Bool} (h : JW X K b L E e m) : ∃ t : TT, PW X e t ∧ ∀ σ Hi H, EnvOk b L σ Hi H → ∀ Q : Bool → Hp → Prop, PX K E m Hi H (fun a _ H' => Q a H') → t σ H Q := ⟨_, pw_wp, h.go⟩
theorem JO.of {o : Option Expr} {m : M (Option Int)} (h : ∃ t : TO, PO X o t ∧ ∀ σ Hi H, EnvOk b L σ Hi H → ∀ Q : Option Int → Hp → Prop, PX K E m Hi H (fun a _ H' => Q a H') → t σ H Q) : JO X K b L E o m := let ⟨_, d, p⟩ := h; ⟨fun σ Hi H en Q z => PO.wp d (p σ Hi H en Q z)⟩
theorem JO.ex {o : Option Expr} {m : M (Option Int)} (h : JO X K b L E o m) : ∃ t : TO, PO X o t ∧ ∀ σ Hi H, EnvOk b L σ Hi H → ∀ Q : Option Int → Hp → Prop, PX K E m Hi H (fun a _ H' => Q a H') → t σ H Q := ⟨_, po_wp, h.go⟩
theorem JL.of {m : M (List α)} (h : ∃ t : TA, PA X es t ∧ ∀ σ Hi H, EnvOk b L σ Hi H → ∀ Q : List V → Hp → Prop, PX K E m Hi H (fun xs Hi' H' => ∀ vs, Rl K Hi' xs vs → Q vs H') → t σ H Q) (l : ∀ xs, m = .ok xs → xs.length = es.length) : JL X K b L E es m := let ⟨_, d, p⟩ := h; ⟨fun σ Hi H en Q z => PA.wp d (p σ Hi H en Q z), l⟩
theorem JL.ex {m : M (List α)} (h : JL X K b L E es m) : ∃ t : TA, PA X es t ∧ ∀ σ Hi H, EnvOk b L σ Hi H → ∀ Q : List V → Hp → Prop, PX K E m Hi H (fun xs Hi' H' => ∀ vs, Rl K Hi' xs vs → Q vs H') → t σ H Q := ⟨_, pa_wp, h.go⟩
theorem JI.of {m : M (List α)} (h : ∃ t : TI, PI X tg e t ∧ ∀ σ Hi H, EnvOk b L σ Hi H → ∀ R : It → Hp → Prop, PX K E m Hi H (fun xs Hi' H' => ∀ J, ItOk K J Hi' xs → R J H') → t σ H R) : JI X K b L E tg e m := let ⟨_, d, p⟩ := h; ⟨fun σ Hi H en Q z => PI.wp d (p σ Hi H en Q z)⟩
end
/-- an operation on two values, on one -/
def RO (K : Fg) (E : XK) {α β γ : Type} [Py α] [Py β] [Py γ] (r : R2) (f : α → β → M γ) : Prop :=
  ∀ (x : α) (y : β) (v w : V) (Hi H : Hp) (Q : VK), Same Hi H → Py.rep K Hi x v → Py.rep K Hi y w → PV K E (f x y) Hi H Q → r v w H Q
def RU1 (K : Fg) (E : XK) {α β : Type} [Py α] [Py β] (r : V → Hp → VK → Prop) (f : α → M β) : Prop :=
  ∀ (x : α) (v : V) (Hi H : Hp) (Q : VK), Same Hi H → Py.rep K Hi x v → PV K E (f x) Hi H Q → r v H Q
def RA1 (K : Fg) (E : XK) {α β : Type} [Py α] [Py β] (r : List V → Hp → VK → Prop) (f : α → M β) : Prop :=
  ∀ (x : α) (v : V) (Hi H : Hp) (Q : VK), Same Hi H → Py.rep K Hi x v → PV K E (f x) Hi H Q → r [v] H Q
def RA2 (K : Fg) (E : XK) {α β γ : Type} [Py α] [Py β] [Py γ] (r : List V → Hp → VK → Prop) (f : α → β → M γ) : Prop :=
  ∀ (x : α) (y : β) (v w : V) (Hi H : Hp) (Q : VK), Same Hi H → Py.rep K Hi x v → Py.rep K Hi y w → PV K E (f x y) Hi H Q → r [v, w] H Q
end G

set_option Elab.async false
set_option linter.all false
set_option maxRecDepth 100000
set_option maxHeartbeats 2000000
namespace G
open PySem L2 TL

/-! ### the operations of the mirrors -/
def tx (s : String) : Tx := s.toList.map Char.toNat
theorem S_tx (s : String) : S (tx s) = Str.ofString s := ext_tl (by rw [tl_ofString] <;> rfl)
theorem tl_S (l : Tx) : tl (S l) = l := rfl
theorem S_inj {a b : Tx} (h : S a = S b) : a = b := by
  have := congrArg tl h
  rwa [tl_S, tl_S] at this
theorem S_length (l : Tx) : (S l).length = l.length := by rw [len_tl, tl_S]
theorem dec_S (a b : Tx) : decide (V.str (S a) = V.str (S b)) = decide (a = b) := by
  by_cases h : a = b
  · subst h; simp
  · rw [decide_eq_false h, decide_eq_false (fun z => h (S_inj (V.str.inj z)))]
instance {i j : Int} : Decidable (CMul i j) := by unfold CMul; infer_instance
instance {i j : Int} : Decidable (CDiv i j) := by unfold CDiv; infer_instance
instance {i j : Int} : Decidable (CPow i j) := by unfold CPow; infer_instance
def mulI (i j : Int) : M Int := chk (CMul i j) >>= fun _ => pure (i * j)
def modI (i j : Int) : M Int := chk (0 < j) >>= fun _ => pure (i % j)
def divI (i j : Int) : M Int := chk (CDiv i j) >>= fun _ => pure (i / j)
def powI (i j : Int) : M Int := chk (CPow i j) >>= fun _ => pure (i ^ j.toNat)
def addT (a c : Tx) : M Tx := chk (a.length + c.length ≤ SZ) >>= fun _ => pure (a ++ c)
def inS (x t : Tx) : M Bool := match x with
  | [c] => pure (decide (c ∈ t))
  | _ => stuck
def cut {α : Type} (xs : List α) (lo hi : Option Int) : List α := (xs.drop (HT.sIx xs.length 0 lo)).take (HT.sIx xs.length xs.length hi - HT.sIx xs.length 0 lo)
def cutT (x : Tx) (lo hi : Option Int) : M Tx := chk (x.length ≤ SZ) >>= fun _ => pure (cut x lo hi)
def lenT (x : Tx) : M Int := chk (x.length ≤ SZ) >>= fun _ => pure (x.length : Int)
def atT (x : Tx) (i : Int) : M Tx := chk (x.length ≤ SZ) >>= fun _ => ofO (atI x i) >>= fun c => pure [c]
def atL {α : Type} (xs : List α) (i : Int) : M α := ofO (atI xs i)
def joinM (s : Tx) (xs : List Tx) : M Tx := chk ((xs.map (·.length)).sum + xs.length * s.length ≤ 16777216) >>= fun _ => pure (joinL s xs)
/-- no raise is let out -/
def nr {α : Type} : M α → M α
  | .ok a => .ok a
  | .error _ => .error .st
def lcM {α β : Type} (xs : List α) (f : α → M β) : M (List β) := chk (xs.length ≤ SZ) >>= fun _ => nr (xs.mapM f)
/-- with a test -/
def lcF {α β : Type} (xs : List α) (t : α → M Bool) (f : α → M β) : M (List β) := chk (xs.length ≤ SZ) >>= fun _ => nr (xs.foldlM (fun acc x => t x >>= fun c => if c = true then f x >>= fun y => pure (acc ++ [y]) else pure acc) [])

section
variable {K : Fg} {E : XK} {α β γ δ : Type} {a : α} {Hi H Hi' H' : Hp} {k : α → Hp → Hp → Prop}
theorem PX.here (h : PX K E (pure a) Hi H k) (s : Same Hi H) : k a Hi H := (show ∀ Hi' H', Nx Hi H Hi' H' → k a Hi' H' from h) Hi H (Nx.refl s)
theorem PX.go (h : PX K E (pure a) Hi H k) (x : Nx Hi H Hi' H') : k a Hi' H' := (show ∀ Hi' H', Nx Hi H Hi' H' → k a Hi' H' from h) Hi' H' x
end

section
variable {K : Fg} {E : XK}
theorem ro_add : RO K E (rI0 fun i j => .int (i + j)) (fun i j : Int => (pure (i + j) : M Int)) := by
  rintro i j v w Hi H Q s rfl rfl h
  exact ⟨i, j, rfl, rfl, h.here s _ rfl⟩
theorem ro_sub : RO K E (rI0 fun i j => .int (i - j)) (fun i j : Int => (pure (i - j) : M Int)) := by
  rintro i j v w Hi H Q s rfl rfl h
  exact ⟨i, j, rfl, rfl, h.here s _ rfl⟩
theorem ro_mul : RO K E (rI CMul fun i j => .int (i * j)) mulI := by
  rintro i j v w Hi H Q s rfl rfl h
  obtain ⟨c, h⟩ := PX.chk h
  exact ⟨i, j, rfl, rfl, c, h.here s _ rfl⟩
theorem ro_mod : RO K E (rI (fun _ j => 0 < j) fun i j => .int (i % j)) modI := by
  rintro i j v w Hi H Q s rfl rfl h
  obtain ⟨c, h⟩ := PX.chk h
  exact ⟨i, j, rfl, rfl, c, h.here s _ rfl⟩
theorem ro_div : RO K E (rI CDiv fun i j => .int (i / j)) divI := by
  rintro i j v w Hi H Q s rfl rfl h
  obtain ⟨c, h⟩ := PX.chk h
  exact ⟨i, j, rfl, rfl, c, h.here s _ rfl⟩
theorem ro_pow : RO K E (rI CPow fun i j => .int (i ^ j.toNat)) powI := by
  rintro i j v w Hi H Q s rfl rfl h
  obtain ⟨c, h⟩ := PX.chk h
  exact ⟨i, j, rfl, rfl, c, h.here s _ rfl⟩
theorem ro_lt : RO K E (rI0 fun i j => .bl (decide (i < j))) (fun i j : Int => (pure (decide (i < j)) : M Bool)) := by
  rintro i j v w Hi H Q s rfl rfl h
  exact ⟨i, j, rfl, rfl, h.here s _ rfl⟩
theorem ro_le : RO K E (rI0 fun i j => .bl (decide (i ≤ j))) (fun i j : Int => (pure (decide (i ≤ j)) : M Bool)) := by
  rintro i j v w Hi H Q s rfl rfl h
  exact ⟨i, j, rfl, rfl, h.here s _ rfl⟩
theorem ro_gt : RO K E (rI0 fun i j => .bl (decide (j < i))) (fun i j : Int => (pure (decide (j < i)) : M Bool)) := by
  rintro i j v w Hi H Q s rfl rfl h
  exact ⟨i, j, rfl, rfl, h.here s _ rfl⟩
theorem ro_ge : RO K E (rI0 fun i j => .bl (decide (j ≤ i))) (fun i j : Int => (pure (decide (j ≤ i)) : M Bool)) := by
  rintro i j v w Hi H Q s rfl rfl h
  exact ⟨i, j, rfl, rfl, h.here s _ rfl⟩
theorem dec_i {i j : Int} : decide (V.int i = V.int j) = decide (i = j) := by
  by_cases h : i = j
  · subst h; simp
  · rw [decide_eq_false h, decide_eq_false (fun z => h (V.int.inj z))]
theorem dec_b {i j : Bool} : decide (V.bl i = V.bl j) = decide (i = j) := by
  by_cases h : i = j
  · subst h; simp
  · rw [decide_eq_false h, decide_eq_false (fun z => h (V.bl.inj z))]
theorem ro_eqI : RO K E rEq (fun i j : Int => (pure (decide (i = j)) : M Bool)) := by
  rintro i j v w Hi H Q s rfl rfl h
  exact ⟨rfl, h.here s _ (congrArg V.bl dec_i)⟩
theorem ro_neI : RO K E rNe (fun i j : Int => (pure (!decide (i = j)) : M Bool)) := by
  rintro i j v w Hi H Q s rfl rfl h
  exact ⟨rfl, h.here s _ (congrArg (fun z => V.bl (!z)) dec_i)⟩
theorem ro_eqB : RO K E rEq (fun i j : Bool => (pure (decide (i = j)) : M Bool)) := by
  rintro i j v w Hi H Q s rfl rfl h
  exact ⟨rfl, h.here s _ (congrArg V.bl dec_b)⟩
theorem ro_neB : RO K E rNe (fun i j : Bool => (pure (!decide (i = j)) : M Bool)) := by
  rintro i j v w Hi H Q s rfl rfl h
  exact ⟨rfl, h.here s _ (congrArg (fun z => V.bl (!z)) dec_b)⟩
theorem ro_eqT : RO K E rEq (fun i j : Tx => (pure (decide (i = j)) : M Bool)) := by
  rintro i j v w Hi H Q s rfl rfl h
  exact ⟨rfl, h.here s _ (congrArg V.bl (dec_S i j))⟩
theorem ro_neT : RO K E rNe (fun i j : Tx => (pure (!decide (i = j)) : M Bool)) := by
  rintro i j v w Hi H Q s rfl rfl h
  exact ⟨rfl, h.here s _ (congrArg (fun z => V.bl (!z)) (dec_S i j))⟩
theorem ro_addT : RO K E (fun x y H Q => ∃ i j, x = .str i ∧ y = .str j ∧ i.length + j.length ≤ sizeLine ∧ Q (.str (i ++ j)) H) addT := by
  rintro i j v w Hi H Q s rfl rfl h
  obtain ⟨c, h⟩ := PX.chk h
  refine ⟨S i, S j, rfl, rfl, by rw [S_length, S_length]; exact c, h.here s _ ?_⟩
  exact congrArg V.str (ext_tl (by rw [tl_append] <;> rfl))
theorem ro_in : RO K E rInS inS := by
  rintro i j v w Hi H Q s rfl rfl h
  match i, h with
  | [], h => exact h.elim
  | [c], h => exact ⟨c, S j, rfl, rfl, PX.here h s _ rfl⟩
  | _ :: _ :: _, h => exact h.elim
theorem ro_notIn : RO K E rNotInS (fun x y => inS x y >>= fun c => pure (!c)) := by
  rintro i j v w Hi H Q s rfl rfl h
  match i, h with
  | [], h => exact h.elim
  | [c], h => exact ⟨c, S j, rfl, rfl, PX.here (show PX K E (pure (!(decide (c ∈ j)))) Hi H _ from h) s _ rfl⟩
  | _ :: _ :: _, h => exact h.elim
theorem Rl.at {α : Type} [Py α] {H : Hp} : ∀ {xs : List α} {vs : List V} (_ : Rl K H xs vs) {j : Nat} {a : α}, xs[j]? = some a → ∃ v, vs[j]? = some v ∧ Py.rep K H a v
  | _, _, .nil, j, a, e => by simp at e
  | _, _, .cons r _, 0, a, e => by
    simp at e; subst e
    exact ⟨_, rfl, r⟩
  | _, _, .cons _ t, j + 1, a, e => by
    obtain ⟨v, h1, h2⟩ := Rl.at (xs := _) (vs := _) t (j := j) (by simpa using e)
    exact ⟨v, by simpa using h1, h2⟩
theorem Rl.length {α : Type} [Py α] {H : Hp} {xs : List α} {vs : List V} (h : Rl K H xs vs) : xs.length = vs.length := Paired.length h
theorem Rl.atI {α : Type} [Py α] {H : Hp} {xs : List α} {vs : List V} (h : Rl K H xs vs) {i : Int} {a : α} (e : atI xs i = some a) : ∃ v, L2.atI vs i = some v ∧ Py.rep K H a v := by
  unfold L2.atI at e ⊢
  rw [h.length] at e
  cases q : ixN vs.length i with
  | none => rw [q] at e; cases e
  | some j =>
    rw [q] at e
    exact h.at (j := j) e
theorem Rl.app {α : Type} [Py α] {H : Hp} : ∀ {xs ys : List α} {vs ws : List V}, Rl K H xs vs → Rl K H ys ws → Rl K H (xs ++ ys) (vs ++ ws)
  | _, _, _, _, .nil, s => s
  | _, _, _, _, .cons r t, s => .cons r (Rl.app t s)
theorem Rl.take {α : Type} [Py α] {H : Hp} : ∀ {xs : List α} {vs : List V} (n : Nat), Rl K H xs vs → Rl K H (xs.take n) (vs.take n)
  | _, _, 0, _ => .nil
  | _, _, _ + 1, .nil => .nil
  | _, _, n + 1, .cons r t => .cons r (Rl.take n t)
theorem Rl.drop {α : Type} [Py α] {H : Hp} : ∀ {xs : List α} {vs : List V} (n : Nat), Rl K H xs vs → Rl K H (xs.drop n) (vs.drop n)
  | _, _, 0, r => r
  | _, _, _ + 1, .nil => .nil
  | _, _, n + 1, .cons _ t => Rl.drop n t
theorem Rl.set {α : Type} [Py α] {H : Hp} {a : α} {v : V} (r : Py.rep K H a v) : ∀ {xs : List α} {vs : List V} (n : Nat), Rl K H xs vs → Rl K H (xs.set n a) (vs.set n v)
  | _, _, _, .nil => .nil
  | _, _, 0, .cons _ t => .cons r t
  | _, _, n + 1, .cons q t => .cons q (Rl.set r n t)
theorem Rl.cut {α : Type} [Py α] {H : Hp} {xs : List α} {vs : List V} (h : Rl K H xs vs) (lo hi : Option Int) : Rl K H (G.cut xs lo hi) (cutV vs lo hi) := by
  unfold G.cut cutV
  rw [h.length]
  exact (h.drop _).take _
theorem Rl.tx : ∀ {xs : List Tx} {vs : List V} {H : Hp}, Rl K H xs vs → vs = (xs.map S).map V.str
  | _, _, _, .nil => rfl
  | x :: xs, v :: vs, H, .cons r t => by
    have r' : v = V.str (S x) := r
    rw [r', List.map_cons, List.map_cons, Rl.tx t]
theorem Rl.ints : ∀ {xs : List Int} {vs : List V} {H : Hp}, Rl K H xs vs → vs = xs.map V.int
  | _, _, _, .nil => rfl
  | x :: xs, v :: vs, H, .cons r t => by
    have r' : v = V.int x := r
    rw [r', List.map_cons, Rl.ints t]
theorem rl_ints {H : Hp} : ∀ xs : List Int, Rl K H xs (xs.map V.int)
  | [] => .nil
  | _ :: r => .cons rfl (rl_ints r)
theorem ro_ixL {α : Type} [Py α] : RO K E (rIxL K) (fun (xs : List α) (i : Int) => atL xs i) := by
  rintro xs i v w Hi H Q s ⟨p, vs, rfl, h1, h2⟩ rfl h
  obtain ⟨a, e, h⟩ := PX.ofO1 h
  obtain ⟨u, e1, r⟩ := h2.atI e
  exact ⟨p, vs, i, u, rfl, rfl, Same.seq s h1, e1, h.here s _ r⟩
theorem ro_ixU {α : Type} [Py α] : RO K E (rIxT K) (fun (xs : Tup α) (i : Int) => atL (α := α) xs i) := by
  rintro xs i v w Hi H Q s ⟨p, vs, rfl, h1, h2⟩ rfl h
  obtain ⟨a, e, h⟩ := PX.ofO1 h
  obtain ⟨u, e1, r⟩ := h2.atI e
  exact ⟨p, vs, i, u, rfl, rfl, sqt_mono s h1, e1, h.here s _ r⟩
theorem ro_ixS : RO K E rIxS atT := by
  rintro x i v w Hi H Q s rfl rfl h
  obtain ⟨c, h⟩ := PX.chk h
  obtain ⟨a, e, h⟩ := PX.ofO h
  exact ⟨S x, i, a, rfl, rfl, by rw [S_length]; exact c, e, h.here s _ rfl⟩
theorem join_S (s : Tx) (xs : List Tx) : Txt.join (S s) (xs.map S) = S (joinL s xs) := by
  refine ext_tl ?_
  have e : (xs.map S).map tl = xs := by rw [List.map_map]; exact List.map_id' xs
  rw [join_eq, tl_join, tl_S, tl_S, e]
theorem lens_S (xs : List Tx) : ((xs.map S).map fun y : Str => y.length) = xs.map fun y : Tx => List.length y := by
  rw [List.map_map]
  exact List.map_congr_left fun a _ => S_length a
abbrev rJoin (K : Fg) : V → List V → Hp → VK → Prop := fun x xs H Q => ∃ a p, ∃ ys : List Str, x = .str a ∧ xs = [.ref p] ∧ (SqL K H p (ys.map V.str) ∨ SqT K H p (ys.map V.str)) ∧
    (ys.map (·.length)).sum + ys.length * a.length ≤ 16777216 ∧ Q (.str (Txt.join a ys)) H
def RM1 (K : Fg) (E : XK) {α β γ : Type} [Py α] [Py β] [Py γ] (r : V → List V → Hp → VK → Prop) (f : α → β → M γ) : Prop :=
  ∀ (x : α) (y : β) (v w : V) (Hi H : Hp) (Q : VK), Same Hi H → Py.rep K Hi x v → Py.rep K Hi y w → PV K E (f x y) Hi H Q → r v [w] H Q
def RM0 (K : Fg) (E : XK) {α β : Type} [Py α] [Py β] (r : V → List V → Hp → VK → Prop) (f : α → M β) : Prop :=
  ∀ (x : α) (v : V) (Hi H : Hp) (Q : VK), Same Hi H → Py.rep K Hi x v → PV K E (f x) Hi H Q → r v [] H Q
theorem join_core {x : Tx} {xs : List Tx} {p : Addr} {vs : List V} {Hi0 Hi H : Hp} {Q : VK} (s : Same Hi H) (h2 : Rl K Hi0 xs vs) (h : PV K E (joinM x xs) Hi H Q) (hs : SqL K H p vs ∨ SqT K H p vs) : rJoin K (.str (S x)) [.ref p] H Q := by
  obtain ⟨c, h⟩ := PX.chk h
  rw [h2.tx] at hs
  refine ⟨S x, p, xs.map S, rfl, rfl, hs, ?_, ?_⟩
  · show (List.map (fun y : Str => y.length) (List.map S xs)).sum + (List.map S xs).length * (S x).length ≤ 16777216
    rw [lens_S, List.length_map, S_length]; exact c
  · rw [join_S]; exact h.here s _ rfl
theorem rm_join : RM1 K E (rJoin K) joinM := by
  rintro x xs v w Hi H Q s rfl ⟨p, vs, rfl, h1, h2⟩ h
  exact join_core s h2 h (.inl (Same.seq s h1))
theorem rm_joinU : RM1 K E (rJoin K) (fun (s : Tx) (xs : Tup Tx) => joinM s xs) := by
  rintro x xs v w Hi H Q s rfl ⟨p, vs, rfl, h1, h2⟩ h
  exact join_core s h2 h (.inr (sqt_mono s h1))
theorem ra_lenL {α : Type} [Py α] : RA1 K E (fun xs H Q => ∃ p ys, xs = [.ref p] ∧ (SqL K H p ys ∨ SqT K H p ys) ∧ Q (.int ys.length) H) (fun xs : List α => (pure (xs.length : Int) : M Int)) := by
  rintro xs v Hi H Q s ⟨p, vs, rfl, h1, h2⟩ h
  exact ⟨p, vs, rfl, .inl (Same.seq s h1), h.here s _ (by rw [h2.length]; rfl)⟩
theorem ra_lenU {α : Type} [Py α] : RA1 K E (fun xs H Q => ∃ p ys, xs = [.ref p] ∧ (SqL K H p ys ∨ SqT K H p ys) ∧ Q (.int ys.length) H) (fun xs : Tup α => (pure ((List.length (α := α) xs : Nat) : Int) : M Int)) := by
  rintro xs v Hi H Q s ⟨p, vs, rfl, h1, h2⟩ h
  exact ⟨p, vs, rfl, .inr (sqt_mono s h1), h.here s _ (by rw [h2.length]; rfl)⟩
theorem ra_lenS : RA1 K E (fun xs H Q => ∃ z, xs = [.str z] ∧ z.length ≤ sizeLine ∧ Q (.int z.length) H) lenT := by
  rintro xs v Hi H Q s rfl h
  obtain ⟨c, h⟩ := PX.chk h
  exact ⟨S xs, rfl, by rw [S_length]; exact c, h.here s _ (by rw [S_length]; rfl)⟩
end

section
variable {X : Cx} {K : Fg} {mg : Str → Option Value} {b : Bs} {L : List En} {E : XK} {e e1 e2 e3 : Expr} {es : List Expr} {α β γ δ : Type} [Py α] [Py β] [Py γ] [Py δ] {m1 : M α} {m2 : M β} {m3 : M γ} {pos : Pos}
theorem je_var (i : Nat) {x : Str} {a : α} (hL : L[i]? = some (.im (rp K a))) (hN : X.N[i]? = some x := by rfl)
    (hv : Vis X.env.scope x := by first | exact Or.inl rfl | exact Or.inr (Or.inl rfl) | exact Or.inr (Or.inr rfl)) (hd : (x == ("__debug__" : Str)) = false := by decide)
    (hcd : (x == ("__classdict__" : Str)) = false := by decide) : JE X K b L E (.Name x pos) (pure a : M α) :=
  .of ⟨tVar i, pe_var hN hv hd hcd, fun σ Hi H en Q h => by
    obtain ⟨v, h1, h2⟩ := en.im i _ hL
    exact ⟨v, h1, h.here en.sub v h2⟩⟩
theorem je_int {i : Int} {j : Nat} : JE X K b L E (.Constant (.int i) j pos) (pure i : M Int) := .of ⟨tC (.int i), pe_int, fun σ Hi H en Q h => h.here en.sub _ rfl⟩
theorem je_bl {i : Bool} {j : Nat} : JE X K b L E (.Constant (.bool i) j pos) (pure i : M Bool) := .of ⟨tC (.bl i), pe_bl, fun σ Hi H en Q h => h.here en.sub _ rfl⟩
theorem je_non {j : Nat} : JE X K b L E (.Constant .none j pos) (pure none : M (Option α)) := .of ⟨tC .non, pe_non, fun σ Hi H en Q h => h.here en.sub _ rfl⟩
theorem je_unit {j : Nat} : JE X K b L E (.Constant .none j pos) (pure () : M Unit) := .of ⟨tC .non, pe_non, fun σ Hi H en Q h => h.here en.sub _ rfl⟩
theorem je_str {s : String} {j : Nat} : JE X K b L E (.Constant (.str (Str.ofString s)) j pos) (pure (tx s) : M Tx) := .of ⟨tC (.str (Str.ofString s)), pe_str, fun σ Hi H en Q h => h.here en.sub _ (by rw [← S_tx] <;> rfl)⟩
/-- a text of the module -/
theorem je_gstr {x : Str} {s : String} (hm : ∃ t, mg x = some (.str (Str.ofString s) t)) (hM : X.mg = mg := by rfl) (hg : Gl X x := by rfl) (hd : (x == ("__debug__" : Str)) = false := by decide) :
    JE X K b L E (.Name x pos) (pure (tx s) : M Tx) := by
  obtain ⟨t, hm⟩ := hm
  exact .of ⟨tC (.str (Str.ofString s)), pe_glob hg (by rw [hM]; exact hm) ⟨t, rfl⟩ hd, fun σ Hi H en Q h => h.here en.sub _ (by rw [← S_tx] <;> rfl)⟩
theorem je_gint {x : Str} {n : Int} (hm : ∃ t, mg x = some (.int n t)) (hM : X.mg = mg := by rfl) (hg : Gl X x := by rfl) (hd : (x == ("__debug__" : Str)) = false := by decide) :
    JE X K b L E (.Name x pos) (pure n : M Int) := by
  obtain ⟨t, hm⟩ := hm
  exact .of ⟨tC (.int n), pe_glob hg (by rw [hM]; exact hm) ⟨t, rfl⟩ hd, fun σ Hi H en Q h => h.here en.sub _ rfl⟩
/-- an object of the module -/
theorem je_gref {x : Str} {a : α} (hm : mg x = some (.ref (He.ga K x))) (hr : ∀ H, Py.rep K H a (.ref (He.ga K x))) (hM : X.mg = mg := by rfl) (hg : Gl X x := by rfl) (hd : (x == ("__debug__" : Str)) = false := by decide) :
    JE X K b L E (.Name x pos) (pure a : M α) :=
  .of ⟨tC (.ref (He.ga K x)), pe_glob hg (by rw [hM]; exact hm) rfl hd, fun σ Hi H en Q h => h.here en.sub _ (hr _)⟩

theorem tOp_ok {r : R2} {f : α → β → M γ} {ta tb : TE} (hr : RO K E r f) (p1 : ∀ σ Hi H, EnvOk b L σ Hi H → ∀ Q : VK, PV K E m1 Hi H Q → ta σ H Q) (p2 : ∀ σ Hi H, EnvOk b L σ Hi H → ∀ Q : VK, PV K E m2 Hi H Q → tb σ H Q) :
    ∀ σ Hi H, EnvOk b L σ Hi H → ∀ Q : VK, PV K E (m1 >>= fun x => m2 >>= fun y => f x y) Hi H Q → tOp r ta tb σ H Q := fun σ Hi H en Q h =>
  p1 σ Hi H en _ (h.bind.imp fun x Hi1 H1 n1 k v rv => p2 σ Hi1 H1 (en.nx n1) _ (k.bind.imp fun y Hi2 H2 n2 k2 w rw => hr x y v w Hi2 H2 Q n2.sub (Py.mono n2.im rv) rw k2))
theorem je_bin {op : Operator} {r : R2} {f : α → β → M γ} (ho : OpR X (binaryOp op) r) (hr : RO K E r f) (h1 : JE X K b L E e1 m1) (h2 : JE X K b L E e2 m2) : JE X K b L E (.BinOp e1 op e2 pos) (m1 >>= fun x => m2 >>= fun y => f x y) := by
  obtain ⟨t1, d1, p1⟩ := h1.ex
  obtain ⟨t2, d2, p2⟩ := h2.ex
  exact .of ⟨tOp r t1 t2, pe_op ho d1 d2, tOp_ok hr p1 p2⟩
theorem je_cmp {op : CmpOp} {r : R2} {f : α → β → M γ} (ho : OpR X (compareOp op) r) (hr : RO K E r f) (h1 : JE X K b L E e1 m1) (h2 : JE X K b L E e2 m2) (hm : behindInMarks op e2 = false := by first | exact nomark _ | rfl) :
    JE X K b L E (.Compare e1 [op] [e2] pos) (m1 >>= fun x => m2 >>= fun y => f x y) := by
  obtain ⟨t1, d1, p1⟩ := h1.ex
  obtain ⟨t2, d2, p2⟩ := h2.ex
  exact .of ⟨tOp r t1 t2, pe_cmpR ho d1 d2 hm, tOp_ok hr p1 p2⟩
theorem jt_cmp {op : CmpOp} {r : R2} {f : α → β → M Bool} (ho : OpR X (compareOp op) r) (hr : RO K E r f) (h1 : JE X K b L E e1 m1) (h2 : JE X K b L E e2 m2) (hm : behindInMarks op e2 = false := by first | exact nomark _ | rfl) :
    JT X K b L E (.Compare e1 [op] [e2] pos) (m1 >>= fun x => m2 >>= fun y => f x y) := by
  obtain ⟨t1, d1, p1⟩ := h1.ex
  obtain ⟨t2, d2, p2⟩ := h2.ex
  refine .of ⟨tTest (tOp r t1 t2), pt_cmpR ho d1 d2 hm, fun σ Hi H en Q h => tOp_ok hr p1 p2 σ Hi H en _ (h.imp fun c Hi' H' _ q v rv => ?_)⟩
  exact ⟨c, rv, q⟩
theorem je_ix {r : R2} {f : α → β → M γ} (ho : IxR X r) (hr : RO K E r f) (h1 : JE X K b L E e1 m1) (h2 : JE X K b L E e2 m2) (hs : PlainIx e2 := by exact fun _ _ => rfl) :
    JE X K b L E (.Subscript e1 e2 pos) (m1 >>= fun x => m2 >>= fun y => f x y) := by
  obtain ⟨t1, d1, p1⟩ := h1.ex
  obtain ⟨t2, d2, p2⟩ := h2.ex
  exact .of ⟨tOp r t1 t2, pe_ix ho d1 d2 hs, tOp_ok hr p1 p2⟩
theorem tChain_ok {r r' : R2} {f : α → β → M Bool} {f' : β → γ → M Bool} {ta tb tc : TE} (hr : RO K E r f) (hr' : RO K E r' f') (p1 : ∀ σ Hi H, EnvOk b L σ Hi H → ∀ Q : VK, PV K E m1 Hi H Q → ta σ H Q)
    (p2 : ∀ σ Hi H, EnvOk b L σ Hi H → ∀ Q : VK, PV K E m2 Hi H Q → tb σ H Q) (p3 : ∀ σ Hi H, EnvOk b L σ Hi H → ∀ Q : VK, PV K E m3 Hi H Q → tc σ H Q) :
    ∀ σ Hi H, EnvOk b L σ Hi H → ∀ Q : VK, PV K E (m1 >>= fun x => m2 >>= fun y => f x y >>= fun c => if c = true then m3 >>= fun z => f' y z else pure false) Hi H Q → tChain r r' ta tb tc σ H Q := fun σ Hi H en Q h =>
  p1 σ Hi H en _ (h.bind.imp fun x Hi1 H1 n1 k v rv => p2 σ Hi1 H1 (en.nx n1) _ (k.bind.imp fun y Hi2 H2 n2 k2 w rw => hr x y v w Hi2 H2 _ n2.sub (Py.mono n2.im rv) rw (k2.bind.imp fun c Hi3 H3 n3 k3 u ru => by
    refine ⟨c, ru, ?_⟩
    cases c with
    | true =>
      rw [if_pos rfl] at k3 ⊢
      exact p3 σ Hi3 H3 (((en.nx n1).nx n2).nx n3) _ (k3.bind.imp fun z Hi4 H4 n4 k4 u2 ru2 => hr' y z w u2 Hi4 H4 Q n4.sub (Py.mono (n3.im.trans n4.im) rw) ru2 k4)
    | false =>
      rw [if_neg Bool.false_ne_true] at k3 ⊢
      exact k3.here n3.sub _ rfl)))
theorem je_chain {op op' : CmpOp} {r r' : R2} {f : α → β → M Bool} {f' : β → γ → M Bool} (ho : OpR X (compareOp op) r) (hr : RO K E r f) (ho' : OpR X (compareOp op') r') (hr' : RO K E r' f') (h1 : JE X K b L E e1 m1) (h2 : JE X K b L E e2 m2) (h3 : JE X K b L E e3 m3)
    (hm : lastMarks [op, op'] [e2, e3] = false := by with_unfolding_all rfl) : JE X K b L E (.Compare e1 [op, op'] [e2, e3] pos) (m1 >>= fun x => m2 >>= fun y => f x y >>= fun c => if c = true then m3 >>= fun z => f' y z else pure false) := by
  obtain ⟨t1, d1, p1⟩ := h1.ex
  obtain ⟨t2, d2, p2⟩ := h2.ex
  obtain ⟨t3, d3, p3⟩ := h3.ex
  exact .of ⟨tChain r r' t1 t2 t3, pe_chain ho ho' d1 d2 d3 hm, tChain_ok hr hr' p1 p2 p3⟩
theorem jt_chain {op op' : CmpOp} {r r' : R2} {f : α → β → M Bool} {f' : β → γ → M Bool} (ho : OpR X (compareOp op) r) (hr : RO K E r f) (ho' : OpR X (compareOp op') r') (hr' : RO K E r' f') (h1 : JE X K b L E e1 m1) (h2 : JE X K b L E e2 m2) (h3 : JE X K b L E e3 m3)
    (hm : lastMarks [op, op'] [e2, e3] = false := by with_unfolding_all rfl) : JT X K b L E (.Compare e1 [op, op'] [e2, e3] pos) (m1 >>= fun x => m2 >>= fun y => f x y >>= fun c => if c = true then m3 >>= fun z => f' y z else pure false) := by
  obtain ⟨t1, d1, p1⟩ := h1.ex
  obtain ⟨t2, d2, p2⟩ := h2.ex
  obtain ⟨t3, d3, p3⟩ := h3.ex
  refine .of ⟨tTest (tChain r r' t1 t2 t3), pt_chain ho ho' d1 d2 d3 hm, fun σ Hi H en Q h => tChain_ok hr hr' p1 p2 p3 σ Hi H en _ (h.imp fun c Hi' H' _ q v rv => ?_)⟩
  exact ⟨c, rv, q⟩

/-! tests, and, or, not -/
theorem jt_val {m : M Bool} (h : JE X K b L E e m) (he : ∀ whole, isTrue e X.env whole = (do let v ← whole; standAt e.pos; holding [v] (truthy v)) := by intro _; rfl) : JT X K b L E e m := by
  obtain ⟨t, d, p⟩ := h.ex
  refine .of ⟨tB t, pt_val d he, fun σ Hi H en Q h => p σ Hi H en _ (h.imp fun c Hi' H' _ q v rv => ⟨c, rv, q⟩)⟩
theorem jw_jt {m : M Bool} (h : JW X K b L E e m) : JT X K b L E e m := by
  obtain ⟨t, d, p⟩ := h.ex
  exact .of ⟨t, d.pt, p⟩
variable {ma mb : M Bool} {rest : List Expr}
theorem jt_not (h : JT X K b L E e ma) : JT X K b L E (.UnaryOp .Not e pos) (ma >>= fun c => pure (!c)) := by
  obtain ⟨t, d, p⟩ := h.ex
  exact .of ⟨tNot t, pt_not d, fun σ Hi H en Q h => p σ Hi H en _ (h.bind.imp fun c Hi' H' n q => q.here n.sub)⟩
theorem jw_and1 (h : JT X K b L E e ma) : JW X K b L E (.BoolOp .And [e] pos) ma := by
  obtain ⟨t, d, p⟩ := h.ex
  exact .of ⟨t, pw_and1 d, p⟩
theorem jw_or1 (h : JT X K b L E e ma) : JW X K b L E (.BoolOp .Or [e] pos) ma := by
  obtain ⟨t, d, p⟩ := h.ex
  exact .of ⟨t, pw_or1 d, p⟩
theorem jw_and (h : JT X K b L E e1 ma) (h2 : JW X K b L E (.BoolOp .And (e2 :: rest) pos) mb) : JW X K b L E (.BoolOp .And (e1 :: e2 :: rest) pos) (ma >>= fun c => if c = true then mb else pure false) := by
  obtain ⟨t, d, p⟩ := h.ex
  obtain ⟨t2, d2, p2⟩ := h2.ex
  refine .of ⟨tAnd t t2, pw_and d d2, fun σ Hi H en Q h => p σ Hi H en _ (h.bind.imp fun c Hi' H' n q => ?_)⟩
  cases c with
  | true =>
    rw [if_pos rfl] at q ⊢
    exact p2 σ Hi' H' (en.nx n) Q q
  | false =>
    rw [if_neg Bool.false_ne_true] at q ⊢
    exact q.here n.sub
theorem jw_or (h : JT X K b L E e1 ma) (h2 : JW X K b L E (.BoolOp .Or (e2 :: rest) pos) mb) : JW X K b L E (.BoolOp .Or (e1 :: e2 :: rest) pos) (ma >>= fun c => if c = true then pure true else mb) := by
  obtain ⟨t, d, p⟩ := h.ex
  obtain ⟨t2, d2, p2⟩ := h2.ex
  refine .of ⟨tOr t t2, pw_or d d2, fun σ Hi H en Q h => p σ Hi H en _ (h.bind.imp fun c Hi' H' n q => ?_)⟩
  cases c with
  | true =>
    rw [if_pos rfl] at q ⊢
    exact q.here n.sub
  | false =>
    rw [if_neg Bool.false_ne_true] at q ⊢
    exact p2 σ Hi' H' (en.nx n) Q q
theorem je_one {op : BoolOp} (h : JE X K b L E e ma) : JE X K b L E (.BoolOp op [e] pos) ma := by
  obtain ⟨t, d, p⟩ := h.ex
  exact .of ⟨t, pe_one d, p⟩
theorem je_and (h : JE X K b L E e1 ma) (h2 : JE X K b L E (.BoolOp .And (e2 :: rest) pos) mb) : JE X K b L E (.BoolOp .And (e1 :: e2 :: rest) pos) (ma >>= fun c => if c = true then mb else pure false) := by
  obtain ⟨t, d, p⟩ := h.ex
  obtain ⟨t2, d2, p2⟩ := h2.ex
  refine .of ⟨tAndV t t2, pe_and d d2, fun σ Hi H en Q h => p σ Hi H en _ (h.bind.imp fun c Hi' H' n q v rv => ⟨c, rv, ?_⟩)⟩
  cases c with
  | true =>
    rw [if_pos rfl] at q ⊢
    exact p2 σ Hi' H' (en.nx n) Q q
  | false =>
    rw [if_neg Bool.false_ne_true] at q ⊢
    exact q.here n.sub _ rfl
theorem je_or (h : JE X K b L E e1 ma) (h2 : JE X K b L E (.BoolOp .Or (e2 :: rest) pos) mb) : JE X K b L E (.BoolOp .Or (e1 :: e2 :: rest) pos) (ma >>= fun c => if c = true then pure true else mb) := by
  obtain ⟨t, d, p⟩ := h.ex
  obtain ⟨t2, d2, p2⟩ := h2.ex
  refine .of ⟨tOrV t t2, pe_or d d2, fun σ Hi H en Q h => p σ Hi H en _ (h.bind.imp fun c Hi' H' n q v rv => ⟨c, rv, ?_⟩)⟩
  cases c with
  | true =>
    rw [if_pos rfl] at q ⊢
    exact q.here n.sub _ rfl
  | false =>
    rw [if_neg Bool.false_ne_true] at q ⊢
    exact p2 σ Hi' H' (en.nx n) Q q
theorem je_not (h : JE X K b L E e ma) : JE X K b L E (.UnaryOp .Not e pos) (ma >>= fun c => pure (!c)) := by
  obtain ⟨t, d, p⟩ := h.ex
  exact .of ⟨tNotV t, pe_not d, fun σ Hi H en Q h => p σ Hi H en _ (h.bind.imp fun c Hi' H' n q v rv => ⟨c, rv, q.here n.sub _ rfl⟩)⟩
theorem je_neg {m : M Int} (h : JE X K b L E e m) : JE X K b L E (.UnaryOp .USub e pos) (m >>= fun i => pure (-i)) := by
  obtain ⟨t, d, p⟩ := h.ex
  exact .of ⟨tUn (rU fun i => .int (-i)) t, pe_un un_neg d, fun σ Hi H en Q h => p σ Hi H en _ (h.bind.imp fun c Hi' H' n q v rv => ⟨c, rv, q.here n.sub _ rfl⟩)⟩
theorem je_if {mc : M Bool} {m n : M α} (h : JT X K b L E e mc) (h1 : JE X K b L E e1 m) (h2 : JE X K b L E e2 n) : JE X K b L E (.IfExp e e1 e2 pos) (mc >>= fun c => if c = true then m else n) := by
  obtain ⟨t, d, p⟩ := h.ex
  obtain ⟨t1, d1, p1⟩ := h1.ex
  obtain ⟨t2, d2, p2⟩ := h2.ex
  refine .of ⟨tIf t t1 t2, pe_ifExp d d1 d2, fun σ Hi H en Q h => p σ Hi H en _ (h.bind.imp fun c Hi' H' n q => ?_)⟩
  cases c with
  | true =>
    rw [if_pos rfl] at q ⊢
    exact p1 σ Hi' H' (en.nx n) Q q
  | false =>
    rw [if_neg Bool.false_ne_true] at q ⊢
    exact p2 σ Hi' H' (en.nx n) Q q

/-! displays -/
theorem jl_nil : JL X K b L E [] (pure [] : M (List α)) := .of ⟨tNil, pa_nil, fun σ Hi H en Q h => h.here en.sub [] .nil⟩ fun xs h => by cases h; rfl
theorem jl_cons {m : M α} {mr : M (List α)} (h : JE X K b L E e m) (hr : JL X K b L E es mr) (hs : starEach (e :: es) X.env = (false, eval e X.env) :: starEach es X.env := by rfl) :
    JL X K b L E (e :: es) (m >>= fun x => mr >>= fun r => pure (x :: r)) := by
  obtain ⟨t, d, p⟩ := h.ex
  obtain ⟨t2, d2, p2⟩ := hr.ex
  have l2 := hr.len
  refine .of ⟨tCons t t2, pa_cons d d2 hs, fun σ Hi H en Q h => p σ Hi H en _ (h.bind.imp fun x Hi1 H1 n1 k v rv => p2 σ Hi1 H1 (en.nx n1) _ (k.bind.imp fun r Hi2 H2 n2 k2 vs rvs => ?_))⟩ fun xs h => ?_
  · exact k2.here n2.sub _ (.cons (Py.mono n2.im rv) rvs)
  · cases m with
    | error z => cases h
    | ok x =>
      cases mr with
      | error z => cases h
      | ok r =>
        have e : x :: r = xs := by cases h; rfl
        rw [← e, List.length_cons, List.length_cons, l2 r rfl]
theorem je_lst {m : M (List α)} (h : JL X K b L E es m) (hl : es.length ≤ 1000 := by decide) : JE X K b L E (.List es pos) m := by
  obtain ⟨t, d, p⟩ := h.ex
  have l := h.len
  refine .of ⟨tLst t, pe_lst d, fun σ Hi H en Q h => p σ Hi H en _ (?_)⟩
  cases m with
  | error z => cases z with
    | rs c => exact h
    | st => exact h
  | ok xs =>
    refine fun Hi1 H1 n1 vs rvs => ⟨?_, fun q hq => (PX.go (a := xs) h (n1.trans (Nx.new n1.sub hq))) _ ⟨q, vs, rfl, .of upd_same, rvs.mono (same_new (hi_none n1.sub hq))⟩⟩
    rw [← rvs.length, l xs rfl]
    exact Nat.le_trans hl (by decide)
theorem je_tupU {m : M (List α)} (h : JL X K b L E es m) (hl : es.length ≤ 1000 := by decide) : JE X K b L E (.Tuple es x1 pos) (m >>= fun xs => (pure xs : M (Tup α))) := by
  obtain ⟨t, d, p⟩ := h.ex
  have l := h.len
  refine .of ⟨tTup t, pe_tup d, fun σ Hi H en Q h => p σ Hi H en _ (?_)⟩
  cases m with
  | error z => cases z with
    | rs c => exact h
    | st => exact h
  | ok xs =>
    refine fun Hi1 H1 n1 vs rvs => ⟨?_, fun q hq => (PX.go (α := Tup α) (a := xs) h (n1.trans (Nx.new n1.sub hq))) _ ⟨q, vs, rfl, .of upd_same, rvs.mono (same_new (hi_none n1.sub hq))⟩⟩
    rw [← rvs.length, l xs rfl]
    exact Nat.le_trans hl (by decide)
theorem je_pair (h1 : JE X K b L E e1 m1) (h2 : JE X K b L E e2 m2) (hs : starEach [e1, e2] X.env = (false, eval e1 X.env) :: starEach [e2] X.env := by rfl) (hs2 : starEach [e2] X.env = (false, eval e2 X.env) :: starEach [] X.env := by rfl) :
    JE X K b L E (.Tuple [e1, e2] x1 pos) (m1 >>= fun x => m2 >>= fun y => pure (x, y)) := by
  obtain ⟨t1, d1, p1⟩ := h1.ex
  obtain ⟨t2, d2, p2⟩ := h2.ex
  refine .of ⟨tTup (tCons t1 (tCons t2 tNil)), pe_tup (pa_cons d1 (pa_cons d2 pa_nil hs2) hs), fun σ Hi H en Q h => p1 σ Hi H en _ (h.bind.imp fun x Hi1 H1 n1 k v rv => p2 σ Hi1 H1 (en.nx n1) _ (k.bind.imp fun y Hi2 H2 n2 k2 w rw => ⟨by show 2 ≤ sizeLine; decide, fun q hq => ?_⟩))⟩
  have sm := same_new (o := .tup [v, w]) (hi_none n2.sub hq)
  exact k2.go (Nx.new n2.sub hq) _ ⟨q, v, w, rfl, .of upd_same, Py.mono (n2.im.trans sm) rv, Py.mono sm rw⟩
theorem je_tri (h1 : JE X K b L E e1 m1) (h2 : JE X K b L E e2 m2) (h3 : JE X K b L E e3 m3) (hs : starEach [e1, e2, e3] X.env = (false, eval e1 X.env) :: starEach [e2, e3] X.env := by rfl)
    (hs2 : starEach [e2, e3] X.env = (false, eval e2 X.env) :: starEach [e3] X.env := by rfl) (hs3 : starEach [e3] X.env = (false, eval e3 X.env) :: starEach [] X.env := by rfl) :
    JE X K b L E (.Tuple [e1, e2, e3] x1 pos) (m1 >>= fun x => m2 >>= fun y => m3 >>= fun z => pure (T3.mk x y z)) := by
  obtain ⟨t1, d1, p1⟩ := h1.ex
  obtain ⟨t2, d2, p2⟩ := h2.ex
  obtain ⟨t3, d3, p3⟩ := h3.ex
  refine .of ⟨tTup (tCons t1 (tCons t2 (tCons t3 tNil))), pe_tup (pa_cons d1 (pa_cons d2 (pa_cons d3 pa_nil hs3) hs2) hs), fun σ Hi H en Q h => p1 σ Hi H en _ (h.bind.imp fun x Hi1 H1 n1 k v rv => p2 σ Hi1 H1 (en.nx n1) _
    (k.bind.imp fun y Hi2 H2 n2 k2 w rw => p3 σ Hi2 H2 ((en.nx n1).nx n2) _ (k2.bind.imp fun z Hi3 H3 n3 k3 u ru => ⟨by show 3 ≤ sizeLine; decide, fun q hq => ?_⟩)))⟩
  have sm := same_new (o := .tup [v, w, u]) (hi_none n3.sub hq)
  exact k3.go (Nx.new n3.sub hq) _ ⟨q, v, w, u, rfl, .of upd_same, Py.mono ((n2.im.trans n3.im).trans sm) rv, Py.mono (n3.im.trans sm) rw, Py.mono sm ru⟩
/-! places of a pair, a triple -/
theorem at2 {v w : V} : atI [v, w] 0 = some v ∧ atI [v, w] 1 = some w := ⟨rfl, rfl⟩
theorem je_p0 {m : M (α × β)} {j : Nat} {p2 : Pos} (h : JE X K b L E e m) (hK : X.K = K := by rfl) : JE X K b L E (.Subscript e (.Constant (.int 0) j p2) pos) (m >>= fun x => pure x.1) := by
  obtain ⟨t, d, p⟩ := h.ex
  refine .of ⟨tOp (rIxT K) t (tC (.int 0)), pe_ix (by rw [← hK]; exact ix_tup) d pe_int (fun _ _ => rfl), fun σ Hi H en Q h => p σ Hi H en _ (h.bind.imp fun x Hi1 H1 n1 k v rv => ?_)⟩
  obtain ⟨q, v1, v2, rfl, g1, g2, g3⟩ := rv
  exact ⟨q, _, 0, v1, rfl, rfl, sqt_mono n1.sub g1, rfl, k.here n1.sub _ g2⟩
theorem je_p1 {m : M (α × β)} {j : Nat} {p2 : Pos} (h : JE X K b L E e m) (hK : X.K = K := by rfl) : JE X K b L E (.Subscript e (.Constant (.int 1) j p2) pos) (m >>= fun x => pure x.2) := by
  obtain ⟨t, d, p⟩ := h.ex
  refine .of ⟨tOp (rIxT K) t (tC (.int 1)), pe_ix (by rw [← hK]; exact ix_tup) d pe_int (fun _ _ => rfl), fun σ Hi H en Q h => p σ Hi H en _ (h.bind.imp fun x Hi1 H1 n1 k v rv => ?_)⟩
  obtain ⟨q, v1, v2, rfl, g1, g2, g3⟩ := rv
  exact ⟨q, _, 1, v2, rfl, rfl, sqt_mono n1.sub g1, rfl, k.here n1.sub _ g3⟩
theorem je_t0 {m : M (T3 α β γ)} {j : Nat} {p2 : Pos} (h : JE X K b L E e m) (hK : X.K = K := by rfl) : JE X K b L E (.Subscript e (.Constant (.int 0) j p2) pos) (m >>= fun x => pure x.a) := by
  obtain ⟨t, d, p⟩ := h.ex
  refine .of ⟨tOp (rIxT K) t (tC (.int 0)), pe_ix (by rw [← hK]; exact ix_tup) d pe_int (fun _ _ => rfl), fun σ Hi H en Q h => p σ Hi H en _ (h.bind.imp fun x Hi1 H1 n1 k v rv => ?_)⟩
  obtain ⟨q, v1, v2, v3, rfl, g1, g2, g3, g4⟩ := rv
  exact ⟨q, _, 0, v1, rfl, rfl, sqt_mono n1.sub g1, rfl, k.here n1.sub _ g2⟩
theorem je_t1 {m : M (T3 α β γ)} {j : Nat} {p2 : Pos} (h : JE X K b L E e m) (hK : X.K = K := by rfl) : JE X K b L E (.Subscript e (.Constant (.int 1) j p2) pos) (m >>= fun x => pure x.b) := by
  obtain ⟨t, d, p⟩ := h.ex
  refine .of ⟨tOp (rIxT K) t (tC (.int 1)), pe_ix (by rw [← hK]; exact ix_tup) d pe_int (fun _ _ => rfl), fun σ Hi H en Q h => p σ Hi H en _ (h.bind.imp fun x Hi1 H1 n1 k v rv => ?_)⟩
  obtain ⟨q, v1, v2, v3, rfl, g1, g2, g3, g4⟩ := rv
  exact ⟨q, _, 1, v2, rfl, rfl, sqt_mono n1.sub g1, rfl, k.here n1.sub _ g3⟩
theorem je_t2 {m : M (T3 α β γ)} {j : Nat} {p2 : Pos} (h : JE X K b L E e m) (hK : X.K = K := by rfl) : JE X K b L E (.Subscript e (.Constant (.int 2) j p2) pos) (m >>= fun x => pure x.c) := by
  obtain ⟨t, d, p⟩ := h.ex
  refine .of ⟨tOp (rIxT K) t (tC (.int 2)), pe_ix (by rw [← hK]; exact ix_tup) d pe_int (fun _ _ => rfl), fun σ Hi H en Q h => p σ Hi H en _ (h.bind.imp fun x Hi1 H1 n1 k v rv => ?_)⟩
  obtain ⟨q, v1, v2, v3, rfl, g1, g2, g3, g4⟩ := rv
  exact ⟨q, _, 2, v3, rfl, rfl, sqt_mono n1.sub g1, rfl, k.here n1.sub _ g4⟩

/-! slices -/
theorem jo_no : JO X K b L E none (pure none) := .of ⟨tNoPart, po_none, fun σ Hi H en Q h => h.here en.sub⟩
theorem jo_at {m : M Int} (h : JE X K b L E e m) : JO X K b L E (some e) (m >>= fun i => pure (some i)) := by
  obtain ⟨t, d, p⟩ := h.ex
  exact .of ⟨tPart t, po_some d, fun σ Hi H en Q h => p σ Hi H en _ (h.bind.imp fun i Hi' H' n q v rv => ⟨i, rv, q.here n.sub⟩)⟩
variable {lo hi : Option Expr} {ml mh : M (Option Int)} {p2 : Pos}
theorem je_slL {m : M (List α)} (h : JE X K b L E e m) (hl : JO X K b L E lo ml) (hh : JO X K b L E hi mh) (hK : X.K = K := by rfl) :
    JE X K b L E (.Subscript e (.Slice lo hi none p2) pos) (m >>= fun xs => ml >>= fun l => mh >>= fun u => pure (cut xs l u)) := by
  obtain ⟨t, d, p⟩ := h.ex
  obtain ⟨t1, d1, p1⟩ := hl.ex
  obtain ⟨t2, d2, p2⟩ := hh.ex
  refine .of ⟨tSl (rSlL K) t t1 t2, pe_slice (by rw [← hK]; exact sl_list) d d1 d2, fun σ Hi H en Q h => p σ Hi H en _ (h.bind.imp fun xs Hi1 H1 n1 k v rv => p1 σ Hi1 H1 (en.nx n1) _ (k.bind.imp fun l Hi2 H2 n2 k2 => p2 σ Hi2 H2 ((en.nx n1).nx n2) _ (k2.bind.imp fun u Hi3 H3 n3 k3 => ?_)))⟩
  obtain ⟨q, vs, rfl, g1, g2⟩ := rv
  have s3 := (n2.im.trans n3.im)
  refine ⟨q, vs, rfl, Same.seq (s3.trans n3.sub) g1, fun r hr => k3.go (Nx.new n3.sub hr) _ ⟨r, _, rfl, .of upd_same, ?_⟩⟩
  exact ((g2.mono s3).cut l u).mono (same_new (hi_none n3.sub hr))
theorem je_slS {m : M Tx} (h : JE X K b L E e m) (hl : JO X K b L E lo ml) (hh : JO X K b L E hi mh) :
    JE X K b L E (.Subscript e (.Slice lo hi none p2) pos) (m >>= fun xs => ml >>= fun l => mh >>= fun u => cutT xs l u) := by
  obtain ⟨t, d, p⟩ := h.ex
  obtain ⟨t1, d1, p1⟩ := hl.ex
  obtain ⟨t2, d2, p2⟩ := hh.ex
  refine .of ⟨tSl rSlS t t1 t2, pe_slice sl_str d d1 d2, fun σ Hi H en Q h => p σ Hi H en _ (h.bind.imp fun xs Hi1 H1 n1 k v rv => p1 σ Hi1 H1 (en.nx n1) _ (k.bind.imp fun l Hi2 H2 n2 k2 => p2 σ Hi2 H2 ((en.nx n1).nx n2) _ (k2.bind.imp fun u Hi3 H3 n3 k3 => ?_)))⟩
  obtain ⟨c, k4⟩ := PX.chk k3
  refine ⟨S xs, rv, by rw [S_length]; exact c, k4.here n3.sub _ ?_⟩
  refine congrArg V.str ?_
  unfold cutS
  rw [S_length]
  rfl

/-! calls of built-ins, methods of texts -/
theorem je_callB {id : String} {x : Str} {r : List V → Hp → VK → Prop} {f : α → M β} {p : Pos} (hc : CallR X (.builtin id) r) (hr : RA1 K E r f) (hm : mg x = none) (hv : bootBuiltins x = some (.builtin id)) (h : JE X K b L E e m1) (hM : X.mg = mg := by rfl)
    (hg : Gl X x := by rfl) (hn : x ≠ "__name__" := by decide) (hdb : (x == ("__debug__" : Str)) = false := by decide)
    (he : starEach [e] X.env = (false, eval e X.env) :: starEach [] X.env := by rfl) (hpl : (backTo pos (starEach [] X.env)).any (·.1) = false := by rfl) : JE X K b L E (.Call (.Name x p) [e] [] pos) (m1 >>= fun a => f a) := by
  obtain ⟨t, d, q⟩ := h.ex
  refine .of ⟨tCB r (tCons t tNil), pe_callB hc hg (by rw [hM]; exact hm) hv (pa_cons d pa_nil he) hn hdb he hpl, fun σ Hi H en Q h => q σ Hi H en _ (h.bind.imp fun a Hi1 H1 n1 k v rv => ?_)⟩
  exact hr a v Hi1 H1 Q n1.sub rv k
theorem je_callB2 {id : String} {x : Str} {r : List V → Hp → VK → Prop} {f : α → β → M γ} {p : Pos} (hc : CallR X (.builtin id) r) (hr : RA2 K E r f) (hm : mg x = none) (hv : bootBuiltins x = some (.builtin id)) (h1 : JE X K b L E e1 m1) (h2 : JE X K b L E e2 m2) (hM : X.mg = mg := by rfl)
    (hg : Gl X x := by rfl) (hn : x ≠ "__name__" := by decide) (hdb : (x == ("__debug__" : Str)) = false := by decide)
    (he : starEach [e1, e2] X.env = (false, eval e1 X.env) :: starEach [e2] X.env := by rfl) (he2 : starEach [e2] X.env = (false, eval e2 X.env) :: starEach [] X.env := by rfl)
    (hpl : (backTo pos (starEach [e2] X.env)).any (·.1) = false := by rfl) : JE X K b L E (.Call (.Name x p) [e1, e2] [] pos) (m1 >>= fun a => m2 >>= fun c => f a c) := by
  obtain ⟨t, d, q⟩ := h1.ex
  obtain ⟨t2, d2, q2⟩ := h2.ex
  refine .of ⟨tCB r (tCons t (tCons t2 tNil)), pe_callB hc hg (by rw [hM]; exact hm) hv (pa_cons d (pa_cons d2 pa_nil he2) he) hn hdb he hpl, fun σ Hi H en Q h => q σ Hi H en _ (h.bind.imp fun a Hi1 H1 n1 k v rv => q2 σ Hi1 H1 (en.nx n1) _ (k.bind.imp fun c Hi2 H2 n2 k2 w rw => ?_))⟩
  exact hr a c v w Hi2 H2 Q n2.sub (Py.mono n2.im rv) rw k2
theorem je_callTy {T : String} {x : Str} {r : List V → Hp → VK → Prop} {f : α → M β} {p : Pos} (hc : CallR X (.type T) r) (hr : RA1 K E r f) (hm : mg x = none) (hv : bootBuiltins x = some (.type T)) (h : JE X K b L E e m1) (hM : X.mg = mg := by rfl)
    (hg : Gl X x := by rfl) (hn : x ≠ "__name__" := by decide) (hdb : (x == ("__debug__" : Str)) = false := by decide)
    (he : starEach [e] X.env = (false, eval e X.env) :: starEach [] X.env := by rfl) (hpl : (backTo pos (starEach [] X.env)).any (·.1) = false := by rfl) : JE X K b L E (.Call (.Name x p) [e] [] pos) (m1 >>= fun a => f a) := by
  obtain ⟨t, d, q⟩ := h.ex
  refine .of ⟨tCB r (tCons t tNil), pe_callTy hc hg (by rw [hM]; exact hm) hv (pa_cons d pa_nil he) hn hdb he hpl, fun σ Hi H en Q h => q σ Hi H en _ (h.bind.imp fun a Hi1 H1 n1 k v rv => ?_)⟩
  exact hr a v Hi1 H1 Q n1.sub rv k
theorem je_m1 {id : String} {name : Str} {apos : Pos} {r : V → List V → Hp → VK → Prop} {f : Tx → β → M γ} {m : M Tx} (slot : Slot "str" name id) (ty : typeOf (.builtin id) = pure (.type "method_descriptor")) (rule : MtR X id r) (hr : RM1 K E r f) (ho : JE X K b L E e1 m) (he : JE X K b L E e2 m2)
    (hs : starEach [e2] X.env = [(false, eval e2 X.env)] := by rfl) (hbase : attributeBase e1 name X.env (eval e1 X.env) = eval e1 X.env := by rfl) (hline : (apos.endLine == pos.line) = true := by rfl) :
    JE X K b L E (.Call (.Attribute e1 name apos) [e2] [] pos) (m >>= fun x => m2 >>= fun y => f x y) := by
  obtain ⟨t, d, q⟩ := ho.ex
  obtain ⟨t2, d2, q2⟩ := he.ex
  refine .of ⟨tM1 r t t2, pe_m1 slot ty rule d d2 hs hbase hline, fun σ Hi H en Q h => q σ Hi H en _ (h.bind.imp fun a Hi1 H1 n1 k v rv => ⟨⟨_, rv⟩, q2 σ Hi1 H1 (en.nx n1) _ (k.bind.imp fun c Hi2 H2 n2 k2 w rw => ?_)⟩)⟩
  exact hr a c v w Hi2 H2 Q n2.sub (Py.mono n2.im rv) rw k2
theorem je_m0 {id : String} {name : Str} {apos : Pos} {r : V → List V → Hp → VK → Prop} {f : Tx → M γ} {m : M Tx} (slot : Slot "str" name id) (ty : typeOf (.builtin id) = pure (.type "method_descriptor")) (rule : MtR X id r) (hr : RM0 K E r f) (ho : JE X K b L E e1 m)
    (hbase : attributeBase e1 name X.env (eval e1 X.env) = eval e1 X.env := by rfl) (hline : (apos.endLine == pos.line) = true := by rfl) :
    JE X K b L E (.Call (.Attribute e1 name apos) [] [] pos) (m >>= fun x => f x) := by
  obtain ⟨t, d, q⟩ := ho.ex
  refine .of ⟨tM0 r t, pe_m0 slot ty rule d hbase hline, fun σ Hi H en Q h => q σ Hi H en _ (h.bind.imp fun a Hi1 H1 n1 k v rv => ⟨⟨_, rv⟩, ?_⟩)⟩
  exact hr a v Hi1 H1 Q n1.sub rv k
end
end G

set_option Elab.async false
set_option linter.all false
set_option maxRecDepth 100000
set_option maxHeartbeats 2000000
namespace G
open PySem L2 TL

/-! ### statements -/
def PZ (K : Fg) (E : XK) (b : Bs) {α : Type} (m : M α) (post : α → Prop) : Prop := match m with
  | .ok a => post a
  | .error (.rs c) => ∀ Hi' H', Ok b Hi' H' → E (.ref (He.ga K c)) none H'
  | .error .st => False
section
variable {K : Fg} {E : XK} {b : Bs} {L : List En} {σ : L2.St} {Hi H : Hp} {α β : Type} {m : M α} {f : α → M β}
theorem PZ.bind {post : β → Prop} (en : EnvOk b L σ Hi H) (h : PZ K E b (m >>= f) post) : PX K E m Hi H fun a _ _ => PZ K E b (f a) post := by
  cases m with
  | ok a => exact fun _ _ _ => h
  | error e =>
    cases e with
    | rs c => exact fun _ _ y => h _ _ (en.nx y).ok
    | st => exact h
theorem PZ.bindz {post : β → Prop} (h : PZ K E b (m >>= f) post) : PZ K E b m fun a => PZ K E b (f a) post := by
  cases m with
  | ok a => exact h
  | error e => cases e <;> exact h
theorem PZ.imp {post post' : α → Prop} (h : PZ K E b m post) (i : ∀ a, post a → post' a) : PZ K E b m post' := by
  cases m with
  | ok a => exact i a h
  | error e => cases e <;> exact h
theorem PZ.px {post : α → Prop} (en : EnvOk b L σ Hi H) (h : PZ K E b m post) : PX K E m Hi H fun a _ _ => post a := by
  cases m with
  | ok a => exact fun _ _ _ => h
  | error e =>
    cases e with
    | rs c => exact fun _ _ y => h _ _ (en.nx y).ok
    | st => exact h
theorem PZ.chk {p : Prop} [Decidable p] {g : Unit → M β} {post : β → Prop} (h : PZ K E b (G.chk p >>= g) post) : p ∧ PZ K E b (g ()) post := by
  unfold G.chk at h
  by_cases hp : p
  · rw [if_pos hp] at h; exact ⟨hp, h⟩
  · rw [if_neg hp] at h; exact h.elim
end
structure J1 (X : Cx) (K : Fg) (b : Bs) (L : List En) (E : XK) (st : Stmt) {S : Type} (m : M S) (Lf : S → List En) : Prop where
  go : ∀ σ Hi H, EnvOk b L σ Hi H → ∀ D : Ends, PZ K E b m (fun s => ∀ σ' Hi' H', EnvOk b (Lf s) σ' Hi' H' → D.nx σ' H') → wpS X st D σ H
structure JS (X : Cx) (K : Fg) (b : Bs) (L : List En) (E : XK) (ss : List Stmt) (tl : Ends → Prop) {α : Type} (m : M α) (post : α → Ends → Prop) : Prop where
  go : ∀ σ Hi H, EnvOk b L σ Hi H → ∀ D : Ends, tl D → PZ K E b m (fun a => post a D) → wpB X ss D σ H
/-- what ends a loop's turn -/
inductive Tl (S R : Type) where
  | ct (s : S)
  | bk (s : S)
  | rt (r : R)
abbrev tlAny : Ends → Prop := fun _ => True
abbrev tlFn : Ends → Prop := fun D => ∀ σ H, D.rt .non H → D.nx σ H
abbrev tlLp : Ends → Prop := fun D => ∀ σ H, D.ct σ H → D.nx σ H
def pRt (K : Fg) (b : Bs) {R : Type} [Py R] (r : R) (D : Ends) : Prop := ∀ v Hi' H', Ok b Hi' H' → Py.rep K Hi' r v → D.rt v H'
def pNx (b : Bs) {S : Type} (Lf : S → List En) (s : S) (D : Ends) : Prop := ∀ σ' Hi' H', EnvOk b (Lf s) σ' Hi' H' → D.nx σ' H'
def pTl (K : Fg) (b : Bs) {S R : Type} [Py R] (Lf : S → List En) (t : Tl S R) (D : Ends) : Prop := match t with
  | .ct s => ∀ σ' Hi' H', EnvOk b (Lf s) σ' Hi' H' → D.ct σ' H'
  | .bk s => ∀ σ' Hi' H', EnvOk b (Lf s) σ' Hi' H' → D.bk σ' H'
  | .rt r => pRt K b r D
/-- a post that does not ask what follows -/
def PiOk {α : Type} (post : α → Ends → Prop) : Prop := ∀ a D f, post a D → post a { D with nx := f }
theorem pi_rt {K : Fg} {b : Bs} {R : Type} [Py R] : PiOk (pRt K b (R := R)) := fun _ _ _ h => h
theorem pi_tl {K : Fg} {b : Bs} {S R : Type} [Py R] {Lf : S → List En} : PiOk (pTl K b (R := R) Lf) := fun a _ _ h => by
  cases a <;> exact h

/-- a def of the module -/
structure OkF (P : Program) (w : World) (K : Fg) (mg : Str → Option Value) (base : Heap) (x : Str) (k : Nat) (sp : Sp) : Prop where
  ex : ∃ f fd ps, mg x = some (.ref f) ∧ PySem.W.keepIn K (.ref f) = true ∧ FnOk P w K mg base (L2.CX P w) k f fd ps sp ∧ Binds K fd ps []
theorem EnvOk.start {Hi H : Hp} {ps : List Pr} {vs : List V} {k : Nat} {N : List Str} (sm : Same Hi H) (hk : N.length - vs.length = k) (r : Paired (fun (p : Pr) v => p.r Hi v) ps vs) :
    EnvOk ⟨Hi, H, []⟩ (ps.map En.im ++ List.replicate k En.no) (start N vs) Hi H := by
  have hl : ps.length = vs.length := Paired.length r
  have nomu : ∀ (i : Nat) (c : Ct), (ps.map En.im ++ List.replicate k En.no)[i]? ≠ some (.mu c) := fun i c h => by
    rcases List.mem_append.mp (List.mem_of_getElem? h) with q | q
    · obtain ⟨_, _, z⟩ := List.mem_map.mp q
      cases z
    · cases (List.mem_replicate.mp q).2
  refine ⟨⟨sm, Same.refl _, fun _ _ _ h => h, fun _ h => h, fun _ _ h => h⟩, ?_, fun i p h => ?_, fun i c h => absurd h (nomu i c), fun i _ c _ _ h => absurd h (nomu i c)⟩
  · unfold L2.start
    rw [List.length_append, List.length_append, List.length_map, List.length_map, List.length_replicate, List.length_replicate, hl, hk]
  · by_cases hi : i < ps.length
    · rw [List.getElem?_append_left (by rw [List.length_map]; exact hi), List.getElem?_map] at h
      cases q : ps[i]? with
      | none => rw [q] at h; cases h
      | some p' =>
        rw [q] at h
        cases h
        have key : ∀ {ps : List Pr} {vs : List V} (_ : Paired (fun (p : Pr) v => p.r Hi v) ps vs) {i : Nat} {p : Pr}, ps[i]? = some p → ∃ v, vs[i]? = some v ∧ p.r Hi v := by
          intro ps vs r
          induction r with
          | nil => intro i p h; simp at h
          | cons r t ih =>
            intro i p h
            cases i with
            | zero => simp at h; subst h; exact ⟨_, rfl, r⟩
            | succ i => exact ih (by simpa using h)
        obtain ⟨v, h1, h2⟩ := key r q
        refine ⟨v, ?_, h2⟩
        unfold L2.start
        rw [List.getElem?_append_left (by rw [List.length_map]; exact (List.getElem?_eq_some_iff.mp h1).1), List.getElem?_map, h1]
        rfl
    · rw [List.getElem?_append_right (by rw [List.length_map]; omega)] at h
      have := List.mem_of_getElem? h
      cases (List.mem_replicate.mp this).2
theorem PZ.of_fn {K : Fg} {E : XK} {R : Type} [Py R] {m : M R} {Hi H : Hp} {Q : VK} {bkk ctt : L2.St → Hp → Prop} (h : PV K E m Hi H Q) : PZ K E ⟨Hi, H, []⟩ m (fun a => pRt K ⟨Hi, H, []⟩ a { nx := fun _ H' => Q .non H', rt := Q, bk := bkk, ct := ctt }) := by
  have key : ∀ {Hi' H' : Hp}, Ok ⟨Hi, H, []⟩ Hi' H' → Nx Hi H Hi' H' := fun {Hi' H'} o => ⟨o.base, fun a u e => o.fr a u (by simp) e, o.sub, o.cap⟩
  cases m with
  | ok a => exact fun v Hi' H' o r => h Hi' H' (key o) v r
  | error e =>
    cases e with
    | rs c => exact fun Hi' H' o => h Hi' H' (key o)
    | st => exact h
def sp1 (K : Fg) {α0 ρ : Type} [Py α0] [Py ρ] (f : α0 → M ρ) : Sp := fun vs H Q E => ∃ (a0 : α0) (v0 : V) (Hi : Hp), vs = [v0] ∧ Same Hi H ∧ Py.rep K Hi a0 v0 ∧ PV K E (f a0) Hi H Q
theorem je_call1 {α0 ρ : Type} [Py α0] [Py ρ] {X : Cx} {K : Fg} {b : Bs} {L : List En} {E : XK} {e0 : Expr} {m0 : M α0} {f : α0 → M ρ} {x : Str} {p pos : Pos} {k : Nat} (F : OkF X.prog X.w X.K X.mg X.base x k (sp1 K f)) (hr : Room k X.A) (hx : Passes (L2.CX X.prog X.w) X E) (h0 : JE X K b L E e0 m0) (hg : Gl X x := by rfl) (hdb : (x == ("__debug__" : Str)) = false := by decide) (s0 : starEach [e0] X.env = (false, eval e0 X.env) :: starEach [] X.env := by rfl) (hpl : (backTo pos (starEach [] X.env)).any (·.1) = false := by rfl) : JE X K b L E (.Call (.Name x p) [e0] [] pos) (m0 >>= fun a0 => f a0) := by
  obtain ⟨fa, fd, ps, F1, F2, F3, F4⟩ := F.ex
  obtain ⟨t0, d0, q0⟩ := h0.ex
  refine .of ⟨tCall (sp1 K f) [] E (tCons t0 tNil), pe_call F3 hr hg F1 F2 F4 .nil hx (pa_cons d0 pa_nil s0) hdb s0 hpl, fun σ Hi H en Q h => ?_⟩
  refine q0 σ Hi H en _ ((h).bind.imp fun a0 Hi1 H1 n1 k1 v0 r0 => ?_)
  exact ⟨a0, v0, _, rfl, n1.sub, r0, k1⟩
theorem mkC1 {α0 ρ : Type} [Py α0] [Py ρ] {P : Program} {w : World} {K : Fg} {mg : Str → Option Value} {base : Heap} {x : Str} {N : List Str} {p0 : Str} {args : Arguments} {body : List Stmt} {sc : Scope} {k : Nat} {f : α0 → M ρ} {fd : FuncData} (F : FunD K x x args body sc [] [] (He.ga K x) fd) (S : FnScope N [p0] sc)
    (h : ∀ (cdv : Value) (A : Around) (outer : List Env) (s : Shared) (H : Hp) (E : XK), Room k (cxOf (L2.CX P w) P w K mg base N x sc (He.ga K x) cdv A outer s H E).A → ∀ (a0 : α0) (b : Bs), b.own = [] → JS (cxOf (L2.CX P w) P w K mg base N x sc (He.ga K x) cdv A outer s H E) K b ([.im (rp K a0)] ++ List.replicate (N.length - 1) .no) E body tlFn (f a0) (pRt K b)) : FnOk P w K mg base (L2.CX P w) (k + 1) (He.ga K x) fd [p0] (sp1 K f) := by
  refine F.ok S (fun vs H Q E hh => ?_) (fun cdv A outer s H vs Q E hr hh => ?_)
  · obtain ⟨a0, v0, Hi, rfl, _⟩ := hh
    rfl
  · obtain ⟨a0, v0, Hi, rfl, sm, r0, q⟩ := hh
    refine ⟨_, pss_wp, (h cdv A outer s H E hr a0 ⟨Hi, H, []⟩ rfl).go _ Hi H ?_ _ (fun σ' H' z => z) ?_⟩
    · exact EnvOk.start (ps := [rp K a0]) sm rfl (Paired.cons r0 Paired.nil)
    · exact PZ.of_fn q
theorem mkF1 {α0 ρ : Type} [Py α0] [Py ρ] {P : Program} {w : World} {K : Fg} {mg : Str → Option Value} {base : Heap} {x : Str} {N : List Str} {p0 : Str} {args : Arguments} {body : List Stmt} {sc : Scope} {k : Nat} {f : α0 → M ρ} (F : ∃ fd, FunD K x x args body sc [] [] (He.ga K x) fd) (g : mg x = some (.ref (He.ga K x))) (S : FnScope N [p0] sc)
    (hb : ∀ (kV doc pm : Value) (an : Option Addr) (cdv ct : Value) (us : List Value), us.length = [p0].length → bindArgs (PySem.W.fnOf x x args body sc .none kV doc pm an cdv ct) ⟨us, []⟩ = pure ([p0].zip us))
    (h : ∀ (cdv : Value) (A : Around) (outer : List Env) (s : Shared) (H : Hp) (E : XK), Room k (cxOf (L2.CX P w) P w K mg base N x sc (He.ga K x) cdv A outer s H E).A → ∀ (a0 : α0) (b : Bs), b.own = [] → JS (cxOf (L2.CX P w) P w K mg base N x sc (He.ga K x) cdv A outer s H E) K b ([.im (rp K a0)] ++ List.replicate (N.length - 1) .no) E body tlFn (f a0) (pRt K b)) : OkF P w K mg base x (k + 1) (sp1 K f) := by
  obtain ⟨fd, F⟩ := F
  exact ⟨_, fd, [p0], g, F.kp, mkC1 F S h, F.bindsN hb⟩
def sp2 (K : Fg) {α0 α1 ρ : Type} [Py α0] [Py α1] [Py ρ] (f : α0 → α1 → M ρ) : Sp := fun vs H Q E => ∃ (a0 : α0) (a1 : α1) (v0 v1 : V) (Hi : Hp), vs = [v0, v1] ∧ Same Hi H ∧ Py.rep K Hi a0 v0 ∧ Py.rep K Hi a1 v1 ∧ PV K E (f a0 a1) Hi H Q
theorem je_call2 {α0 α1 ρ : Type} [Py α0] [Py α1] [Py ρ] {X : Cx} {K : Fg} {b : Bs} {L : List En} {E : XK} {e0 e1 : Expr} {m0 : M α0} {m1 : M α1} {f : α0 → α1 → M ρ} {x : Str} {p pos : Pos} {k : Nat} (F : OkF X.prog X.w X.K X.mg X.base x k (sp2 K f)) (hr : Room k X.A) (hx : Passes (L2.CX X.prog X.w) X E) (h0 : JE X K b L E e0 m0) (h1 : JE X K b L E e1 m1) (hg : Gl X x := by rfl) (hdb : (x == ("__debug__" : Str)) = false := by decide) (s0 : starEach [e0, e1] X.env = (false, eval e0 X.env) :: starEach [e1] X.env := by rfl) (s1 : starEach [e1] X.env = (false, eval e1 X.env) :: starEach [] X.env := by rfl) (hpl : (backTo pos (starEach [e1] X.env)).any (·.1) = false := by rfl) : JE X K b L E (.Call (.Name x p) [e0, e1] [] pos) (m0 >>= fun a0 => m1 >>= fun a1 => f a0 a1) := by
  obtain ⟨fa, fd, ps, F1, F2, F3, F4⟩ := F.ex
  obtain ⟨t0, d0, q0⟩ := h0.ex
  obtain ⟨t1, d1, q1⟩ := h1.ex
  refine .of ⟨tCall (sp2 K f) [] E (tCons t0 (tCons t1 tNil)), pe_call F3 hr hg F1 F2 F4 .nil hx (pa_cons d0 (pa_cons d1 pa_nil s1) s0) hdb s0 hpl, fun σ Hi H en Q h => ?_⟩
  refine q0 σ Hi H en _ ((h).bind.imp fun a0 Hi1 H1 n1 k1 v0 r0 => ?_)
  refine q1 σ Hi1 H1 (en.nx n1) _ ((k1).bind.imp fun a1 Hi2 H2 n2 k2 v1 r1 => ?_)
  exact ⟨a0, a1, v0, v1, _, rfl, n2.sub, (Py.mono n2.im r0), r1, k2⟩
theorem mkC2 {α0 α1 ρ : Type} [Py α0] [Py α1] [Py ρ] {P : Program} {w : World} {K : Fg} {mg : Str → Option Value} {base : Heap} {x : Str} {N : List Str} {p0 p1 : Str} {args : Arguments} {body : List Stmt} {sc : Scope} {k : Nat} {f : α0 → α1 → M ρ} {fd : FuncData} (F : FunD K x x args body sc [] [] (He.ga K x) fd) (S : FnScope N [p0, p1] sc)
    (h : ∀ (cdv : Value) (A : Around) (outer : List Env) (s : Shared) (H : Hp) (E : XK), Room k (cxOf (L2.CX P w) P w K mg base N x sc (He.ga K x) cdv A outer s H E).A → ∀ (a0 : α0) (a1 : α1) (b : Bs), b.own = [] → JS (cxOf (L2.CX P w) P w K mg base N x sc (He.ga K x) cdv A outer s H E) K b ([.im (rp K a0), .im (rp K a1)] ++ List.replicate (N.length - 2) .no) E body tlFn (f a0 a1) (pRt K b)) : FnOk P w K mg base (L2.CX P w) (k + 1) (He.ga K x) fd [p0, p1] (sp2 K f) := by
  refine F.ok S (fun vs H Q E hh => ?_) (fun cdv A outer s H vs Q E hr hh => ?_)
  · obtain ⟨a0, a1, v0, v1, Hi, rfl, _⟩ := hh
    rfl
  · obtain ⟨a0, a1, v0, v1, Hi, rfl, sm, r0, r1, q⟩ := hh
    refine ⟨_, pss_wp, (h cdv A outer s H E hr a0 a1 ⟨Hi, H, []⟩ rfl).go _ Hi H ?_ _ (fun σ' H' z => z) ?_⟩
    · exact EnvOk.start (ps := [rp K a0, rp K a1]) sm rfl (Paired.cons r0 (Paired.cons r1 Paired.nil))
    · exact PZ.of_fn q
theorem mkF2 {α0 α1 ρ : Type} [Py α0] [Py α1] [Py ρ] {P : Program} {w : World} {K : Fg} {mg : Str → Option Value} {base : Heap} {x : Str} {N : List Str} {p0 p1 : Str} {args : Arguments} {body : List Stmt} {sc : Scope} {k : Nat} {f : α0 → α1 → M ρ} (F : ∃ fd, FunD K x x args body sc [] [] (He.ga K x) fd) (g : mg x = some (.ref (He.ga K x))) (S : FnScope N [p0, p1] sc)
    (hb : ∀ (kV doc pm : Value) (an : Option Addr) (cdv ct : Value) (us : List Value), us.length = [p0, p1].length → bindArgs (PySem.W.fnOf x x args body sc .none kV doc pm an cdv ct) ⟨us, []⟩ = pure ([p0, p1].zip us))
    (h : ∀ (cdv : Value) (A : Around) (outer : List Env) (s : Shared) (H : Hp) (E : XK), Room k (cxOf (L2.CX P w) P w K mg base N x sc (He.ga K x) cdv A outer s H E).A → ∀ (a0 : α0) (a1 : α1) (b : Bs), b.own = [] → JS (cxOf (L2.CX P w) P w K mg base N x sc (He.ga K x) cdv A outer s H E) K b ([.im (rp K a0), .im (rp K a1)] ++ List.replicate (N.length - 2) .no) E body tlFn (f a0 a1) (pRt K b)) : OkF P w K mg base x (k + 1) (sp2 K f) := by
  obtain ⟨fd, F⟩ := F
  exact ⟨_, fd, [p0, p1], g, F.kp, mkC2 F S h, F.bindsN hb⟩
def sp3 (K : Fg) {α0 α1 α2 ρ : Type} [Py α0] [Py α1] [Py α2] [Py ρ] (f : α0 → α1 → α2 → M ρ) : Sp := fun vs H Q E => ∃ (a0 : α0) (a1 : α1) (a2 : α2) (v0 v1 v2 : V) (Hi : Hp), vs = [v0, v1, v2] ∧ Same Hi H ∧ Py.rep K Hi a0 v0 ∧ Py.rep K Hi a1 v1 ∧ Py.rep K Hi a2 v2 ∧ PV K E (f a0 a1 a2) Hi H Q
theorem je_call3 {α0 α1 α2 ρ : Type} [Py α0] [Py α1] [Py α2] [Py ρ] {X : Cx} {K : Fg} {b : Bs} {L : List En} {E : XK} {e0 e1 e2 : Expr} {m0 : M α0} {m1 : M α1} {m2 : M α2} {f : α0 → α1 → α2 → M ρ} {x : Str} {p pos : Pos} {k : Nat} (F : OkF X.prog X.w X.K X.mg X.base x k (sp3 K f)) (hr : Room k X.A) (hx : Passes (L2.CX X.prog X.w) X E) (h0 : JE X K b L E e0 m0) (h1 : JE X K b L E e1 m1) (h2 : JE X K b L E e2 m2) (hg : Gl X x := by rfl) (hdb : (x == ("__debug__" : Str)) = false := by decide) (s0 : starEach [e0, e1, e2] X.env = (false, eval e0 X.env) :: starEach [e1, e2] X.env := by rfl) (s1 : starEach [e1, e2] X.env = (false, eval e1 X.env) :: starEach [e2] X.env := by rfl) (s2 : starEach [e2] X.env = (false, eval e2 X.env) :: starEach [] X.env := by rfl) (hpl : (backTo pos (starEach [e1, e2] X.env)).any (·.1) = false := by rfl) : JE X K b L E (.Call (.Name x p) [e0, e1, e2] [] pos) (m0 >>= fun a0 => m1 >>= fun a1 => m2 >>= fun a2 => f a0 a1 a2) := by
  obtain ⟨fa, fd, ps, F1, F2, F3, F4⟩ := F.ex
  obtain ⟨t0, d0, q0⟩ := h0.ex
  obtain ⟨t1, d1, q1⟩ := h1.ex
  obtain ⟨t2, d2, q2⟩ := h2.ex
  refine .of ⟨tCall (sp3 K f) [] E (tCons t0 (tCons t1 (tCons t2 tNil))), pe_call F3 hr hg F1 F2 F4 .nil hx (pa_cons d0 (pa_cons d1 (pa_cons d2 pa_nil s2) s1) s0) hdb s0 hpl, fun σ Hi H en Q h => ?_⟩
  refine q0 σ Hi H en _ ((h).bind.imp fun a0 Hi1 H1 n1 k1 v0 r0 => ?_)
  refine q1 σ Hi1 H1 (en.nx n1) _ ((k1).bind.imp fun a1 Hi2 H2 n2 k2 v1 r1 => ?_)
  refine q2 σ Hi2 H2 ((en.nx n1).nx n2) _ ((k2).bind.imp fun a2 Hi3 H3 n3 k3 v2 r2 => ?_)
  exact ⟨a0, a1, a2, v0, v1, v2, _, rfl, n3.sub, (Py.mono n3.im (Py.mono n2.im r0)), (Py.mono n3.im r1), r2, k3⟩
theorem mkC3 {α0 α1 α2 ρ : Type} [Py α0] [Py α1] [Py α2] [Py ρ] {P : Program} {w : World} {K : Fg} {mg : Str → Option Value} {base : Heap} {x : Str} {N : List Str} {p0 p1 p2 : Str} {args : Arguments} {body : List Stmt} {sc : Scope} {k : Nat} {f : α0 → α1 → α2 → M ρ} {fd : FuncData} (F : FunD K x x args body sc [] [] (He.ga K x) fd) (S : FnScope N [p0, p1, p2] sc)
    (h : ∀ (cdv : Value) (A : Around) (outer : List Env) (s : Shared) (H : Hp) (E : XK), Room k (cxOf (L2.CX P w) P w K mg base N x sc (He.ga K x) cdv A outer s H E).A → ∀ (a0 : α0) (a1 : α1) (a2 : α2) (b : Bs), b.own = [] → JS (cxOf (L2.CX P w) P w K mg base N x sc (He.ga K x) cdv A outer s H E) K b ([.im (rp K a0), .im (rp K a1), .im (rp K a2)] ++ List.replicate (N.length - 3) .no) E body tlFn (f a0 a1 a2) (pRt K b)) : FnOk P w K mg base (L2.CX P w) (k + 1) (He.ga K x) fd [p0, p1, p2] (sp3 K f) := by
  refine F.ok S (fun vs H Q E hh => ?_) (fun cdv A outer s H vs Q E hr hh => ?_)
  · obtain ⟨a0, a1, a2, v0, v1, v2, Hi, rfl, _⟩ := hh
    rfl
  · obtain ⟨a0, a1, a2, v0, v1, v2, Hi, rfl, sm, r0, r1, r2, q⟩ := hh
    refine ⟨_, pss_wp, (h cdv A outer s H E hr a0 a1 a2 ⟨Hi, H, []⟩ rfl).go _ Hi H ?_ _ (fun σ' H' z => z) ?_⟩
    · exact EnvOk.start (ps := [rp K a0, rp K a1, rp K a2]) sm rfl (Paired.cons r0 (Paired.cons r1 (Paired.cons r2 Paired.nil)))
    · exact PZ.of_fn q
theorem mkF3 {α0 α1 α2 ρ : Type} [Py α0] [Py α1] [Py α2] [Py ρ] {P : Program} {w : World} {K : Fg} {mg : Str → Option Value} {base : Heap} {x : Str} {N : List Str} {p0 p1 p2 : Str} {args : Arguments} {body : List Stmt} {sc : Scope} {k : Nat} {f : α0 → α1 → α2 → M ρ} (F : ∃ fd, FunD K x x args body sc [] [] (He.ga K x) fd) (g : mg x = some (.ref (He.ga K x))) (S : FnScope N [p0, p1, p2] sc)
    (hb : ∀ (kV doc pm : Value) (an : Option Addr) (cdv ct : Value) (us : List Value), us.length = [p0, p1, p2].length → bindArgs (PySem.W.fnOf x x args body sc .none kV doc pm an cdv ct) ⟨us, []⟩ = pure ([p0, p1, p2].zip us))
    (h : ∀ (cdv : Value) (A : Around) (outer : List Env) (s : Shared) (H : Hp) (E : XK), Room k (cxOf (L2.CX P w) P w K mg base N x sc (He.ga K x) cdv A outer s H E).A → ∀ (a0 : α0) (a1 : α1) (a2 : α2) (b : Bs), b.own = [] → JS (cxOf (L2.CX P w) P w K mg base N x sc (He.ga K x) cdv A outer s H E) K b ([.im (rp K a0), .im (rp K a1), .im (rp K a2)] ++ List.replicate (N.length - 3) .no) E body tlFn (f a0 a1 a2) (pRt K b)) : OkF P w K mg base x (k + 1) (sp3 K f) := by
  obtain ⟨fd, F⟩ := F
  exact ⟨_, fd, [p0, p1, p2], g, F.kp, mkC3 F S h, F.bindsN hb⟩
def sp4 (K : Fg) {α0 α1 α2 α3 ρ : Type} [Py α0] [Py α1] [Py α2] [Py α3] [Py ρ] (f : α0 → α1 → α2 → α3 → M ρ) : Sp := fun vs H Q E => ∃ (a0 : α0) (a1 : α1) (a2 : α2) (a3 : α3) (v0 v1 v2 v3 : V) (Hi : Hp), vs = [v0, v1, v2, v3] ∧ Same Hi H ∧ Py.rep K Hi a0 v0 ∧ Py.rep K Hi a1 v1 ∧ Py.rep K Hi a2 v2 ∧ Py.rep K Hi a3 v3 ∧ PV K E (f a0 a1 a2 a3) Hi H Q
theorem je_call4 {α0 α1 α2 α3 ρ : Type} [Py α0] [Py α1] [Py α2] [Py α3] [Py ρ] {X : Cx} {K : Fg} {b : Bs} {L : List En} {E : XK} {e0 e1 e2 e3 : Expr} {m0 : M α0} {m1 : M α1} {m2 : M α2} {m3 : M α3} {f : α0 → α1 → α2 → α3 → M ρ} {x : Str} {p pos : Pos} {k : Nat} (F : OkF X.prog X.w X.K X.mg X.base x k (sp4 K f)) (hr : Room k X.A) (hx : Passes (L2.CX X.prog X.w) X E) (h0 : JE X K b L E e0 m0) (h1 : JE X K b L E e1 m1) (h2 : JE X K b L E e2 m2) (h3 : JE X K b L E e3 m3) (hg : Gl X x := by rfl) (hdb : (x == ("__debug__" : Str)) = false := by decide) (s0 : starEach [e0, e1, e2, e3] X.env = (false, eval e0 X.env) :: starEach [e1, e2, e3] X.env := by rfl) (s1 : starEach [e1, e2, e3] X.env = (false, eval e1 X.env) :: starEach [e2, e3] X.env := by rfl) (s2 : starEach [e2, e3] X.env = (false, eval e2 X.env) :: starEach [e3] X.env := by rfl) (s3 : starEach [e3] X.env = (false, eval e3 X.env) :: starEach [] X.env := by rfl) (hpl : (backTo pos (starEach [e1, e2, e3] X.env)).any (·.1) = false := by rfl) : JE X K b L E (.Call (.Name x p) [e0, e1, e2, e3] [] pos) (m0 >>= fun a0 => m1 >>= fun a1 => m2 >>= fun a2 => m3 >>= fun a3 => f a0 a1 a2 a3) := by
  obtain ⟨fa, fd, ps, F1, F2, F3, F4⟩ := F.ex
  obtain ⟨t0, d0, q0⟩ := h0.ex
  obtain ⟨t1, d1, q1⟩ := h1.ex
  obtain ⟨t2, d2, q2⟩ := h2.ex
  obtain ⟨t3, d3, q3⟩ := h3.ex
  refine .of ⟨tCall (sp4 K f) [] E (tCons t0 (tCons t1 (tCons t2 (tCons t3 tNil)))), pe_call F3 hr hg F1 F2 F4 .nil hx (pa_cons d0 (pa_cons d1 (pa_cons d2 (pa_cons d3 pa_nil s3) s2) s1) s0) hdb s0 hpl, fun σ Hi H en Q h => ?_⟩
  refine q0 σ Hi H en _ ((h).bind.imp fun a0 Hi1 H1 n1 k1 v0 r0 => ?_)
  refine q1 σ Hi1 H1 (en.nx n1) _ ((k1).bind.imp fun a1 Hi2 H2 n2 k2 v1 r1 => ?_)
  refine q2 σ Hi2 H2 ((en.nx n1).nx n2) _ ((k2).bind.imp fun a2 Hi3 H3 n3 k3 v2 r2 => ?_)
  refine q3 σ Hi3 H3 (((en.nx n1).nx n2).nx n3) _ ((k3).bind.imp fun a3 Hi4 H4 n4 k4 v3 r3 => ?_)
  exact ⟨a0, a1, a2, a3, v0, v1, v2, v3, _, rfl, n4.sub, (Py.mono n4.im (Py.mono n3.im (Py.mono n2.im r0))), (Py.mono n4.im (Py.mono n3.im r1)), (Py.mono n4.im r2), r3, k4⟩
theorem mkC4 {α0 α1 α2 α3 ρ : Type} [Py α0] [Py α1] [Py α2] [Py α3] [Py ρ] {P : Program} {w : World} {K : Fg} {mg : Str → Option Value} {base : Heap} {x : Str} {N : List Str} {p0 p1 p2 p3 : Str} {args : Arguments} {body : List Stmt} {sc : Scope} {k : Nat} {f : α0 → α1 → α2 → α3 → M ρ} {fd : FuncData} (F : FunD K x x args body sc [] [] (He.ga K x) fd) (S : FnScope N [p0, p1, p2, p3] sc)
    (h : ∀ (cdv : Value) (A : Around) (outer : List Env) (s : Shared) (H : Hp) (E : XK), Room k (cxOf (L2.CX P w) P w K mg base N x sc (He.ga K x) cdv A outer s H E).A → ∀ (a0 : α0) (a1 : α1) (a2 : α2) (a3 : α3) (b : Bs), b.own = [] → JS (cxOf (L2.CX P w) P w K mg base N x sc (He.ga K x) cdv A outer s H E) K b ([.im (rp K a0), .im (rp K a1), .im (rp K a2), .im (rp K a3)] ++ List.replicate (N.length - 4) .no) E body tlFn (f a0 a1 a2 a3) (pRt K b)) : FnOk P w K mg base (L2.CX P w) (k + 1) (He.ga K x) fd [p0, p1, p2, p3] (sp4 K f) := by
  refine F.ok S (fun vs H Q E hh => ?_) (fun cdv A outer s H vs Q E hr hh => ?_)
  · obtain ⟨a0, a1, a2, a3, v0, v1, v2, v3, Hi, rfl, _⟩ := hh
    rfl
  · obtain ⟨a0, a1, a2, a3, v0, v1, v2, v3, Hi, rfl, sm, r0, r1, r2, r3, q⟩ := hh
    refine ⟨_, pss_wp, (h cdv A outer s H E hr a0 a1 a2 a3 ⟨Hi, H, []⟩ rfl).go _ Hi H ?_ _ (fun σ' H' z => z) ?_⟩
    · exact EnvOk.start (ps := [rp K a0, rp K a1, rp K a2, rp K a3]) sm rfl (Paired.cons r0 (Paired.cons r1 (Paired.cons r2 (Paired.cons r3 Paired.nil))))
    · exact PZ.of_fn q
theorem mkF4 {α0 α1 α2 α3 ρ : Type} [Py α0] [Py α1] [Py α2] [Py α3] [Py ρ] {P : Program} {w : World} {K : Fg} {mg : Str → Option Value} {base : Heap} {x : Str} {N : List Str} {p0 p1 p2 p3 : Str} {args : Arguments} {body : List Stmt} {sc : Scope} {k : Nat} {f : α0 → α1 → α2 → α3 → M ρ} (F : ∃ fd, FunD K x x args body sc [] [] (He.ga K x) fd) (g : mg x = some (.ref (He.ga K x))) (S : FnScope N [p0, p1, p2, p3] sc)
    (hb : ∀ (kV doc pm : Value) (an : Option Addr) (cdv ct : Value) (us : List Value), us.length = [p0, p1, p2, p3].length → bindArgs (PySem.W.fnOf x x args body sc .none kV doc pm an cdv ct) ⟨us, []⟩ = pure ([p0, p1, p2, p3].zip us))
    (h : ∀ (cdv : Value) (A : Around) (outer : List Env) (s : Shared) (H : Hp) (E : XK), Room k (cxOf (L2.CX P w) P w K mg base N x sc (He.ga K x) cdv A outer s H E).A → ∀ (a0 : α0) (a1 : α1) (a2 : α2) (a3 : α3) (b : Bs), b.own = [] → JS (cxOf (L2.CX P w) P w K mg base N x sc (He.ga K x) cdv A outer s H E) K b ([.im (rp K a0), .im (rp K a1), .im (rp K a2), .im (rp K a3)] ++ List.replicate (N.length - 4) .no) E body tlFn (f a0 a1 a2 a3) (pRt K b)) : OkF P w K mg base x (k + 1) (sp4 K f) := by
  obtain ⟨fd, F⟩ := F
  exact ⟨_, fd, [p0, p1, p2, p3], g, F.kp, mkC4 F S h, F.bindsN hb⟩
def sp5 (K : Fg) {α0 α1 α2 α3 α4 ρ : Type} [Py α0] [Py α1] [Py α2] [Py α3] [Py α4] [Py ρ] (f : α0 → α1 → α2 → α3 → α4 → M ρ) : Sp := fun vs H Q E => ∃ (a0 : α0) (a1 : α1) (a2 : α2) (a3 : α3) (a4 : α4) (v0 v1 v2 v3 v4 : V) (Hi : Hp), vs = [v0, v1, v2, v3, v4] ∧ Same Hi H ∧ Py.rep K Hi a0 v0 ∧ Py.rep K Hi a1 v1 ∧ Py.rep K Hi a2 v2 ∧ Py.rep K Hi a3 v3 ∧ Py.rep K Hi a4 v4 ∧ PV K E (f a0 a1 a2 a3 a4) Hi H Q
theorem je_call5 {α0 α1 α2 α3 α4 ρ : Type} [Py α0] [Py α1] [Py α2] [Py α3] [Py α4] [Py ρ] {X : Cx} {K : Fg} {b : Bs} {L : List En} {E : XK} {e0 e1 e2 e3 e4 : Expr} {m0 : M α0} {m1 : M α1} {m2 : M α2} {m3 : M α3} {m4 : M α4} {f : α0 → α1 → α2 → α3 → α4 → M ρ} {x : Str} {p pos : Pos} {k : Nat} (F : OkF X.prog X.w X.K X.mg X.base x k (sp5 K f)) (hr : Room k X.A) (hx : Passes (L2.CX X.prog X.w) X E) (h0 : JE X K b L E e0 m0) (h1 : JE X K b L E e1 m1) (h2 : JE X K b L E e2 m2) (h3 : JE X K b L E e3 m3) (h4 : JE X K b L E e4 m4) (hg : Gl X x := by rfl) (hdb : (x == ("__debug__" : Str)) = false := by decide) (s0 : starEach [e0, e1, e2, e3, e4] X.env = (false, eval e0 X.env) :: starEach [e1, e2, e3, e4] X.env := by rfl) (s1 : starEach [e1, e2, e3, e4] X.env = (false, eval e1 X.env) :: starEach [e2, e3, e4] X.env := by rfl) (s2 : starEach [e2, e3, e4] X.env = (false, eval e2 X.env) :: starEach [e3, e4] X.env := by rfl) (s3 : starEach [e3, e4] X.env = (false, eval e3 X.env) :: starEach [e4] X.env := by rfl) (s4 : starEach [e4] X.env = (false, eval e4 X.env) :: starEach [] X.env := by rfl) (hpl : (backTo pos (starEach [e1, e2, e3, e4] X.env)).any (·.1) = false := by rfl) : JE X K b L E (.Call (.Name x p) [e0, e1, e2, e3, e4] [] pos) (m0 >>= fun a0 => m1 >>= fun a1 => m2 >>= fun a2 => m3 >>= fun a3 => m4 >>= fun a4 => f a0 a1 a2 a3 a4) := by
  obtain ⟨fa, fd, ps, F1, F2, F3, F4⟩ := F.ex
  obtain ⟨t0, d0, q0⟩ := h0.ex
  obtain ⟨t1, d1, q1⟩ := h1.ex
  obtain ⟨t2, d2, q2⟩ := h2.ex
  obtain ⟨t3, d3, q3⟩ := h3.ex
  obtain ⟨t4, d4, q4⟩ := h4.ex
  refine .of ⟨tCall (sp5 K f) [] E (tCons t0 (tCons t1 (tCons t2 (tCons t3 (tCons t4 tNil))))), pe_call F3 hr hg F1 F2 F4 .nil hx (pa_cons d0 (pa_cons d1 (pa_cons d2 (pa_cons d3 (pa_cons d4 pa_nil s4) s3) s2) s1) s0) hdb s0 hpl, fun σ Hi H en Q h => ?_⟩
  refine q0 σ Hi H en _ ((h).bind.imp fun a0 Hi1 H1 n1 k1 v0 r0 => ?_)
  refine q1 σ Hi1 H1 (en.nx n1) _ ((k1).bind.imp fun a1 Hi2 H2 n2 k2 v1 r1 => ?_)
  refine q2 σ Hi2 H2 ((en.nx n1).nx n2) _ ((k2).bind.imp fun a2 Hi3 H3 n3 k3 v2 r2 => ?_)
  refine q3 σ Hi3 H3 (((en.nx n1).nx n2).nx n3) _ ((k3).bind.imp fun a3 Hi4 H4 n4 k4 v3 r3 => ?_)
  refine q4 σ Hi4 H4 ((((en.nx n1).nx n2).nx n3).nx n4) _ ((k4).bind.imp fun a4 Hi5 H5 n5 k5 v4 r4 => ?_)
  exact ⟨a0, a1, a2, a3, a4, v0, v1, v2, v3, v4, _, rfl, n5.sub, (Py.mono n5.im (Py.mono n4.im (Py.mono n3.im (Py.mono n2.im r0)))), (Py.mono n5.im (Py.mono n4.im (Py.mono n3.im r1))), (Py.mono n5.im (Py.mono n4.im r2)), (Py.mono n5.im r3), r4, k5⟩
theorem mkC5 {α0 α1 α2 α3 α4 ρ : Type} [Py α0] [Py α1] [Py α2] [Py α3] [Py α4] [Py ρ] {P : Program} {w : World} {K : Fg} {mg : Str → Option Value} {base : Heap} {x : Str} {N : List Str} {p0 p1 p2 p3 p4 : Str} {args : Arguments} {body : List Stmt} {sc : Scope} {k : Nat} {f : α0 → α1 → α2 → α3 → α4 → M ρ} {fd : FuncData} (F : FunD K x x args body sc [] [] (He.ga K x) fd) (S : FnScope N [p0, p1, p2, p3, p4] sc)
    (h : ∀ (cdv : Value) (A : Around) (outer : List Env) (s : Shared) (H : Hp) (E : XK), Room k (cxOf (L2.CX P w) P w K mg base N x sc (He.ga K x) cdv A outer s H E).A → ∀ (a0 : α0) (a1 : α1) (a2 : α2) (a3 : α3) (a4 : α4) (b : Bs), b.own = [] → JS (cxOf (L2.CX P w) P w K mg base N x sc (He.ga K x) cdv A outer s H E) K b ([.im (rp K a0), .im (rp K a1), .im (rp K a2), .im (rp K a3), .im (rp K a4)] ++ List.replicate (N.length - 5) .no) E body tlFn (f a0 a1 a2 a3 a4) (pRt K b)) : FnOk P w K mg base (L2.CX P w) (k + 1) (He.ga K x) fd [p0, p1, p2, p3, p4] (sp5 K f) := by
  refine F.ok S (fun vs H Q E hh => ?_) (fun cdv A outer s H vs Q E hr hh => ?_)
  · obtain ⟨a0, a1, a2, a3, a4, v0, v1, v2, v3, v4, Hi, rfl, _⟩ := hh
    rfl
  · obtain ⟨a0, a1, a2, a3, a4, v0, v1, v2, v3, v4, Hi, rfl, sm, r0, r1, r2, r3, r4, q⟩ := hh
    refine ⟨_, pss_wp, (h cdv A outer s H E hr a0 a1 a2 a3 a4 ⟨Hi, H, []⟩ rfl).go _ Hi H ?_ _ (fun σ' H' z => z) ?_⟩
    · exact EnvOk.start (ps := [rp K a0, rp K a1, rp K a2, rp K a3, rp K a4]) sm rfl (Paired.cons r0 (Paired.cons r1 (Paired.cons r2 (Paired.cons r3 (Paired.cons r4 Paired.nil)))))
    · exact PZ.of_fn q
theorem mkF5 {α0 α1 α2 α3 α4 ρ : Type} [Py α0] [Py α1] [Py α2] [Py α3] [Py α4] [Py ρ] {P : Program} {w : World} {K : Fg} {mg : Str → Option Value} {base : Heap} {x : Str} {N : List Str} {p0 p1 p2 p3 p4 : Str} {args : Arguments} {body : List Stmt} {sc : Scope} {k : Nat} {f : α0 → α1 → α2 → α3 → α4 → M ρ} (F : ∃ fd, FunD K x x args body sc [] [] (He.ga K x) fd) (g : mg x = some (.ref (He.ga K x))) (S : FnScope N [p0, p1, p2, p3, p4] sc)
    (hb : ∀ (kV doc pm : Value) (an : Option Addr) (cdv ct : Value) (us : List Value), us.length = [p0, p1, p2, p3, p4].length → bindArgs (PySem.W.fnOf x x args body sc .none kV doc pm an cdv ct) ⟨us, []⟩ = pure ([p0, p1, p2, p3, p4].zip us))
    (h : ∀ (cdv : Value) (A : Around) (outer : List Env) (s : Shared) (H : Hp) (E : XK), Room k (cxOf (L2.CX P w) P w K mg base N x sc (He.ga K x) cdv A outer s H E).A → ∀ (a0 : α0) (a1 : α1) (a2 : α2) (a3 : α3) (a4 : α4) (b : Bs), b.own = [] → JS (cxOf (L2.CX P w) P w K mg base N x sc (He.ga K x) cdv A outer s H E) K b ([.im (rp K a0), .im (rp K a1), .im (rp K a2), .im (rp K a3), .im (rp K a4)] ++ List.replicate (N.length - 5) .no) E body tlFn (f a0 a1 a2 a3 a4) (pRt K b)) : OkF P w K mg base x (k + 1) (sp5 K f) := by
  obtain ⟨fd, F⟩ := F
  exact ⟨_, fd, [p0, p1, p2, p3, p4], g, F.kp, mkC5 F S h, F.bindsN hb⟩
def sp6 (K : Fg) {α0 α1 α2 α3 α4 α5 ρ : Type} [Py α0] [Py α1] [Py α2] [Py α3] [Py α4] [Py α5] [Py ρ] (f : α0 → α1 → α2 → α3 → α4 → α5 → M ρ) : Sp := fun vs H Q E => ∃ (a0 : α0) (a1 : α1) (a2 : α2) (a3 : α3) (a4 : α4) (a5 : α5) (v0 v1 v2 v3 v4 v5 : V) (Hi : Hp), vs = [v0, v1, v2, v3, v4, v5] ∧ Same Hi H ∧ Py.rep K Hi a0 v0 ∧ Py.rep K Hi a1 v1 ∧ Py.rep K Hi a2 v2 ∧ Py.rep K Hi a3 v3 ∧ Py.rep K Hi a4 v4 ∧ Py.rep K Hi a5 v5 ∧ PV K E (f a0 a1 a2 a3 a4 a5) Hi H Q
theorem je_call6 {α0 α1 α2 α3 α4 α5 ρ : Type} [Py α0] [Py α1] [Py α2] [Py α3] [Py α4] [Py α5] [Py ρ] {X : Cx} {K : Fg} {b : Bs} {L : List En} {E : XK} {e0 e1 e2 e3 e4 e5 : Expr} {m0 : M α0} {m1 : M α1} {m2 : M α2} {m3 : M α3} {m4 : M α4} {m5 : M α5} {f : α0 → α1 → α2 → α3 → α4 → α5 → M ρ} {x : Str} {p pos : Pos} {k : Nat} (F : OkF X.prog X.w X.K X.mg X.base x k (sp6 K f)) (hr : Room k X.A) (hx : Passes (L2.CX X.prog X.w) X E) (h0 : JE X K b L E e0 m0) (h1 : JE X K b L E e1 m1) (h2 : JE X K b L E e2 m2) (h3 : JE X K b L E e3 m3) (h4 : JE X K b L E e4 m4) (h5 : JE X K b L E e5 m5) (hg : Gl X x := by rfl) (hdb : (x == ("__debug__" : Str)) = false := by decide) (s0 : starEach [e0, e1, e2, e3, e4, e5] X.env = (false, eval e0 X.env) :: starEach [e1, e2, e3, e4, e5] X.env := by rfl) (s1 : starEach [e1, e2, e3, e4, e5] X.env = (false, eval e1 X.env) :: starEach [e2, e3, e4, e5] X.env := by rfl) (s2 : starEach [e2, e3, e4, e5] X.env = (false, eval e2 X.env) :: starEach [e3, e4, e5] X.env := by rfl) (s3 : starEach [e3, e4, e5] X.env = (false, eval e3 X.env) :: starEach [e4, e5] X.env := by rfl) (s4 : starEach [e4, e5] X.env = (false, eval e4 X.env) :: starEach [e5] X.env := by rfl) (s5 : starEach [e5] X.env = (false, eval e5 X.env) :: starEach [] X.env := by rfl) (hpl : (backTo pos (starEach [e1, e2, e3, e4, e5] X.env)).any (·.1) = false := by rfl) : JE X K b L E (.Call (.Name x p) [e0, e1, e2, e3, e4, e5] [] pos) (m0 >>= fun a0 => m1 >>= fun a1 => m2 >>= fun a2 => m3 >>= fun a3 => m4 >>= fun a4 => m5 >>= fun a5 => f a0 a1 a2 a3 a4 a5) := by
  obtain ⟨fa, fd, ps, F1, F2, F3, F4⟩ := F.ex
  obtain ⟨t0, d0, q0⟩ := h0.ex
  obtain ⟨t1, d1, q1⟩ := h1.ex
  obtain ⟨t2, d2, q2⟩ := h2.ex
  obtain ⟨t3, d3, q3⟩ := h3.ex
  obtain ⟨t4, d4, q4⟩ := h4.ex
  obtain ⟨t5, d5, q5⟩ := h5.ex
  refine .of ⟨tCall (sp6 K f) [] E (tCons t0 (tCons t1 (tCons t2 (tCons t3 (tCons t4 (tCons t5 tNil)))))), pe_call F3 hr hg F1 F2 F4 .nil hx (pa_cons d0 (pa_cons d1 (pa_cons d2 (pa_cons d3 (pa_cons d4 (pa_cons d5 pa_nil s5) s4) s3) s2) s1) s0) hdb s0 hpl, fun σ Hi H en Q h => ?_⟩
  refine q0 σ Hi H en _ ((h).bind.imp fun a0 Hi1 H1 n1 k1 v0 r0 => ?_)
  refine q1 σ Hi1 H1 (en.nx n1) _ ((k1).bind.imp fun a1 Hi2 H2 n2 k2 v1 r1 => ?_)
  refine q2 σ Hi2 H2 ((en.nx n1).nx n2) _ ((k2).bind.imp fun a2 Hi3 H3 n3 k3 v2 r2 => ?_)
  refine q3 σ Hi3 H3 (((en.nx n1).nx n2).nx n3) _ ((k3).bind.imp fun a3 Hi4 H4 n4 k4 v3 r3 => ?_)
  refine q4 σ Hi4 H4 ((((en.nx n1).nx n2).nx n3).nx n4) _ ((k4).bind.imp fun a4 Hi5 H5 n5 k5 v4 r4 => ?_)
  refine q5 σ Hi5 H5 (((((en.nx n1).nx n2).nx n3).nx n4).nx n5) _ ((k5).bind.imp fun a5 Hi6 H6 n6 k6 v5 r5 => ?_)
  exact ⟨a0, a1, a2, a3, a4, a5, v0, v1, v2, v3, v4, v5, _, rfl, n6.sub, (Py.mono n6.im (Py.mono n5.im (Py.mono n4.im (Py.mono n3.im (Py.mono n2.im r0))))), (Py.mono n6.im (Py.mono n5.im (Py.mono n4.im (Py.mono n3.im r1)))), (Py.mono n6.im (Py.mono n5.im (Py.mono n4.im r2))), (Py.mono n6.im (Py.mono n5.im r3)), (Py.mono n6.im r4), r5, k6⟩
theorem mkC6 {α0 α1 α2 α3 α4 α5 ρ : Type} [Py α0] [Py α1] [Py α2] [Py α3] [Py α4] [Py α5] [Py ρ] {P : Program} {w : World} {K : Fg} {mg : Str → Option Value} {base : Heap} {x : Str} {N : List Str} {p0 p1 p2 p3 p4 p5 : Str} {args : Arguments} {body : List Stmt} {sc : Scope} {k : Nat} {f : α0 → α1 → α2 → α3 → α4 → α5 → M ρ} {fd : FuncData} (F : FunD K x x args body sc [] [] (He.ga K x) fd) (S : FnScope N [p0, p1, p2, p3, p4, p5] sc)
    (h : ∀ (cdv : Value) (A : Around) (outer : List Env) (s : Shared) (H : Hp) (E : XK), Room k (cxOf (L2.CX P w) P w K mg base N x sc (He.ga K x) cdv A outer s H E).A → ∀ (a0 : α0) (a1 : α1) (a2 : α2) (a3 : α3) (a4 : α4) (a5 : α5) (b : Bs), b.own = [] → JS (cxOf (L2.CX P w) P w K mg base N x sc (He.ga K x) cdv A outer s H E) K b ([.im (rp K a0), .im (rp K a1), .im (rp K a2), .im (rp K a3), .im (rp K a4), .im (rp K a5)] ++ List.replicate (N.length - 6) .no) E body tlFn (f a0 a1 a2 a3 a4 a5) (pRt K b)) : FnOk P w K mg base (L2.CX P w) (k + 1) (He.ga K x) fd [p0, p1, p2, p3, p4, p5] (sp6 K f) := by
  refine F.ok S (fun vs H Q E hh => ?_) (fun cdv A outer s H vs Q E hr hh => ?_)
  · obtain ⟨a0, a1, a2, a3, a4, a5, v0, v1, v2, v3, v4, v5, Hi, rfl, _⟩ := hh
    rfl
  · obtain ⟨a0, a1, a2, a3, a4, a5, v0, v1, v2, v3, v4, v5, Hi, rfl, sm, r0, r1, r2, r3, r4, r5, q⟩ := hh
    refine ⟨_, pss_wp, (h cdv A outer s H E hr a0 a1 a2 a3 a4 a5 ⟨Hi, H, []⟩ rfl).go _ Hi H ?_ _ (fun σ' H' z => z) ?_⟩
    · exact EnvOk.start (ps := [rp K a0, rp K a1, rp K a2, rp K a3, rp K a4, rp K a5]) sm rfl (Paired.cons r0 (Paired.cons r1 (Paired.cons r2 (Paired.cons r3 (Paired.cons r4 (Paired.cons r5 Paired.nil))))))
    · exact PZ.of_fn q
theorem mkF6 {α0 α1 α2 α3 α4 α5 ρ : Type} [Py α0] [Py α1] [Py α2] [Py α3] [Py α4] [Py α5] [Py ρ] {P : Program} {w : World} {K : Fg} {mg : Str → Option Value} {base : Heap} {x : Str} {N : List Str} {p0 p1 p2 p3 p4 p5 : Str} {args : Arguments} {body : List Stmt} {sc : Scope} {k : Nat} {f : α0 → α1 → α2 → α3 → α4 → α5 → M ρ} (F : ∃ fd, FunD K x x args body sc [] [] (He.ga K x) fd) (g : mg x = some (.ref (He.ga K x))) (S : FnScope N [p0, p1, p2, p3, p4, p5] sc)
    (hb : ∀ (kV doc pm : Value) (an : Option Addr) (cdv ct : Value) (us : List Value), us.length = [p0, p1, p2, p3, p4, p5].length → bindArgs (PySem.W.fnOf x x args body sc .none kV doc pm an cdv ct) ⟨us, []⟩ = pure ([p0, p1, p2, p3, p4, p5].zip us))
    (h : ∀ (cdv : Value) (A : Around) (outer : List Env) (s : Shared) (H : Hp) (E : XK), Room k (cxOf (L2.CX P w) P w K mg base N x sc (He.ga K x) cdv A outer s H E).A → ∀ (a0 : α0) (a1 : α1) (a2 : α2) (a3 : α3) (a4 : α4) (a5 : α5) (b : Bs), b.own = [] → JS (cxOf (L2.CX P w) P w K mg base N x sc (He.ga K x) cdv A outer s H E) K b ([.im (rp K a0), .im (rp K a1), .im (rp K a2), .im (rp K a3), .im (rp K a4), .im (rp K a5)] ++ List.replicate (N.length - 6) .no) E body tlFn (f a0 a1 a2 a3 a4 a5) (pRt K b)) : OkF P w K mg base x (k + 1) (sp6 K f) := by
  obtain ⟨fd, F⟩ := F
  exact ⟨_, fd, [p0, p1, p2, p3, p4, p5], g, F.kp, mkC6 F S h, F.bindsN hb⟩
end G

set_option Elab.async false
set_option linter.all false
set_option maxRecDepth 100000
set_option maxHeartbeats 2000000
namespace G
open PySem L2 TL

/-! ### heaps: floors, fresh objects -/
def Bs.fl (b : Bs) (F : Hp) : Bs := ⟨F, b.H, b.own⟩
section
variable {b : Bs} {L : List En} {σ : L2.St} {F Hi H Hi' H' H0 : Hp}
theorem Ok.up (o : Ok b Hi H) : Ok (b.fl Hi) Hi H := ⟨o.sub, Same.refl _, o.fr, o.keep, fun _ _ h => h⟩
theorem Ok.down (o : Ok b F H0) (o' : Ok (b.fl F) Hi H) : Ok b Hi H := ⟨o'.sub, o.base.trans o'.base, o'.fr, o'.keep, fun a h n => o'.cap a h (o.cap a h n)⟩
theorem EnvOk.up (e : EnvOk b L σ Hi H) : EnvOk (b.fl Hi) L σ Hi H := ⟨e.ok.up, e.len, e.im, e.mu, e.dis⟩
theorem EnvOk.down (o : Ok b F H0) (e : EnvOk (b.fl F) L σ Hi H) : EnvOk b L σ Hi H := ⟨o.down e.ok, e.len, e.im, e.mu, e.dis⟩
theorem EnvOk.to {L' : List En} (e : EnvOk b L σ Hi H) (h : L = L') : EnvOk b L' σ Hi H := h ▸ e
/-- a name comes to hold a fresh object alone -/
theorem EnvOk.setFresh {i : Nat} {c : Ct} {p : Addr} {o : HO} (e : EnvOk b L σ Hi H) (x : Nx Hi H Hi' H') (hp : H' p = some o) (hn : H p = none) (hpi : Hi' p = none) (r : c.r Hi' o) : EnvOk b (L.set i (.mu c)) (σ.set i (some (.ref p))) Hi' H' := by
  have e1 := e.nx x
  have hpb : b.H p = none := by
    cases q : b.H p with
    | none => rfl
    | some u => exact absurd hn (e.ok.keep p (by rw [q]; exact fun z => nomatch z))
  have old : ∀ {j : Nat} {d : Ct} {a : Addr}, L[j]? = some (.mu d) → σ[j]? = some (some (.ref a)) → a ≠ p := fun {j d a} h1 h2 z => by
    obtain ⟨a', o', g1, g2, _⟩ := e.mu j d h1
    rw [h2] at g1
    cases g1
    rw [z, hn] at g2
    cases g2
  have hi : ∀ {j : Nat}, i = j → ∀ {en : En}, (L.set i (En.mu c))[j]? = some en → en = .mu c ∧ i < L.length := fun {j} hj {en} h => by
    subst hj
    have hl : i < (L.set i (En.mu c)).length := (List.getElem?_eq_some_iff.mp h).1
    rw [List.length_set] at hl
    rw [List.getElem?_set_self hl] at h
    cases h
    exact ⟨rfl, hl⟩
  refine ⟨e1.ok, by rw [List.length_set, List.length_set]; exact e.len, fun j q h => ?_, fun j d h => ?_, fun j k d f a h1 h2 h3 h4 => ?_⟩
  · by_cases hj : i = j
    · exact nomatch (hi hj h).1
    · rw [List.getElem?_set_ne hj] at h ⊢
      exact e1.im j q h
  · by_cases hj : i = j
    · obtain ⟨h5, h6⟩ := hi hj h
      cases h5
      subst hj
      exact ⟨p, o, List.getElem?_set_self (by rw [e.len]; exact h6), hp, hpi, .inr hpb, r⟩
    · rw [List.getElem?_set_ne hj] at h ⊢
      exact e1.mu j d h
  · by_cases hj : i = j
    · by_cases hk : i = k
      · exact hj.symm.trans hk
      · obtain ⟨_, h6⟩ := hi hj h1
        subst hj
        rw [List.getElem?_set_self (by rw [e.len]; exact h6)] at h3
        cases h3
        rw [List.getElem?_set_ne hk] at h2 h4
        exact absurd rfl (old h2 h4)
    · by_cases hk : i = k
      · obtain ⟨_, h6⟩ := hi hk h2
        subst hk
        rw [List.getElem?_set_self (by rw [e.len]; exact h6)] at h4
        cases h4
        rw [List.getElem?_set_ne hj] at h1 h3
        exact absurd rfl (old h1 h3)
      · rw [List.getElem?_set_ne hj] at h1 h3
        rw [List.getElem?_set_ne hk] at h2 h4
        exact e.dis j k d f a h1 h2 h3 h4
end
/-- the content of a list that a name holds alone -/
def ctL (K : Fg) {α : Type} [Py α] (xs : List α) : Ct := ⟨fun H o => ∃ vs, o = .lst vs ∧ Rl K H xs vs, fun e ⟨vs, h1, h2⟩ => ⟨vs, h1, h2.mono e⟩⟩
/-- an expression that makes a fresh object -/
def PF (K : Fg) (E : XK) {α : Type} (c : α → Ct) (m : M α) (Hi H : Hp) (Q : VK) : Prop :=
  PX K E m Hi H fun a Hi' H' => ∀ p o, H' p = some o → H p = none → Hi' p = none → (c a).r Hi' o → Q (.ref p) H'
structure JF (X : Cx) (K : Fg) (b : Bs) (L : List En) (E : XK) (e : Expr) {α : Type} (c : α → Ct) (m : M α) : Prop where
  go : ∀ σ Hi H, EnvOk b L σ Hi H → ∀ Q : VK, PF K E c m Hi H Q → wpE X e σ H Q

section
variable {X : Cx} {K : Fg} {mg : Str → Option Value} {b : Bs} {L L' : List En} {E : XK} {e e1 e2 : Expr} {st : Stmt} {rest body a bb : List Stmt} {α β γ S R : Type} {pos p' p2 p3 : Pos} {tl : Ends → Prop} {post : α → Ends → Prop}
theorem js_cons {m1 : M S} {Lf : S → List En} {m2 : S → M α} (h1 : J1 X K b L E st m1 Lf) (h2 : ∀ s, JS X K b (Lf s) E rest tl (m2 s) post) : JS X K b L E (st :: rest) tl (m1 >>= fun s => m2 s) post :=
  ⟨fun σ Hi H en D htl hz => PSs.wp (pss_cons ps_wp pss_wp) (h1.go σ Hi H en _ (hz.bindz.imp fun s q σ' Hi' H' en' => (h2 s).go σ' Hi' H' en' D htl q))⟩
theorem js_nilP {Lf : S → List En} {s : S} (w : Wk L (Lf s)) : JS X K b L E [] tl (pure s) (pNx b Lf) :=
  ⟨fun σ Hi H en D _ hz => PSs.wp pss_nil (show D.nx σ H from hz σ Hi H (en.wk w))⟩
theorem js_nilF : JS X K b L E [] tlFn (pure () : M Unit) (pRt K b) :=
  ⟨fun σ Hi H en D ht hz => PSs.wp pss_nil (show D.nx σ H from ht σ H (hz .non Hi H en.ok rfl))⟩
theorem js_nilL [Py R] {Lf : S → List En} {s : S} (w : Wk L (Lf s)) : JS X K b L E [] tlLp (pure (.ct s) : M (Tl S R)) (pTl K b Lf) :=
  ⟨fun σ Hi H en D ht hz => PSs.wp pss_nil (show D.nx σ H from ht σ H ((show ∀ σ' Hi' H', EnvOk b (Lf s) σ' Hi' H' → D.ct σ' H' from hz) σ Hi H (en.wk w)))⟩
theorem PZ.ret [Py R] {m : M R} {D : Ends} {σ : L2.St} {Hi H : Hp} (en : EnvOk b L σ Hi H) (hz : PZ K E b m fun a => pRt K b a D) : PV K E m Hi H D.rt := by
  cases m with
  | ok a => exact fun Hi' H' x v r => hz v Hi' H' (en.nx x).ok r
  | error z =>
    cases z with
    | rs c => exact fun Hi' H' x => hz Hi' H' (en.nx x).ok
    | st => exact hz
theorem js_ret [Py R] {m : M R} (h : JE X K b L E e m) : JS X K b L E (.Return (some e) pos :: rest) tl m (pRt K b) :=
  ⟨fun σ Hi H en D _ hz => PSs.wp (pss_cons (ps_ret pe_wp) pss_wp) (h.go σ Hi H en D.rt (hz.ret en))⟩
theorem js_retL [Py R] {m : M R} {Lf : S → List En} (h : JE X K b L E e m) : JS X K b L E (.Return (some e) pos :: rest) tl (m >>= fun r => pure (.rt r) : M (Tl S R)) (pTl K b Lf) :=
  ⟨fun σ Hi H en D _ hz => PSs.wp (pss_cons (ps_ret pe_wp) pss_wp) (h.go σ Hi H en D.rt (PZ.ret en (hz.bindz.imp fun r q => q)))⟩
theorem js_retN : JS X K b L E (.Return none pos :: rest) tl (pure () : M Unit) (pRt K b) :=
  ⟨fun σ Hi H en D _ hz => PSs.wp (pss_cons ps_retN pss_wp) (show D.rt .non H from hz .non Hi H en.ok rfl)⟩
theorem js_brk [Py R] {Lf : S → List En} {s : S} (w : Wk L (Lf s)) : JS X K b L E (.Break pos :: rest) tl (pure (.bk s) : M (Tl S R)) (pTl K b Lf) :=
  ⟨fun σ Hi H en D _ hz => PSs.wp (pss_cons ps_break pss_wp) (show D.bk σ H from (show ∀ σ' Hi' H', EnvOk b (Lf s) σ' Hi' H' → D.bk σ' H' from hz) σ Hi H (en.wk w))⟩
theorem js_cnt [Py R] {Lf : S → List En} {s : S} (w : Wk L (Lf s)) : JS X K b L E (.Continue pos :: rest) tl (pure (.ct s) : M (Tl S R)) (pTl K b Lf) :=
  ⟨fun σ Hi H en D _ hz => PSs.wp (pss_cons ps_continue pss_wp) (show D.ct σ H from (show ∀ σ' Hi' H', EnvOk b (Lf s) σ' Hi' H' → D.ct σ' H' from hz) σ Hi H (en.wk w))⟩
theorem js_raise {c : Str} {m : Str} {j : Nat} {pp : Pos} (tk : Takes X (fun cls d _ H => E cls d H)) (hc : X.calm = true) (gC : X.mg c = some (.ref (He.ga X.K c))) (hx : (He.Fa.exc c).ok X.K = true) (hK : X.K = K := by rfl) (hg : Gl X c := by rfl) (hdb : (c == ("__debug__" : Str)) = false := by decide) :
    JS X K b L E (.Raise (some (.Call (.Name c pp) [.Constant (.str m) j p2] [] p3)) none pos :: rest) tl (raise c : M α) post := by
  obtain ⟨q1, q2, q3, q4⟩ := He.exc_ok hx
  subst hK
  exact ⟨fun σ Hi H en D _ hz => PSs.wp (pss_cons (ps_raise hc tk (pmk_own PySem.F.excBase_ValueError q1 gC q2 (raises_own q3 q4) hg hdb)) pss_wp) (show E (.ref (He.ga X.K c)) none H from (show ∀ Hi' H', Ok b Hi' H' → E (.ref (He.ga X.K c)) none H' from hz) Hi H en.ok)⟩
theorem js_if2 {c : Expr} {mc : M Bool} {ma mb : M α} (h : JT X K b L E c mc) (h1 : JS X K b L E a tl ma post) (h2 : JS X K b L E bb tl mb post) : JS X K b L E [.If c a bb pos] tl (mc >>= fun t => if t = true then ma else mb) post :=
  ⟨fun σ Hi H en D ht hz => PSs.wp (pss_one (ps_if pt_wp pss_wp pss_wp)) (h.go σ Hi H en _ ((PZ.bind en hz).imp fun t Hi' H' x q => by
    cases t with
    | true =>
      rw [if_pos rfl] at q ⊢
      exact h1.go σ Hi' H' (en.nx x) D ht q
    | false =>
      rw [if_neg Bool.false_ne_true] at q ⊢
      exact h2.go σ Hi' H' (en.nx x) D ht q))⟩
theorem js_if1 {c : Expr} {mc : M Bool} {ma mr : M α} (pi : PiOk post) (h : JT X K b L E c mc) (h1 : JS X K b L E a tlAny ma post) (h2 : JS X K b L E rest tl mr post) : JS X K b L E (.If c a [] pos :: rest) tl (mc >>= fun t => if t = true then ma else mr) post :=
  ⟨fun σ Hi H en D ht hz => PSs.wp (pss_cons (ps_if pt_wp pss_wp pss_nil) pss_wp) (h.go σ Hi H en _ ((PZ.bind en hz).imp fun t Hi' H' x q => by
    cases t with
    | true =>
      rw [if_pos rfl] at q ⊢
      exact h1.go σ Hi' H' (en.nx x) _ trivial (q.imp fun a h => pi a D _ h)
    | false =>
      rw [if_neg Bool.false_ne_true] at q ⊢
      exact h2.go σ Hi' H' (en.nx x) D ht q))⟩
/-- the first branch ends, the other one goes on -/
theorem js_if1E {c : Expr} {mc : M Bool} {ma : M α} {mb : M S} {Lf : S → List En} {mr : S → M α} (pi : PiOk post) (h : JT X K b L E c mc) (h1 : JS X K b L E a tlAny ma post) (h3 : JS X K b L E bb tlAny mb (pNx b Lf)) (h2 : ∀ s, JS X K b (Lf s) E rest tl (mr s) post) :
    JS X K b L E (.If c a bb pos :: rest) tl (mc >>= fun t => if t = true then ma else (mb >>= fun s => mr s)) post :=
  ⟨fun σ Hi H en D ht hz => PSs.wp (pss_cons (ps_if pt_wp pss_wp pss_wp) pss_wp) (h.go σ Hi H en _ ((PZ.bind en hz).imp fun t Hi' H' x q => by
    cases t with
    | true =>
      rw [if_pos rfl] at q ⊢
      exact h1.go σ Hi' H' (en.nx x) _ trivial (q.imp fun a h => pi a D _ h)
    | false =>
      rw [if_neg Bool.false_ne_true] at q ⊢
      exact h3.go σ Hi' H' (en.nx x) _ trivial (q.bindz.imp fun s z σ2 Hi2 H2 en2 => (h2 s).go σ2 Hi2 H2 en2 D ht z)))⟩
theorem js_if1F {c : Expr} {mc : M Bool} {ma : M α} {mb : M S} {Lf : S → List En} {mr : S → M α} (pi : PiOk post) (h : JT X K b L E c mc) (h1 : JS X K b L E bb tlAny ma post) (h3 : JS X K b L E a tlAny mb (pNx b Lf)) (h2 : ∀ s, JS X K b (Lf s) E rest tl (mr s) post) :
    JS X K b L E (.If c a bb pos :: rest) tl (mc >>= fun t => if t = true then (mb >>= fun s => mr s) else ma) post :=
  ⟨fun σ Hi H en D ht hz => PSs.wp (pss_cons (ps_if pt_wp pss_wp pss_wp) pss_wp) (h.go σ Hi H en _ ((PZ.bind en hz).imp fun t Hi' H' x q => by
    cases t with
    | false =>
      rw [if_neg Bool.false_ne_true] at q ⊢
      exact h1.go σ Hi' H' (en.nx x) _ trivial (q.imp fun a h => pi a D _ h)
    | true =>
      rw [if_pos rfl] at q ⊢
      exact h3.go σ Hi' H' (en.nx x) _ trivial (q.bindz.imp fun s z σ2 Hi2 H2 en2 => (h2 s).go σ2 Hi2 H2 en2 D ht z)))⟩
theorem j1_if {c : Expr} {mc : M Bool} {ma mb : M S} {Lf : S → List En} (h : JT X K b L E c mc) (h1 : JS X K b L E a tlAny ma (pNx b Lf)) (h2 : JS X K b L E bb tlAny mb (pNx b Lf)) : J1 X K b L E (.If c a bb pos) (mc >>= fun t => if t = true then ma else mb) Lf :=
  ⟨fun σ Hi H en D hz => PS.wp (ps_if pt_wp pss_wp pss_wp) (h.go σ Hi H en _ ((PZ.bind en hz).imp fun t Hi' H' x q => by
    cases t with
    | true =>
      rw [if_pos rfl] at q ⊢
      exact h1.go σ Hi' H' (en.nx x) D trivial q
    | false =>
      rw [if_neg Bool.false_ne_true] at q ⊢
      exact h2.go σ Hi' H' (en.nx x) D trivial q))⟩
theorem js_wk {m : M α} (w : Wk L L') (h : JS X K b L' E rest tl m post) : JS X K b L E rest tl m post := ⟨fun σ Hi H en D ht hz => h.go σ Hi H (en.wk w) D ht hz⟩
theorem j1_pass : J1 X K b L E (.Pass pos) (pure ()) (fun _ => L) := ⟨fun σ Hi H en D hz => PS.wp ps_pass (show D.nx σ H from hz σ Hi H en)⟩

/-! assignments -/
theorem j1_set [Py α] {m : M α} (i : Nat) {x : Str} (h : JE X K b L E e m) (hN : X.N.Nodup) (hi : X.N[i]? = some x := by rfl) (hx : Loc X.env.scope x := by first | exact Or.inl rfl | exact Or.inr rfl) (hs : swapsWith e (some (.Name x p')) pos.line X.env = pure false := by rfl)
    (hf : X.fn x = true ∨ X.env.scope.names.lookup x = some .local := by first | exact .inl rfl | exact .inr rfl) : J1 X K b L E (.Assign [.Name x p'] e pos) m (fun a => L.set i (.im (rp K a))) :=
  ⟨fun σ Hi H en D hz => PS.wp (ps_set hN hi hx pe_wp hs hf) (h.go σ Hi H en _ ((PZ.px en hz).imp fun a Hi' H' x q v r => q _ Hi' H' ((en.nx x).set (p := rp K a) r)))⟩
theorem j1_setF {m : M α} {c : α → Ct} (i : Nat) {x : Str} (h : JF X K b L E e c m) (hN : X.N.Nodup) (hi : X.N[i]? = some x := by rfl) (hx : Loc X.env.scope x := by first | exact Or.inl rfl | exact Or.inr rfl) (hs : swapsWith e (some (.Name x p')) pos.line X.env = pure false := by rfl)
    (hf : X.fn x = true ∨ X.env.scope.names.lookup x = some .local := by first | exact .inl rfl | exact .inr rfl) : J1 X K b L E (.Assign [.Name x p'] e pos) m (fun a => L.set i (.mu (c a))) :=
  ⟨fun σ Hi H en D hz => PS.wp (ps_set hN hi hx pe_wp hs hf) (h.go σ Hi H en _ ((PZ.px en hz).imp fun a Hi' H' x q p o h1 h2 h3 h4 => q _ Hi' H' (en.setFresh x h1 h2 h3 h4)))⟩
theorem j1_drop [Py α] {m : M α} (h : JE X K b L E e m) (hs : swapsWith e none pos.line X.env = pure false := by rfl) : J1 X K b L E (.Expr e pos) (m >>= fun _ => pure ()) (fun _ => L) :=
  ⟨fun σ Hi H en D hz => PS.wp (ps_expr pe_wp hs) (h.go σ Hi H en _ ((PZ.bind en hz).imp fun a Hi' H' x q v r => (show ∀ σ' Hi' H', EnvOk b L σ' Hi' H' → D.nx σ' H' from q) _ Hi' H' (en.nx x)))⟩
theorem jf_lst [Py α] {es : List Expr} {m : M (List α)} (h : JL X K b L E es m) (hl : es.length ≤ 1000 := by decide) : JF X K b L E (.List es pos) (ctL K) m :=
  ⟨fun σ Hi H en Q hq => PE.wp (pe_lst pa_wp) (h.go σ Hi H en _ (by
    have l := h.len
    cases m with
    | error z => cases z with
      | rs c => exact hq
      | st => exact hq
    | ok xs =>
      refine fun Hi1 H1 n1 vs rvs => ⟨?_, fun q hq1 => ?_⟩
      · rw [← rvs.length, l xs rfl]
        exact Nat.le_trans hl (by decide)
      · have nq : H q = none := by
          cases z : H q with
          | none => rfl
          | some u => rw [n1.al q u z] at hq1; cases hq1
        exact (PX.go (a := xs) hq (n1.trans (Nx.temp n1.sub hq1))) q _ upd_same nq (hi_none n1.sub hq1) ⟨vs, rfl, rvs⟩))⟩
/-- told for good -/
theorem js_frz [Py α] {β : Type} {m : M β} {post : β → Ends → Prop} (i : Nat) {xs : List α} (h : JS X K b (L.set i (.im (rp K xs))) E rest tl m post) (hn : b.own = []) (hL : L[i]? = some (.mu (ctL K xs)) := by rfl) : JS X K b L E rest tl m post :=
  ⟨fun σ Hi H en D ht hz => by
    obtain ⟨Hi', en'⟩ := en.frz (p := rp K xs) hL hn (fun a Hi' o sm hr ha => by
      obtain ⟨vs, rfl, r⟩ := hr
      exact ⟨a, vs, rfl, .of ha, r.mono sm⟩)
    exact h.go σ Hi' H en' D ht hz⟩
theorem EnvOk.muL [Py α] {σ : L2.St} {Hi H : Hp} {i : Nat} {xs : List α} (en : EnvOk b L σ Hi H) (hL : L[i]? = some (.mu (ctL K xs))) : ∃ p vs, σ[i]? = some (some (V.ref p)) ∧ H p = some (.lst vs) ∧ Rl K Hi xs vs := by
  obtain ⟨p, o, h1, h2, _, _, vs, rfl, r⟩ := en.mu i _ hL
  exact ⟨p, vs, h1, h2, r⟩
theorem j1_append [Py α] {m : M α} (i : Nat) {x : Str} {xs : List α} {apos : Pos} {pn : Pos} (h : JE X K b L E e m) (hL : L[i]? = some (.mu (ctL K xs)) := by rfl) (hN : X.N[i]? = some x := by rfl) (hv : Vis X.env.scope x := by first | exact Or.inl rfl | exact Or.inr (Or.inl rfl) | exact Or.inr (Or.inr rfl))
    (hd : (x == ("__debug__" : Str)) = false := by decide) (hcd : (x == ("__classdict__" : Str)) = false := by decide) (hs1 : starEach [e] X.env = (false, eval e X.env) :: starEach [] X.env := by rfl)
    (hbase : attributeBase (.Name x pn) "append" X.env (eval (.Name x pn) X.env) = eval (.Name x pn) X.env := by rfl)
    (hfew : ((backTo p2 (starEach [e] X.env)).all (fun x => !x.1) && (backToKw p2 (keywordEach [] X.env)).all (fun x => x.1.isSome) && decide ([e].length + ([] : List Keyword).length + (if ([] : List Keyword).isEmpty then 0 else 1) < 30)) = true := by rfl)
    (hline : (apos.endLine == p2.line) = true := by rfl) (hplain : (backTo p2 (starEach [] X.env)).any (·.1) = false := by rfl)
    (hs : swapsWith (.Call (.Attribute (.Name x pn) "append" apos) [e] [] p2) none pos.line X.env = pure false := by rfl) :
    J1 X K b L E (.Expr (.Call (.Attribute (.Name x pn) "append" apos) [e] [] p2) pos) (m >>= fun a => chk (xs.length < SZ) >>= fun _ => pure a) (fun a => L.set i (.mu (ctL K (xs ++ [a])))) :=
  ⟨fun σ Hi H en D hz => by
    obtain ⟨p, vs, h1, h2, r⟩ := en.muL hL
    refine PS.wp (ps_expr (pe_bm PySem.F.plainAttrs_list PySem.F.slot_list_append PySem.F.type_list_append mt_append (pe_var hN hv hd hcd) (pa_cons pe_wp pa_nil hs1) hbase hfew hline hs1 hplain) hs) ?_
    refine ⟨_, h1, .inl ⟨rfl, _, SqL.of h2⟩, h.go σ Hi H en _ ((PZ.bind en hz).imp fun a Hi' H' y q v rv => ?_)⟩
    obtain ⟨c, q⟩ := PZ.chk q
    have en' := en.nx y
    refine ⟨p, vs, v, rfl, rfl, y.al _ _ h2, ?_, ?_⟩
    · rw [← r.length]; exact c
    · exact (show ∀ σ' Hi' H', EnvOk b (L.set i (.mu (ctL K (xs ++ [a])))) σ' Hi' H' → D.nx σ' H' from q) _ Hi' _ (en'.mut (c' := ctL K (xs ++ [a])) hL h1 ⟨_, rfl, (r.mono y.im).app (.cons rv .nil)⟩)⟩
theorem j1_setIx [Py α] {m : M α} {mi : M Int} (i : Nat) {x : Str} {xs : List α} {pn : Pos} (h : JE X K b L E e m) (hj : JE X K b L E e1 mi) (hL : L[i]? = some (.mu (ctL K xs)) := by rfl) (hN : X.N[i]? = some x := by rfl) (hv : Vis X.env.scope x := by first | exact Or.inl rfl | exact Or.inr (Or.inl rfl) | exact Or.inr (Or.inr rfl))
    (hd : (x == ("__debug__" : Str)) = false := by decide) (hcd : (x == ("__classdict__" : Str)) = false := by decide) (hs : swapsWithSole [.Subscript (.Name x pn) e1 p'] e pos.line X.env = pure false := by rfl) (hw : swappedStores [.Subscript (.Name x pn) e1 p'] e X.env = pure none := by rfl)
    (hset : ∀ v, assign (.Subscript (.Name x pn) e1 p') X.env v = (do
      let ov ← holding [v] (eval (.Name x pn) X.env)
      let iv ← holding [v, ov] (eval e1 X.env)
      standAt p'
      holding [v, ov, iv] (setItem ov iv v)
      release [v, ov, iv] []) := by intro _; rfl) :
    J1 X K b L E (.Assign [.Subscript (.Name x pn) e1 p'] e pos) (m >>= fun a => mi >>= fun k => ofO (ixN xs.length k) >>= fun j => pure (xs.set j a)) (fun ys => L.set i (.mu (ctL K ys))) :=
  ⟨fun σ Hi H en D hz => by
    obtain ⟨p, vs, h1, h2, r⟩ := en.muL hL
    refine PS.wp (ps_asg pe_wp (pg_sub (pe_var hN hv hd hcd) pe_wp set_list hset) hs hw) ?_
    refine h.go σ Hi H en _ ((PZ.bind en hz).imp fun a Hi1 H1 y1 q1 v rv => ?_)
    refine ⟨_, h1, hj.go σ Hi1 H1 (en.nx y1) _ ((PZ.bind (en.nx y1) q1).imp fun k Hi2 H2 y2 q2 w rw => ?_)⟩
    have en' := (en.nx y1).nx y2
    have hr := r.length
    cases z : ixN xs.length k with
    | none => rw [z] at q2; exact q2.elim
    | some j =>
      rw [z] at q2
      refine ⟨p, vs, k, j, rfl, rw, y2.al _ _ (y1.al _ _ h2), by rw [← hr]; exact z, ?_⟩
      exact (show ∀ σ' Hi' H', EnvOk b (L.set i (.mu (ctL K (xs.set j a)))) σ' Hi' H' → D.nx σ' H' from q2) _ Hi2 _ (en'.mut (c' := ctL K (xs.set j a)) hL h1 ⟨_, rfl, Rl.set (Py.mono y2.im rv) j (r.mono (y1.im.trans y2.im))⟩)⟩
/-- a name op= e -/
theorem j1_aug [Py α] [Py β] [Py γ] {m : M β} {op : Operator} {r : R2} {f : α → β → M γ} (i : Nat) {x : Str} {x0 : α} (ho : OpR X (inplaceOp op) r) (hr : RO K E r f) (h : JE X K b L E e m) (hN : X.N.Nodup) (hL : L[i]? = some (.im (rp K x0)) := by rfl) (hi : X.N[i]? = some x := by rfl)
    (hx : Loc X.env.scope x := by first | exact Or.inl rfl | exact Or.inr rfl) (hf : X.fn x = true ∨ X.env.scope.names.lookup x = some .local := by first | exact .inl rfl | exact .inr rfl) :
    J1 X K b L E (.AugAssign (.Name x p') op e pos) (m >>= fun y => f x0 y) (fun z => L.set i (.im (rp K z))) :=
  ⟨fun σ Hi H en D hz => by
    obtain ⟨v, h1, h2⟩ := en.im i _ hL
    refine PS.wp (ps_aug hN hi hx pe_wp (show PIp X op r from ho) hf) ⟨v, h1, h.go σ Hi H en _ ((PZ.bind en hz).imp fun y Hi' H' n q w rw => ?_)⟩
    exact hr x0 y v w Hi' H' _ n.sub (Py.mono n.im h2) rw ((PZ.px (en.nx n) q).imp fun z Hi2 H2 n2 q2 u ru => q2 _ Hi2 H2 (((en.nx n).nx n2).set (p := rp K z) ru))⟩
/-- len of a list that a name holds alone -/
theorem je_lenM [Py α] (i : Nat) {x : Str} {xs : List α} {pn : Pos} (hm : mg "len" = none) (hL : L[i]? = some (.mu (ctL K xs)) := by rfl) (hN : X.N[i]? = some x := by rfl) (hv : Vis X.env.scope x := by first | exact Or.inl rfl | exact Or.inr (Or.inl rfl) | exact Or.inr (Or.inr rfl))
    (hd : (x == ("__debug__" : Str)) = false := by decide) (hcd : (x == ("__classdict__" : Str)) = false := by decide) (hM : X.mg = mg := by rfl) (hg : Gl X "len" := by rfl) (he : starEach [.Name x pn] X.env = (false, eval (.Name x pn) X.env) :: starEach [] X.env := by rfl) (hpl : (backTo pos (starEach [] X.env)).any (·.1) = false := by rfl) :
    JE X K b L E (.Call (.Name "len" p2) [.Name x pn] [] pos) (pure (xs.length : Int) : M Int) :=
  ⟨fun σ Hi H en Q h => by
    obtain ⟨p, vs, h1, h2, r⟩ := en.muL hL
    refine PE.wp (pe_callB call_len_seq hg (by rw [hM]; exact hm) PySem.boot_len (pa_cons (pe_var hN hv hd hcd) pa_nil he) (by decide) (by decide) he hpl) ⟨_, h1, p, vs, rfl, .inl (SqL.of h2), ?_⟩
    exact h.here en.sub _ (by rw [r.length]; rfl)⟩
/-- an item of it -/
theorem je_ixM [Py α] {mi : M Int} (i : Nat) {x : Str} {xs : List α} {pn : Pos} (hj : JE X K b L E e mi) (hL : L[i]? = some (.mu (ctL K xs)) := by rfl) (hN : X.N[i]? = some x := by rfl) (hv : Vis X.env.scope x := by first | exact Or.inl rfl | exact Or.inr (Or.inl rfl) | exact Or.inr (Or.inr rfl))
    (hd : (x == ("__debug__" : Str)) = false := by decide) (hcd : (x == ("__classdict__" : Str)) = false := by decide) (hs : PlainIx e := by exact fun _ _ => rfl) :
    JE X K b L E (.Subscript (.Name x pn) e pos) (mi >>= fun k => atL xs k) :=
  ⟨fun σ Hi H en Q h => by
    obtain ⟨p, vs, h1, h2, r⟩ := en.muL hL
    refine PE.wp (pe_ix ix_list (pe_var hN hv hd hcd) pe_wp hs) ⟨_, h1, hj.go σ Hi H en _ (h.bind.imp fun k Hi1 H1 n1 q w rw => ?_)⟩
    obtain ⟨a, e0, q⟩ := PX.ofO1 q
    obtain ⟨u, e1, ru⟩ := (r.mono n1.im).atI e0
    exact ⟨p, vs, k, u, rfl, rw, SqL.of (n1.al _ _ h2), e1, q.here n1.sub _ ru⟩⟩

/-! ### walks -/
variable {tg : Expr}
theorem ji_list [Py α] {m : M (List α)} (h : JE X K b L E e m) (hK : X.K = K := by rfl) : JI X K b L E tg e m := by
  subst hK
  refine .of ⟨_, pi_list pe_wp, fun σ Hi H en R hq => h.go σ Hi H en _ (hq.imp fun xs Hi1 H1 n1 q v rv => ?_)⟩
  obtain ⟨p, vs, rfl, g1, g2⟩ := rv
  refine ⟨p, rfl, ⟨vs, Same.seq n1.sub g1⟩, q _ ⟨fun i y Hi2 H2 s1 s2 hy => ?_, fun i Hi2 H2 s1 s2 hi => ?_⟩⟩
  · obtain ⟨u, e1, r⟩ := g2.at hy
    have g3 := Same.seq (s1.trans s2) g1
    exact ⟨⟨vs, u, g3, e1⟩, fun x H' ⟨e2, e3⟩ => by
      subst e2
      have := e3 vs g3
      rw [e1] at this
      cases this
      exact ⟨Hi2, Nx.refl s2, Py.mono s1 r⟩⟩
  · exact ⟨vs, Same.seq (s1.trans s2) g1, by rw [← g2.length]; exact hi⟩
theorem ji_tup [Py α] {m : M (Tup α)} (h : JE X K b L E e m) (hK : X.K = K := by rfl) : JI X K b L E (α := α) tg e m := by
  subst hK
  refine .of ⟨_, pi_tup pe_wp, fun σ Hi H en R hq => h.go σ Hi H en _ (PX.imp hq fun xs Hi1 H1 n1 q v rv => ?_)⟩
  obtain ⟨p, vs, rfl, g1, g2⟩ := rv
  refine ⟨p, rfl, ⟨vs, sqt_mono n1.sub g1⟩, q _ ⟨fun i y Hi2 H2 s1 s2 hy => ?_, fun i Hi2 H2 s1 s2 hi => ?_⟩⟩
  · obtain ⟨u, e1, r⟩ := g2.at hy
    have g3 := sqt_mono (s1.trans s2) g1
    exact ⟨⟨vs, u, g3, e1⟩, fun x H' ⟨e2, e3⟩ => by
      subst e2
      have := e3 vs g3
      rw [e1] at this
      cases this
      exact ⟨Hi2, Nx.refl s2, Py.mono s1 r⟩⟩
  · exact ⟨vs, sqt_mono (s1.trans s2) g1, by rw [← g2.length]; exact hi⟩
def signs (x : Tx) : List Tx := x.map fun c => [c]
theorem ji_str {m : M Tx} (h : JE X K b L E e m) : JI X K b L E tg e (m >>= fun x => pure (signs x)) := by
  refine .of ⟨_, pi_str pe_wp, fun σ Hi H en R hq => h.go σ Hi H en _ (hq.bind.imp fun x Hi1 H1 n1 q v rv => ⟨S x, rv, (q.here n1.sub) _ ⟨fun i y Hi2 H2 s1 s2 hy => ?_, fun i Hi2 H2 s1 s2 hi => ?_⟩⟩)⟩
  · unfold signs at hy
    rw [List.getElem?_map] at hy
    cases z : x[i]? with
    | none => rw [z] at hy; cases hy
    | some c =>
      rw [z] at hy
      cases hy
      have hl : i < x.length := (List.getElem?_eq_some_iff.mp z).1
      have hz : (S x).cps[i]? = some c := by
        show x.toArray[i]? = some c
        rw [List.getElem?_toArray]; exact z
      refine ⟨by show i < x.toArray.size; rw [List.size_toArray]; exact hl, fun v' H' ⟨e1, c', e2, e3⟩ => ?_⟩
      subst e1
      rw [hz] at e2
      cases e2
      exact ⟨Hi2, Nx.refl s2, e3⟩
  · show x.toArray.size ≤ i
    unfold signs at hi
    rw [List.length_map] at hi
    rw [List.size_toArray]; exact hi
def rangeL (lo : Int) (n : Nat) : List Int := (List.range n).map fun i : Nat => lo + (i : Int)
theorem itr_ok {lo : Int} {n : Nat} {Hi0 : Hp} : ItOk K (Itr lo n) Hi0 (rangeL lo n) := by
  refine ⟨fun i y Hi2 H2 s1 s2 hy => ?_, fun i Hi2 H2 s1 s2 hi => ?_⟩
  · unfold rangeL at hy
    rw [List.getElem?_map] at hy
    by_cases hl : i < n
    · rw [List.getElem?_range hl] at hy
      cases hy
      exact ⟨hl, fun v H' ⟨e1, e2⟩ => by subst e1; exact ⟨Hi2, Nx.refl s2, e2⟩⟩
    · rw [List.getElem?_eq_none (by rw [List.length_range]; omega)] at hy
      cases hy
  · unfold rangeL at hi
    rw [List.length_map, List.length_range] at hi
    exact hi
def range1 (n : Int) : M (List Int) := chk (-(2 ^ 62) ≤ n ∧ n < 2 ^ 62) >>= fun _ => pure (rangeL 0 n.toNat)
def range2 (lo n : Int) : M (List Int) := chk (-(2 ^ 62) ≤ lo ∧ lo < 2 ^ 62 ∧ -(2 ^ 62) ≤ n ∧ n < 2 ^ 62) >>= fun _ => pure (rangeL lo (n - lo).toNat)
theorem ji_range1 {m : M Int} {p : Pos} (hm : mg "range" = none) (h : JE X K b L E e m) (hM : X.mg = mg := by rfl) (hg : Gl X "range" := by rfl) (hs : starEach [e] X.env = [(false, eval e X.env)] := by rfl) (he : starEach [e] X.env = (false, eval e X.env) :: starEach [] X.env := by rfl) :
    JI X K b L E tg (.Call (.Name "range" p) [e] [] pos) (m >>= fun n => range1 n) := by
  refine .of ⟨_, pi_range1 hg (by rw [hM]; exact hm) (pa_cons pe_wp pa_nil he) hs, fun σ Hi H en R hq => h.go σ Hi H en _ (hq.bind.imp fun n Hi1 H1 n1 q v rv => ?_)⟩
  obtain ⟨c, q⟩ := PX.chk q
  subst rv
  exact ⟨n, rfl, c.1, c.2, q.here n1.sub _ itr_ok⟩
theorem ji_range2 {m m2 : M Int} {p : Pos} (hm : mg "range" = none) (h : JE X K b L E e m) (h2 : JE X K b L E e1 m2) (hM : X.mg = mg := by rfl) (hg : Gl X "range" := by rfl) (hs : starEach [e, e1] X.env = [(false, eval e X.env), (false, eval e1 X.env)] := by rfl) (hs2 : starEach [e1] X.env = [(false, eval e1 X.env)] := by rfl)
    (he : starEach [e, e1] X.env = (false, eval e X.env) :: starEach [e1] X.env := by rfl) (he2 : starEach [e1] X.env = (false, eval e1 X.env) :: starEach [] X.env := by rfl) :
    JI X K b L E tg (.Call (.Name "range" p) [e, e1] [] pos) (m >>= fun lo => m2 >>= fun n => range2 lo n) := by
  refine .of ⟨_, pi_range2 hg (by rw [hM]; exact hm) (pa_cons pe_wp (pa_cons pe_wp pa_nil he2) he) hs hs2, fun σ Hi H en R hq => h.go σ Hi H en _ (hq.bind.imp fun lo Hi1 H1 n1 q v rv => h2.go σ Hi1 H1 (en.nx n1) _ (q.bind.imp fun n Hi2 H2 n2 q2 w rw => ?_))⟩
  obtain ⟨c, q2⟩ := PX.chk q2
  subst rv; subst rw
  exact ⟨lo, n, rfl, ⟨c.1, c.2.1, c.2.2.1, c.2.2.2⟩, q2.here n2.sub _ itr_ok⟩

/-! targets: sl the slots that they store -/
theorem wipe_idem {σ : L2.St} : ∀ vs : List Nat, wipe (wipe σ vs) vs = wipe σ vs := by
  have key : ∀ (vs us : List Nat), (∀ v ∈ vs, v ∈ us) → wipe (wipe σ us) vs = wipe σ us := by
    intro vs
    induction vs with
    | nil => intro us _; rfl
    | cons v vs ih =>
      intro us hu
      show (wipe (wipe σ us) vs).set v none = wipe σ us
      rw [ih us fun x hx => hu x (List.mem_cons_of_mem _ hx)]
      have hv := hu v (List.mem_cons_self ..)
      have : ∀ us : List Nat, v ∈ us → (wipe σ us).set v none = wipe σ us := by
        intro us
        induction us with
        | nil => intro h; cases h
        | cons u us ih2 =>
          intro h
          show ((wipe σ us).set u none).set v none = (wipe σ us).set u none
          by_cases e : u = v
          · subst e; rw [List.set_set]
          · rw [List.set_comm _ _ e]
            rcases List.mem_cons.mp h with z | z
            · exact absurd z.symm e
            · rw [ih2 z]
      exact this us hv
  exact fun vs => key vs vs fun _ h => h
end
end G

set_option Elab.async false
set_option linter.all false
set_option maxRecDepth 100000
set_option maxHeartbeats 2000000
namespace G
open PySem L2 TL

/-! ### comprehensions -/
def mapE {α β : Type} (f : α → M β) : List α → M (List β)
  | [] => pure []
  | x :: xs => f x >>= fun y => mapE f xs >>= fun ys => pure (y :: ys)
def filE {α β : Type} (t : α → M Bool) (f : α → M β) : List α → M (List β)
  | [] => pure []
  | x :: xs => t x >>= fun c => if c = true then f x >>= fun y => filE t f xs >>= fun ys => pure (y :: ys) else filE t f xs
theorem mapE_fil {α β : Type} (f : α → M β) : ∀ xs : List α, mapE f xs = filE (fun _ => pure true) f xs
  | [] => rfl
  | x :: xs => by
    show (f x >>= fun y => mapE f xs >>= fun ys => pure (y :: ys)) = (f x >>= fun y => filE (fun _ => pure true) f xs >>= fun ys => pure (y :: ys))
    rw [mapE_fil f xs]
/-- [f x for x in xs], [f x for x in xs if t x]: no raise is let out -/
def lc {α β : Type} (f : α → M β) (xs : List α) : M (List β) := chk (xs.length ≤ SZ) >>= fun _ => nr (mapE f xs)
def lf {α β : Type} (t : α → M Bool) (f : α → M β) (xs : List α) : M (List β) := chk (xs.length ≤ SZ) >>= fun _ => nr (filE t f xs)
def wipeL (L : List En) : List Nat → List En
  | [] => L
  | v :: vs => (wipeL L vs).set v .no
section
variable {b : Bs} {L : List En} {σ : L2.St} {Hi H : Hp}
theorem EnvOk.unset {i : Nat} (e : EnvOk b L σ Hi H) : EnvOk b (L.set i .no) (σ.set i none) Hi H := by
  have hi : ∀ {j : Nat} {en : En}, i = j → (L.set i En.no)[j]? = some en → en = .no := fun {j en} hj h => by
    subst hj
    have hl : i < (L.set i En.no).length := (List.getElem?_eq_some_iff.mp h).1
    rw [List.length_set] at hl
    rw [List.getElem?_set_self hl] at h
    cases h
    rfl
  refine ⟨e.ok, by rw [List.length_set, List.length_set]; exact e.len, fun j p h => ?_, fun j c h => ?_, fun j k c d a h1 h2 h3 h4 => ?_⟩
  · have hj : i ≠ j := fun z => nomatch hi z h
    rw [List.getElem?_set_ne hj] at h ⊢
    exact e.im j p h
  · have hj : i ≠ j := fun z => nomatch hi z h
    rw [List.getElem?_set_ne hj] at h ⊢
    exact e.mu j c h
  · have hj : i ≠ j := fun z => nomatch hi z h1
    have hk : i ≠ k := fun z => nomatch hi z h2
    rw [List.getElem?_set_ne hj] at h1 h3
    rw [List.getElem?_set_ne hk] at h2 h4
    exact e.dis j k c d a h1 h2 h3 h4
theorem EnvOk.wipe (e : EnvOk b L σ Hi H) : ∀ vs : List Nat, EnvOk b (wipeL L vs) (L2.wipe σ vs) Hi H
  | [] => e
  | v :: vs => (e.wipe vs).unset
end
theorem same_ne {A B : Hp} (s : Same A B) {D : Addr} {o : HO} (h : A D = none) : Same A (upd B D o) := fun a u e => by
  rw [upd_ne (ne_of_none e h)]
  exact s a u e

section
variable {X : Cx} {K : Fg} {b : Bs} {L : List En} {E : XK} {α β : Type} [Py α] [Py β]
theorem lc_core {mi : M (List α)} {t : α → M Bool} {f : α → M β} {u : α → List En → List En} {wi : TI} {g : TG} {tt : TT} {te : TE} {sl : List Nat}
    (hi : ∀ σ Hi H, EnvOk b L σ Hi H → ∀ R : It → Hp → Prop, PX K E mi Hi H (fun xs Hi' H' => ∀ J, ItOk K J Hi' xs → R J H') → wi σ H R)
    (hg : ∀ (L : List En) (σ : L2.St) (Hi H : Hp) (y : α) (x : V) (Q : L2.St → Hp → Prop), EnvOk b L σ Hi H → Py.rep K Hi y x → (∀ σ', EnvOk b (u y L) σ' Hi H → wipe σ' sl = wipe σ sl → Q σ' H) → g x σ H Q)
    (ht : ∀ (x : α) σ Hi H, EnvOk b (u x (wipeL L sl)) σ Hi H → ∀ Q : Bool → Hp → Prop, PX K E0 (t x) Hi H (fun a _ H' => Q a H') → tt σ H Q)
    (he : ∀ (x : α) σ Hi H, EnvOk b (u x (wipeL L sl)) σ Hi H → ∀ Q : VK, PV K E0 (f x) Hi H Q → te σ H Q) :
    ∀ σ Hi H, EnvOk b L σ Hi H → ∀ Q : VK, PF K E (ctL K) (mi >>= fun xs => lf t f xs) Hi H Q → tLc wi g tt te sl σ H Q := by
  intro σ Hi H en Q h
  refine hi σ Hi H en _ (h.bind.imp fun xs Hi1 H1 n1 q J it D hD => ?_)
  obtain ⟨hsz, q⟩ := PX.chk q
  cases hys : filE t f xs with
  | error z => rw [hys] at q; exact q.elim
  | ok ys =>
    rw [hys] at q
    have en1 := en.nx n1
    have nD : H D = none := by
      cases z : H D with
      | none => rfl
      | some u => rw [n1.al D u z] at hD; cases hD
    refine ⟨fun i m H2 => m = xs.length - i ∧ i ≤ xs.length ∧ ∃ (Hi2 : Hp) (acc : List V) (pr r : List β), Nx Hi1 H1 Hi2 H2 ∧ H2 D = some (.lst acc) ∧ Hi2 D = none ∧ filE t f (xs.drop i) = .ok r ∧ ys = pr ++ r ∧ Rl K Hi2 pr acc ∧ pr.length ≤ i,
      ⟨_, rfl, Nat.zero_le _, Hi1, [], [], ys, Nx.temp n1.sub hD, upd_same, hi_none n1.sub hD, by rw [List.drop_zero]; exact hys, rfl, .nil, Nat.le_refl _⟩, ?_⟩
    rintro i m H2 ⟨rfl, hil, Hi2, acc, pr, r, n2, hacc, hD2, hr, hyr, ra, hpl⟩
    by_cases hlt : i < xs.length
    · refine .inr ?_
      obtain ⟨y, hy⟩ : ∃ y, xs[i]? = some y := ⟨xs[i], List.getElem?_eq_getElem hlt⟩
      have hdr : xs.drop i = y :: xs.drop (i + 1) := by
        rw [List.drop_eq_getElem_cons hlt]
        congr 1
        exact Option.some.inj ((List.getElem?_eq_getElem hlt).symm.trans hy)
      obtain ⟨go, yl⟩ := it.go i y Hi2 H2 n2.im n2.sub hy
      refine ⟨go, fun H' => (i + 1 ≤ xs.length ∧ ∃ (Hi2 : Hp) (acc : List V) (pr r : List β), Nx Hi1 H1 Hi2 H' ∧ H' D = some (.lst acc) ∧ Hi2 D = none ∧ filE t f (xs.drop (i + 1)) = .ok r ∧ ys = pr ++ r ∧ Rl K Hi2 pr acc ∧ pr.length ≤ i + 1),
        fun H' w => ⟨xs.length - (i + 1), by omega, rfl, w⟩, fun x H3 hx => ?_⟩
      obtain ⟨Hi3, n3, rx⟩ := yl x H3 hx
      have en3 : EnvOk b (wipeL L sl) (wipe σ sl) Hi3 H3 := ((en1.nx n2).nx n3).wipe sl
      have hD3 : Hi3 D = none := n3.cap D (by rw [hacc]; exact fun z => nomatch z) hD2
      refine hg _ _ Hi3 H3 y x _ en3 rx fun σ2 en4 hw => ⟨by rw [hw, wipe_idem], ?_⟩
      rw [hdr] at hr
      have hr' : (t y >>= fun c => if c = true then f y >>= fun z => filE t f (xs.drop (i + 1)) >>= fun zs => pure (z :: zs) else filE t f (xs.drop (i + 1))) = .ok r := hr
      cases hty : t y with
      | error z => rw [hty] at hr'; cases hr'
      | ok c =>
        rw [hty] at hr'
        have hr2 : (if c = true then f y >>= fun z => filE t f (xs.drop (i + 1)) >>= fun zs => pure (z :: zs) else filE t f (xs.drop (i + 1))) = .ok r := hr'
        refine ht y σ2 Hi3 H3 en4 _ ?_
        rw [hty]
        intro Hi4 H4 n4
        have hD4 : Hi4 D = none := n4.cap D (by rw [n3.al _ _ hacc]; exact fun z => nomatch z) hD3
        cases c with
        | false =>
          rw [if_neg Bool.false_ne_true] at hr2
          show (if false = true then _ else _)
          rw [if_neg Bool.false_ne_true]
          exact ⟨hlt, Hi4, acc, pr, r, (n2.trans n3).trans n4, n4.al _ _ (n3.al _ _ hacc), hD4, hr2, hyr, ra.mono (n3.im.trans n4.im), Nat.le_succ_of_le hpl⟩
        | true =>
          rw [if_pos rfl] at hr2
          show (if true = true then _ else _)
          rw [if_pos rfl]
          refine he y σ2 Hi4 H4 (en4.nx n4) _ ?_
          cases hfy : f y with
          | error z => rw [hfy] at hr2; cases hr2
          | ok z =>
            rw [hfy] at hr2
            cases hzs : filE t f (xs.drop (i + 1)) with
            | error z2 => rw [hzs] at hr2; cases hr2
            | ok zs =>
              rw [hzs] at hr2
              have er : z :: zs = r := by cases hr2; rfl
              intro Hi5 H5 n5 v rv
              have hD5 : Hi5 D = none := n5.cap D (by rw [n4.al _ _ (n3.al _ _ hacc)]; exact fun z => nomatch z) hD4
              have n15 : Nx Hi1 H1 Hi5 H5 := ((n2.trans n3).trans n4).trans n5
              refine ⟨acc, n5.al _ _ (n4.al _ _ (n3.al _ _ hacc)), ?_, hlt, Hi5, acc ++ [v], pr ++ [z], zs, ⟨n15.im, same_ne n15.al hD, same_ne n15.sub hD5, n15.cap⟩, upd_same, hD5, rfl, ?_, (ra.mono ((n3.im.trans n4.im).trans n5.im)).app (.cons rv .nil), ?_⟩
              · have := ra.length
                exact Nat.lt_of_lt_of_le (by omega) hsz
              · rw [hyr, ← er, List.append_assoc]; rfl
              · rw [List.length_append]; exact Nat.succ_le_succ hpl
    · have e : i = xs.length := by omega
      subst e
      refine .inl ⟨it.stop _ Hi2 H2 n2.im n2.sub (Nat.le_refl _), ?_⟩
      rw [List.drop_eq_nil_of_le (Nat.le_refl _)] at hr
      have er : ([] : List β) = r := by cases hr; rfl
      rw [← er, List.append_nil] at hyr
      subst hyr
      exact (PX.go (a := ys) q n2) D _ hacc nD hD2 ⟨acc, rfl, ra⟩
theorem lf_lc {f : α → M β} (xs : List α) : lf (fun _ => pure true) f xs = lc f xs := by
  unfold lf lc
  rw [mapE_fil]
theorem je_jf {e : Expr} {m : M (List α)} (h : JF X K b L E e (ctL K) m) : JE X K b L E e m :=
  ⟨fun σ Hi H en Q hq => h.go σ Hi H en Q (by
    cases m with
    | error z => cases z with
      | rs c => exact hq
      | st => exact hq
    | ok xs =>
      intro Hi' H' x p o h1 h2 h3 h4
      obtain ⟨vs, rfl, r⟩ := h4
      have sm : Same Hi' (upd Hi' p (.lst vs)) := same_new h3
      have x2 : Nx Hi H (upd Hi' p (.lst vs)) H' := ⟨x.im.trans sm, x.al, fun a u e => by
        by_cases ha : a = p
        · subst ha; rw [upd_same] at e; cases e; exact h1
        · rw [upd_ne ha] at e; exact x.sub a u e, fun a ha hn => by
        rw [upd_ne (fun z => ha (by rw [z]; exact h2))]
        exact x.cap a ha hn⟩
      exact (show ∀ Hi' H', Nx Hi H Hi' H' → ∀ v, Py.rep K Hi' xs v → Q v H' from hq) _ _ x2 _ ⟨p, vs, rfl, .of upd_same, r.mono sm⟩)⟩
abbrev Bk : Type := Shared × Hp × Addr × List (Str × Addr) × List Addr
abbrev blkX (X : Cx) (scope : Scope) (p : Bk) : Cx := X.blk p.1 p.2.1 scope (compEnvC scope p.2.2.2.1 p.2.2.1 X.env) p.2.2.2.2
variable {tg iter elt c : Expr} {scope : Scope} {pos pos' py spos : Pos} {own : List (Str × Nat)} {u : α → List En → List En} {mi : M (List α)} {t : α → M Bool} {f : α → M β}
theorem jf_lf (hi : JI X K b L E tg iter mi) (hg : JG (blkX X scope) K tg (own.map (·.2)) u) (ht : ∀ (p : Bk) (x : α), JT (blkX X scope p) K b (u x (wipeL L (own.map (·.2)))) E0 c (t x)) (he : ∀ (p : Bk) (x : α), JE (blkX X scope p) K b (u x (wipeL L (own.map (·.2)))) E0 elt (f x))
    (hN : X.N.Nodup) (ok : BlkOk X.N X.env.scope scope own) (hc : X.calm = true := by rfl) (hs : ∀ x, foldedSetIterable iter X.env x = pure x := by intro _; rfl) : JF X K b L E (.ListComp elt [⟨tg, iter, [c], 0⟩] scope pos) (ctL K) (mi >>= fun xs => lf t f xs) := by
  obtain ⟨g, dg, pg⟩ := hg.ex
  refine ⟨fun σ Hi H en Q hq => PE.wp (pe_lc (tt := fun σ H Q => ∀ p : Bk, wpT (blkX X scope p) c σ H Q) (te := fun σ H Q => ∀ p : Bk, wpE (blkX X scope p) elt σ H Q) hc hN pi_wp ok (fun s H C cl fp => dg (s, H, C, cl, fp)) (fun s H C cl fp => pts_one ⟨fun pins s' σ' H' Q' I h => h (s, H, C, cl, fp) pins s' I⟩)
    (fun s H C cl fp => ⟨fun pins s' σ' H' Q' I h => h (s, H, C, cl, fp) pins s' I⟩) hs) (lc_core (u := u) hi.go (fun L => pg b L) (fun x σ Hi H en Q h p => (ht p x).go σ Hi H en Q h) (fun x σ Hi H en Q h p => (he p x).go σ Hi H en Q h) σ Hi H en Q hq)⟩
theorem jf_lc (hi : JI X K b L E tg iter mi) (hg : JG (blkX X scope) K tg (own.map (·.2)) u) (he : ∀ (p : Bk) (x : α), JE (blkX X scope p) K b (u x (wipeL L (own.map (·.2)))) E0 elt (f x))
    (hN : X.N.Nodup) (ok : BlkOk X.N X.env.scope scope own) (hc : X.calm = true := by rfl) (hs : ∀ x, foldedSetIterable iter X.env x = pure x := by intro _; rfl) : JF X K b L E (.ListComp elt [⟨tg, iter, [], 0⟩] scope pos) (ctL K) (mi >>= fun xs => lc f xs) := by
  obtain ⟨g, dg, pg⟩ := hg.ex
  refine ⟨fun σ Hi H en Q hq => PE.wp (pe_lc (tt := tYes) (te := fun σ H Q => ∀ p : Bk, wpE (blkX X scope p) elt σ H Q) hc hN pi_wp ok (fun s H C cl fp => dg (s, H, C, cl, fp)) (fun _ _ _ _ _ => pts_nil)
    (fun s H C cl fp => ⟨fun pins s' σ' H' Q' I h => h (s, H, C, cl, fp) pins s' I⟩) hs) (lc_core (u := u) (t := fun _ => pure true) hi.go (fun L => pg b L) (fun x σ Hi H en Q h => h.here en.sub) (fun x σ Hi H en Q h p => (he p x).go σ Hi H en Q h) σ Hi H en Q ?_)⟩
  have e : (fun xs => lf (fun _ => pure true) f xs) = fun xs => lc f xs := funext lf_lc
  rw [e]
  exact hq
/-! x = [..] where the store is made within -/
theorem j1_setLc0 {m : M (List β)} {te : TE} {mk : TE → Prop} (i : Nat) {y : Str} (d : PS X (.Assign [.Name y py] elt spos) (tAsg te (gName i))) (h : ∀ σ Hi H, EnvOk b L σ Hi H → ∀ Q : VK, PF K E (ctL K) m Hi H Q → te σ H Q) : J1 X K b L E (.Assign [.Name y py] elt spos) m (fun a => L.set i (.mu (ctL K a))) :=
  ⟨fun σ Hi H en D hz => PS.wp d (h σ Hi H en _ ((PZ.px en hz).imp fun a Hi' H' x q p o h1 h2 h3 h4 => q _ Hi' H' (en.setFresh x h1 h2 h3 h4)))⟩
theorem j1_setLf (i : Nat) {y : Str} (hi : JI X K b L E tg iter mi) (hg : JG (blkX X scope) K tg (own.map (·.2)) u) (ht : ∀ (p : Bk) (x : α), JT (blkX X scope p) K b (u x (wipeL L (own.map (·.2)))) E0 c (t x)) (he : ∀ (p : Bk) (x : α), JE (blkX X scope p) K b (u x (wipeL L (own.map (·.2)))) E0 elt (f x))
    (hN : X.N.Nodup) (ok : BlkOk X.N X.env.scope scope own) (hy : X.N[i]? = some y := by rfl) (hyl : X.env.scope.names.lookup y = some .local := by rfl) (hc : X.calm = true := by rfl) (hs : ∀ x, foldedSetIterable iter X.env x = pure x := by intro _; rfl)
    (hsw : swapsWith (.ListComp elt [⟨tg, iter, [c], 0⟩] scope pos) (some (.Name y py)) spos.line X.env = pure true := by exact sw_true rfl rfl rfl (by decide +kernel)) :
    J1 X K b L E (.Assign [.Name y py] (.ListComp elt [⟨tg, iter, [c], 0⟩] scope pos) spos) (mi >>= fun xs => lf t f xs) (fun a => L.set i (.mu (ctL K a))) := by
  obtain ⟨g, dg, pg⟩ := hg.ex
  exact j1_setLc0 (mk := fun _ => True) i (ps_setLc (tt := fun σ H Q => ∀ p : Bk, wpT (blkX X scope p) c σ H Q) (te := fun σ H Q => ∀ p : Bk, wpE (blkX X scope p) elt σ H Q) hc hN hy hyl hsw pi_wp ok (fun s H C cl fp => dg (s, H, C, cl, fp)) (fun s H C cl fp => pts_one ⟨fun pins s' σ' H' Q' I h => h (s, H, C, cl, fp) pins s' I⟩)
    (fun s H C cl fp => ⟨fun pins s' σ' H' Q' I h => h (s, H, C, cl, fp) pins s' I⟩) hs) (lc_core (u := u) hi.go (fun L => pg b L) (fun x σ Hi H en Q h p => (ht p x).go σ Hi H en Q h) (fun x σ Hi H en Q h p => (he p x).go σ Hi H en Q h))
theorem j1_setLc (i : Nat) {y : Str} (hi : JI X K b L E tg iter mi) (hg : JG (blkX X scope) K tg (own.map (·.2)) u) (he : ∀ (p : Bk) (x : α), JE (blkX X scope p) K b (u x (wipeL L (own.map (·.2)))) E0 elt (f x))
    (hN : X.N.Nodup) (ok : BlkOk X.N X.env.scope scope own) (hy : X.N[i]? = some y := by rfl) (hyl : X.env.scope.names.lookup y = some .local := by rfl) (hc : X.calm = true := by rfl) (hs : ∀ x, foldedSetIterable iter X.env x = pure x := by intro _; rfl)
    (hsw : swapsWith (.ListComp elt [⟨tg, iter, [], 0⟩] scope pos) (some (.Name y py)) spos.line X.env = pure true := by exact sw_true rfl rfl rfl (by decide +kernel)) :
    J1 X K b L E (.Assign [.Name y py] (.ListComp elt [⟨tg, iter, [], 0⟩] scope pos) spos) (mi >>= fun xs => lc f xs) (fun a => L.set i (.mu (ctL K a))) := by
  obtain ⟨g, dg, pg⟩ := hg.ex
  refine j1_setLc0 (mk := fun _ => True) i (ps_setLc (tt := tYes) (te := fun σ H Q => ∀ p : Bk, wpE (blkX X scope p) elt σ H Q) hc hN hy hyl hsw pi_wp ok (fun s H C cl fp => dg (s, H, C, cl, fp)) (fun _ _ _ _ _ => pts_nil)
    (fun s H C cl fp => ⟨fun pins s' σ' H' Q' I h => h (s, H, C, cl, fp) pins s' I⟩) hs) (fun σ Hi H en Q hq => lc_core (u := u) (t := fun _ => pure true) hi.go (fun L => pg b L) (fun x σ Hi H en Q h => h.here en.sub) (fun x σ Hi H en Q h p => (he p x).go σ Hi H en Q h) σ Hi H en Q ?_)
  have e : (fun xs => lf (fun _ => pure true) f xs) = fun xs => lc f xs := funext lf_lc
  rw [e]
  exact hq
end
/-! targets -/
theorem jg_name {ι : Type} {X : ι → Cx} {K : Fg} {α : Type} [Py α] (i : Nat) {x : Str} {pos : Pos} (hN : ∀ j, (X j).N.Nodup) (hi : ∀ j, (X j).N[i]? = some x := by intro _; rfl) (hx : ∀ j, Loc (X j).env.scope x := by intro _; first | exact Or.inl rfl | exact Or.inr rfl)
    (hf : ∀ j, (X j).fn x = true ∨ (X j).env.scope.names.lookup x = some .local := by intro _; first | exact .inl rfl | exact .inr rfl) : JG X K (.Name x pos) [i] (fun (y : α) L => L.set i (.im (rp K y))) :=
  ⟨⟨gName i, fun j => pg_name (hN j) (hi j) (hx j) (hf j), fun b L σ Hi H y v Q en r k => k _ (en.set (p := rp K y) r) (by show (σ.set i (some v)).set i none = σ.set i none; rw [List.set_set])⟩⟩
theorem jg_pair {ι : Type} {X : ι → Cx} {K : Fg} {α β : Type} [Py α] [Py β] (i j : Nat) {x y : Str} {pos px py : Pos} {kx : Nat} (hN : ∀ k, (X k).N.Nodup) (hi : ∀ k, (X k).N[i]? = some x := by intro _; rfl) (hj : ∀ k, (X k).N[j]? = some y := by intro _; rfl)
    (hx : ∀ j, Loc (X j).env.scope x := by intro _; first | exact Or.inl rfl | exact Or.inr rfl) (hy : ∀ j, Loc (X j).env.scope y := by intro _; first | exact Or.inl rfl | exact Or.inr rfl)
    (hf : ∀ j, (X j).fn x = true ∨ (X j).env.scope.names.lookup x = some .local := by intro _; first | exact .inl rfl | exact .inr rfl) (hf2 : ∀ j, (X j).fn y = true ∨ (X j).env.scope.names.lookup y = some .local := by intro _; first | exact .inl rfl | exact .inr rfl)
    (hc : ∀ j, (X j).calm = true := by intro _; rfl) (hK : ∀ j, (X j).K = K := by intro _; rfl) : JG X K (.Tuple [.Name x px, .Name y py] kx pos) [i, j] (fun (p : α × β) L => (L.set i (.im (rp K p.1))).set j (.im (rp K p.2))) :=
  ⟨⟨gTup K 2 (gCons (gName i) (gCons (gName j) gNil)), fun k => by
    have := pg_tup (k := kx) (pos := pos) (n := 2) (hc k) (pgs_cons (pg_name (pos := px) (hN k) (hi k) (hx k) (hf k)) (pgs_cons (pg_name (pos := py) (hN k) (hj k) (hy k) (hf2 k)) pgs_nil))
    rw [hK k] at this
    exact this, fun b L σ Hi H p v Q en r k => by
    obtain ⟨q, v1, v2, rfl, g1, g2, g3⟩ := r
    refine ⟨q, [v1, v2], rfl, sqt_mono en.sub g1, rfl, v1, [v2], rfl, v2, [], rfl, rfl, k _ ((en.set (p := rp K p.1) g2).set (p := rp K p.2) g3) ?_⟩
    show ((((σ.set i (some v1)).set j (some v2)).set j none).set i none) = (σ.set j none).set i none
    rw [List.set_set]
    by_cases e : i = j
    · subst e; simp [List.set_set]
    · rw [List.set_comm _ _ e, List.set_set, List.set_comm _ _ (Ne.symm e)]⟩⟩

/-! ### loops -/
def forT {α S R : Type} (f : S → α → M (Tl S R)) (s : S) : List α → M (S ⊕ R)
  | [] => pure (.inl s)
  | x :: xs => f s x >>= fun t => match t with
    | .ct s' => forT f s' xs
    | .bk s' => pure (.inl s')
    | .rt r => pure (.inr r)
/-- a loop that only goes on, a loop without a return -/
def forP {α S : Type} (f : S → α → M S) (s : S) : List α → M S
  | [] => pure s
  | x :: xs => f s x >>= fun s' => forP f s' xs
inductive No
instance : Py No := ⟨fun _ _ e _ => (nomatch e), by intro K H H' a v; exact nomatch a⟩
def forB {α S : Type} (f : S → α → M (Tl S No)) (s : S) : List α → M S
  | [] => pure s
  | x :: xs => f s x >>= fun t => match t with
    | .ct s' => forB f s' xs
    | .bk s' => pure s'
/-- behind a loop that may return -/
def thenT {S R β : Type} (mr : S → M β) (wr : R → β) : S ⊕ R → M β
  | .inl s => mr s
  | .inr r => pure (wr r)
def whT {S R : Type} (c : S → M Bool) (f : S → M (Tl S R)) : Nat → S → M (S ⊕ R)
  | 0, _ => stuck
  | n + 1, s => c s >>= fun t => if t = true then f s >>= fun t => (match t with
    | .ct s' => whT c f n s'
    | .bk s' => pure (.inl s')
    | .rt r => pure (.inr r)) else pure (.inl s)
def whP {S : Type} (c : S → M Bool) (f : S → M S) : Nat → S → M S
  | 0, _ => stuck
  | n + 1, s => c s >>= fun t => if t = true then f s >>= fun s' => whP c f n s' else pure s
def whB {S : Type} (c : S → M Bool) (f : S → M (Tl S No)) : Nat → S → M S
  | 0, _ => stuck
  | n + 1, s => c s >>= fun t => if t = true then f s >>= fun t => (match t with
    | .ct s' => whB c f n s'
    | .bk s' => pure s') else pure s
def outT {S R : Type} (f : S → R) : S ⊕ No → R
  | .inl s => f s
theorem bcong {α β : Type} {m : M α} {f g : α → M β} (h : ∀ a, f a = g a) : (m >>= f) = (m >>= g) := by rw [funext h]
theorem forP_T {α S R : Type} (f : S → α → M S) : ∀ (xs : List α) (s : S), forT (R := R) (fun s x => f s x >>= fun s' => pure (.ct s')) s xs = (forP f s xs >>= fun s => pure (.inl s))
  | [], s => rfl
  | x :: xs, s => by
    show ((f s x >>= fun s' => pure (Tl.ct s')) >>= _) = ((f s x >>= fun s' => forP f s' xs) >>= _)
    rw [bind_assoc, bind_assoc]
    refine bcong fun s' => ?_
    exact forP_T f xs s'
theorem forB_T {α S R : Type} (f : S → α → M (Tl S No)) : ∀ (xs : List α) (s : S), (forT f s xs >>= fun z => pure (outT id z)) = forB f s xs
  | [], s => rfl
  | x :: xs, s => by
    show ((f s x >>= _) >>= _) = (f s x >>= _)
    rw [bind_assoc]
    refine bcong fun t => ?_
    cases t with
    | ct s' => exact forB_T (R := R) f xs s'
    | bk s' => rfl
    | rt r => exact nomatch r
theorem whP_T {S R : Type} (c : S → M Bool) (f : S → M S) : ∀ (n : Nat) (s : S), whT (R := R) c (fun s => f s >>= fun s' => pure (.ct s')) n s = (whP c f n s >>= fun s => pure (.inl s))
  | 0, s => rfl
  | n + 1, s => by
    unfold whT whP
    refine Eq.trans (bcong fun t => ?_) (bind_assoc _ _ _).symm
    cases t with
    | false => rfl
    | true =>
      rw [if_pos rfl, if_pos rfl, bind_assoc, bind_assoc]
      refine bcong fun s' => ?_
      exact whP_T c f n s'
theorem whB_T {S : Type} (c : S → M Bool) (f : S → M (Tl S No)) : ∀ (n : Nat) (s : S), (whT c f n s >>= fun z => pure (outT id z)) = whB c f n s
  | 0, s => rfl
  | n + 1, s => by
    show ((c s >>= _) >>= _) = (c s >>= _)
    rw [bind_assoc]
    refine bcong fun t => ?_
    cases t with
    | false => rfl
    | true =>
      show ((f s >>= _) >>= _) = (f s >>= _)
      rw [bind_assoc]
      refine bcong fun t => ?_
      cases t with
      | ct s' => exact whB_T c f n s'
      | bk s' => rfl
      | rt r => exact nomatch r

section
variable {X : Cx} {K : Fg} {b : Bs} {L : List En} {E : XK} {α S R : Type} [Py α] [Py R]
theorem PZ.up {β : Type} {m : M β} {F H0 : Hp} {post : β → Prop} (o : Ok b F H0) (h : PZ K E b m post) : PZ K E (b.fl F) m post := by
  cases m with
  | ok a => exact h
  | error z => cases z with
    | rs c => exact fun Hi H o' => h Hi H (o.down o')
    | st => exact h
/-- what a loop's end is -/
def pEnd (K : Fg) (b : Bs) (Lf : S → List En) (z : S ⊕ R) (D : Ends) : Prop := match z with
  | .inl s => pNx b Lf s D
  | .inr r => pRt K b r D
theorem tl_up {Lf : S → List En} {F H0 : Hp} {t : Tl S R} {D : Ends} (o : Ok b F H0) (h : pTl K b Lf t D) : pTl K (b.fl F) Lf t D := by
  cases t with
  | ct s => exact fun σ Hi H en => h σ Hi H (EnvOk.down o en)
  | bk s => exact fun σ Hi H en => h σ Hi H (EnvOk.down o en)
  | rt r => exact fun v Hi H o' rv => h v Hi H (o.down o') rv
theorem for_core {Lf : S → List En} {f : S → α → M (Tl S R)} {xs : List α} {s0 : S} {u : α → List En → List En} {g : TG} {tb : TS} {D : Ends} {J : It} {σ0 : L2.St} {Hi0 H0 : Hp} {sl : List Nat}
    (it : ItOk K J Hi0 xs) (en0 : EnvOk b (Lf s0) σ0 Hi0 H0)
    (hg : ∀ (b : Bs) (L : List En) (σ : L2.St) (Hi H : Hp) (y : α) (x : V) (Q : L2.St → Hp → Prop), EnvOk b L σ Hi H → Py.rep K Hi y x → (∀ σ', EnvOk b (u y L) σ' Hi H → wipe σ' sl = wipe σ sl → Q σ' H) → g x σ H Q)
    (hb : ∀ (F : Hp) (s : S) (x : α) σ Hi H, EnvOk (b.fl F) (u x (Lf s)) σ Hi H → ∀ D : Ends, D.nx = D.ct → PZ K E (b.fl F) (f s x) (fun t => pTl K (b.fl F) Lf t D) → tb D σ H)
    (hz : PZ K E b (forT f s0 xs) (fun z => pEnd K b Lf z D)) :
    ∃ W : Nat → Nat → L2.St → Hp → Prop, (∃ m, W 0 m σ0 H0) ∧ ∀ i m σ H, W i m σ H →
      (J.stop i H ∧ D.nx σ H) ∨ (J.go i H ∧ ∃ N : L2.St → Hp → Prop, (∀ σ' H', N σ' H' → ∃ m', m' < m ∧ W (i + 1) m' σ' H') ∧ ∀ x H', J.yld i H x H' → g x σ H' fun σ2 H2 => tb { D with nx := N, ct := N, bk := D.nx } σ2 H2) := by
  have o0 := en0.ok
  refine ⟨fun i m σ H => ∃ (s : S) (Hi : Hp), m = xs.length - i ∧ i ≤ xs.length ∧ EnvOk (b.fl Hi0) (Lf s) σ Hi H ∧ PZ K E b (forT f s (xs.drop i)) (fun z => pEnd K b Lf z D), ⟨_, s0, Hi0, rfl, Nat.zero_le _, en0.up, hz⟩, ?_⟩
  rintro i m σ H ⟨s, Hi, rfl, hil, en, hq⟩
  have sm0 : Same Hi0 Hi := en.ok.base
  by_cases hlt : i < xs.length
  · refine .inr ?_
    obtain ⟨y, hy⟩ : ∃ y, xs[i]? = some y := ⟨xs[i], List.getElem?_eq_getElem hlt⟩
    have hdr : xs.drop i = y :: xs.drop (i + 1) := by
      rw [List.drop_eq_getElem_cons hlt]
      congr 1
      exact Option.some.inj ((List.getElem?_eq_getElem hlt).symm.trans hy)
    rw [hdr] at hq
    obtain ⟨go, yl⟩ := it.go i y Hi H sm0 en.sub hy
    refine ⟨go, fun σ' H' => ∃ (s : S) (Hi : Hp), i + 1 ≤ xs.length ∧ EnvOk (b.fl Hi0) (Lf s) σ' Hi H' ∧ PZ K E b (forT f s (xs.drop (i + 1))) (fun z => pEnd K b Lf z D), fun σ' H' ⟨s', Hi', w1, w2, w3⟩ => ⟨xs.length - (i + 1), by omega, s', Hi', rfl, w1, w2, w3⟩, fun x H1 hx => ?_⟩
    obtain ⟨Hi1, n1, rx⟩ := yl x H1 hx
    refine hg _ _ _ Hi1 H1 y x _ (en.nx n1) rx fun σ2 en2 _ => ?_
    refine hb Hi0 s y σ2 Hi1 H1 en2 _ rfl (PZ.up o0 ((PZ.bindz hq).imp fun t q => ?_))
    cases t with
    | ct s' => exact fun σ3 Hi3 H3 en3 => ⟨s', Hi3, hlt, en3, q⟩
    | bk s' => exact fun σ3 Hi3 H3 en3 => (show pNx b Lf s' D from q) σ3 Hi3 H3 (EnvOk.down o0 en3)
    | rt r => exact fun v Hi3 H3 o3 rv => (show pRt K b r D from q) v Hi3 H3 (o0.down o3) rv
  · have e : i = xs.length := by omega
    subst e
    refine .inl ⟨it.stop _ Hi H sm0 en.sub (Nat.le_refl _), ?_⟩
    rw [List.drop_eq_nil_of_le (Nat.le_refl _)] at hq
    exact (show pNx b Lf s D from hq) σ Hi H (EnvOk.down o0 en)
variable {tg iter : Expr} {body rest : List Stmt} {pos : Pos} {mi : M (List α)} {u : α → List En → List En} {Lf : S → List En} {s0 : S} {sl : List Nat}
/-- a loop that may return -/
theorem js_forR {β : Type} {post : β → Ends → Prop} {tl : Ends → Prop} {f : S → α → M (Tl S R)} {mr : S → M β} (wr : R → β) (hw : ∀ r D, post (wr r) D → pRt K b r D) (hi : JI X K b L E tg iter mi) (hg : JG (fun _ : Unit => X) K tg sl u) (w : Wk L (Lf s0))
    (hb : ∀ (F : Hp) (s : S) (x : α), JS X K (b.fl F) (u x (Lf s)) E body tlLp (f s x) (pTl K (b.fl F) Lf)) (hr : ∀ s, JS X K b (Lf s) E rest tl (mr s) post) (hp : PassesOwn (model X.prog X.w) X.A X.env X.xe) (hc : X.calm = true := by rfl) (hs : ∀ x, foldedSetIterable iter X.env x = pure x := by intro _; rfl) :
    JS X K b L E (.For tg iter body [] pos :: rest) tl (mi >>= fun xs => forT f s0 xs >>= thenT mr wr) post := by
  obtain ⟨g, dg, pg⟩ := hg.ex
  refine ⟨fun σ Hi H en D ht hz => PSs.wp (pss_cons (ps_for hp hc pi_wp (dg ()) pss_wp hs) pss_wp) ?_⟩
  refine hi.go σ Hi H en _ ((PZ.bind en hz).imp fun xs Hi1 H1 n1 q J it => ?_)
  refine for_core (f := f) (s0 := s0) (Lf := Lf) (u := u) it ((en.nx n1).wk w) pg (fun F s x σ Hi H en D hD hz => (hb F s x).go σ Hi H en D (fun σ H h => by rw [hD]; exact h) hz) (q.bindz.imp fun z hz2 => ?_)
  cases z with
  | inl s => exact fun σ' Hi' H' en' => (hr s).go σ' Hi' H' en' D ht hz2
  | inr r => exact hw r D hz2
theorem j1_forB {f : S → α → M (Tl S No)} (hi : JI X K b L E tg iter mi) (hg : JG (fun _ : Unit => X) K tg sl u) (w : Wk L (Lf s0))
    (hb : ∀ (F : Hp) (s : S) (x : α), JS X K (b.fl F) (u x (Lf s)) E body tlLp (f s x) (pTl K (b.fl F) Lf)) (hp : PassesOwn (model X.prog X.w) X.A X.env X.xe) (hc : X.calm = true := by rfl) (hs : ∀ x, foldedSetIterable iter X.env x = pure x := by intro _; rfl) :
    J1 X K b L E (.For tg iter body [] pos) (mi >>= fun xs => forB f s0 xs) Lf := by
  obtain ⟨g, dg, pg⟩ := hg.ex
  refine ⟨fun σ Hi H en D hz => PS.wp (ps_for hp hc pi_wp (dg ()) pss_wp hs) ?_⟩
  refine hi.go σ Hi H en _ ((PZ.bind en hz).imp fun xs Hi1 H1 n1 q J it => ?_)
  rw [← forB_T (R := No)] at q
  refine for_core (f := f) (s0 := s0) (Lf := Lf) (u := u) it ((en.nx n1).wk w) pg (fun F s x σ Hi H en D hD hz => (hb F s x).go σ Hi H en D (fun σ H h => by rw [hD]; exact h) hz) (q.bindz.imp fun z hz2 => ?_)
  cases z with
  | inl s => exact hz2
  | inr r => exact nomatch r
theorem j1_forP {f : S → α → M S} (hi : JI X K b L E tg iter mi) (hg : JG (fun _ : Unit => X) K tg sl u) (w : Wk L (Lf s0))
    (hb : ∀ (F : Hp) (s : S) (x : α), JS X K (b.fl F) (u x (Lf s)) E body tlAny (f s x) (pNx (b.fl F) Lf)) (hp : PassesOwn (model X.prog X.w) X.A X.env X.xe) (hc : X.calm = true := by rfl) (hs : ∀ x, foldedSetIterable iter X.env x = pure x := by intro _; rfl) :
    J1 X K b L E (.For tg iter body [] pos) (mi >>= fun xs => forP f s0 xs) Lf := by
  obtain ⟨g, dg, pg⟩ := hg.ex
  refine ⟨fun σ Hi H en D hz => PS.wp (ps_for hp hc pi_wp (dg ()) pss_wp hs) ?_⟩
  refine hi.go σ Hi H en _ ((PZ.bind en hz).imp fun xs Hi1 H1 n1 q J it => ?_)
  refine for_core (R := No) (f := fun s x => f s x >>= fun s' => pure (.ct s')) (s0 := s0) (Lf := Lf) (u := u) it ((en.nx n1).wk w) pg (fun F s x σ Hi H en D hD hz => (hb F s x).go σ Hi H en D trivial (hz.bindz.imp fun s' h σ2 Hi2 H2 en2 => ?_)) ?_
  · rw [hD]; exact (show ∀ σ' Hi' H', EnvOk (b.fl F) (Lf s') σ' Hi' H' → D.ct σ' H' from h) σ2 Hi2 H2 en2
  · rw [forP_T]
    cases hm : forP f s0 xs with
    | ok a => rw [hm] at q; exact q
    | error z => rw [hm] at q; cases z <;> exact q

theorem wh_core {c : S → M Bool} {f : S → M (Tl S R)} {tc : TT} {tb : TS} {D : Ends} {σ0 : L2.St} {Hi0 H0 : Hp} {n : Nat} (en0 : EnvOk b (Lf s0) σ0 Hi0 H0)
    (hc : ∀ (s : S) σ Hi H, EnvOk b (Lf s) σ Hi H → ∀ Q : Bool → Hp → Prop, PX K E (c s) Hi H (fun a _ H' => Q a H') → tc σ H Q)
    (hb : ∀ (s : S) σ Hi H, EnvOk b (Lf s) σ Hi H → ∀ D : Ends, D.nx = D.ct → PZ K E b (f s) (fun t => pTl K b Lf t D) → tb D σ H)
    (hz : PZ K E b (whT c f n s0) (fun z => pEnd K b Lf z D)) : tWhile tc tb D σ0 H0 := by
  refine ⟨fun m σ H => ∃ (s : S) (Hi : Hp), EnvOk b (Lf s) σ Hi H ∧ PZ K E b (whT c f m s) (fun z => pEnd K b Lf z D), ⟨n, s0, Hi0, en0, hz⟩, ?_⟩
  rintro m σ H ⟨s, Hi, en, hq⟩
  cases m with
  | zero => exact hq.elim
  | succ m =>
    refine hc s σ Hi H en _ ((PZ.bind en hq).imp fun t Hi1 H1 n1 q => ?_)
    cases t with
    | false =>
      rw [if_neg Bool.false_ne_true] at q ⊢
      exact (show pNx b Lf s D from q) σ Hi1 H1 (en.nx n1)
    | true =>
      rw [if_pos rfl] at q ⊢
      refine ⟨fun σ' H' => ∃ (s : S) (Hi : Hp), EnvOk b (Lf s) σ' Hi H' ∧ PZ K E b (whT c f m s) (fun z => pEnd K b Lf z D), fun σ' H' w => ⟨m, Nat.lt_succ_self _, w⟩, ?_⟩
      refine hb s σ Hi1 H1 (en.nx n1) _ rfl (q.bindz.imp fun t q2 => ?_)
      cases t with
      | ct s' => exact fun σ3 Hi3 H3 en3 => ⟨s', Hi3, en3, q2⟩
      | bk s' => exact q2
      | rt r => exact q2
variable {c : Expr} {mc : S → M Bool}
theorem js_whR {β : Type} {post : β → Ends → Prop} {tl : Ends → Prop} {f : S → M (Tl S R)} {mr : S → M β} (n : Nat) (wr : R → β) (hw : ∀ r D, post (wr r) D → pRt K b r D) (w : Wk L (Lf s0)) (hc : ∀ s, JT X K b (Lf s) E c (mc s))
    (hb : ∀ (s : S), JS X K b (Lf s) E body tlLp (f s) (pTl K b Lf)) (hr : ∀ s, JS X K b (Lf s) E rest tl (mr s) post) (hp : PassesOwn (model X.prog X.w) X.A X.env X.xe) :
    JS X K b L E (.While c body [] pos :: rest) tl (whT mc f n s0 >>= thenT mr wr) post := by
  refine ⟨fun σ Hi H en D ht hz => PSs.wp (pss_cons (ps_while hp pt_wp pss_wp) pss_wp) ?_⟩
  refine wh_core (c := mc) (f := f) (n := n) (en.wk w) (fun s => (hc s).go) (fun s σ Hi H en D hD hz => (hb s).go σ Hi H en D (fun σ H h => by rw [hD]; exact h) hz) (hz.bindz.imp fun z hz2 => ?_)
  cases z with
  | inl s => exact fun σ' Hi' H' en' => (hr s).go σ' Hi' H' en' D ht hz2
  | inr r => exact hw r D hz2
theorem j1_whB {f : S → M (Tl S No)} (n : Nat) (w : Wk L (Lf s0)) (hc : ∀ s, JT X K b (Lf s) E c (mc s)) (hb : ∀ (s : S), JS X K b (Lf s) E body tlLp (f s) (pTl K b Lf)) (hp : PassesOwn (model X.prog X.w) X.A X.env X.xe) : J1 X K b L E (.While c body [] pos) (whB mc f n s0) Lf := by
  refine ⟨fun σ Hi H en D hz => PS.wp (ps_while hp pt_wp pss_wp) ?_⟩
  rw [← whB_T] at hz
  refine wh_core (c := mc) (f := f) (n := n) (en.wk w) (fun s => (hc s).go) (fun s σ Hi H en D hD hz => (hb s).go σ Hi H en D (fun σ H h => by rw [hD]; exact h) hz) (hz.bindz.imp fun z hz2 => ?_)
  cases z with
  | inl s => exact hz2
  | inr r => exact nomatch r
theorem j1_whP {f : S → M S} (n : Nat) (w : Wk L (Lf s0)) (hc : ∀ s, JT X K b (Lf s) E c (mc s)) (hb : ∀ (s : S), JS X K b (Lf s) E body tlAny (f s) (pNx b Lf)) (hp : PassesOwn (model X.prog X.w) X.A X.env X.xe) : J1 X K b L E (.While c body [] pos) (whP mc f n s0) Lf := by
  refine ⟨fun σ Hi H en D hz => PS.wp (ps_while hp pt_wp pss_wp) ?_⟩
  refine wh_core (R := No) (c := mc) (f := fun s => f s >>= fun s' => pure (.ct s')) (n := n) (en.wk w) (fun s => (hc s).go) (fun s σ Hi H en D hD hz => (hb s).go σ Hi H en D trivial (hz.bindz.imp fun s' h σ2 Hi2 H2 en2 => ?_)) ?_
  · rw [hD]; exact (show ∀ σ' Hi' H', EnvOk b (Lf s') σ' Hi' H' → D.ct σ' H' from h) σ2 Hi2 H2 en2
  · rw [whP_T]
    cases hm : whP mc f n s0 with
    | ok a => rw [hm] at hz; exact hz
    | error z => rw [hm] at hz; cases z <;> exact hz
end
end G

set_option Elab.async false
set_option linter.all false
set_option maxRecDepth 100000
set_option maxHeartbeats 2000000
namespace G
open PySem L2 TL
abbrev FUEL : Nat := 1000000000000
theorem bt_len : bootBuiltins "len" = some (.builtin "len") := by decide +kernel
theorem bt_isinstance : bootBuiltins "isinstance" = some (.builtin "isinstance") := by decide +kernel
theorem bt_sorted : bootBuiltins "sorted" = some (.builtin "sorted") := by decide +kernel
theorem bt_max : bootBuiltins "max" = some (.builtin "max") := by decide +kernel
theorem bt_min : bootBuiltins "min" = some (.builtin "min") := by decide +kernel
theorem bt_sum : bootBuiltins "sum" = some (.builtin "sum") := by decide +kernel
theorem bt_all : bootBuiltins "all" = some (.builtin "all") := by decide +kernel
theorem bt_any : bootBuiltins "any" = some (.builtin "any") := by decide +kernel
theorem bt_abs : bootBuiltins "abs" = some (.builtin "abs") := by decide +kernel
theorem bt_bool : bootBuiltins "bool" = some (.type "bool") := by decide +kernel
theorem bt_int : bootBuiltins "int" = some (.type "int") := by decide +kernel
theorem bt_str : bootBuiltins "str" = some (.type "str") := by decide +kernel
theorem bt_list : bootBuiltins "list" = some (.type "list") := by decide +kernel
theorem bt_tuple : bootBuiltins "tuple" = some (.type "tuple") := by decide +kernel
theorem bt_dict : bootBuiltins "dict" = some (.type "dict") := by decide +kernel
theorem bt_set : bootBuiltins "set" = some (.type "set") := by decide +kernel
theorem bt_range : bootBuiltins "range" = some (.type "range") := by decide +kernel
theorem bt_enumerate : bootBuiltins "enumerate" = some (.type "enumerate") := by decide +kernel
theorem bt_zip : bootBuiltins "zip" = some (.type "zip") := by decide +kernel
theorem bt_reversed : bootBuiltins "reversed" = some (.type "reversed") := by decide +kernel
section
variable {P : Program} {w : World} {K : Fg} {mg : Str → Option Value} {base : Heap} {N : List Str} {qual : Str} {sc : Scope} {f : Addr} {cdv : Value} {A : Around} {outer : List Env} {s : Shared} {H : Hp} {E : XK}
theorem takF : Takes (cxOf (L2.CX P w) P w K mg base N qual sc f cdv A outer s H E) (fun cls d _ H => E cls d H) := takes_of rfl rfl rfl rfl
theorem pasF : Passes (L2.CX P w) (cxOf (L2.CX P w) P w K mg base N qual sc f cdv A outer s H E) E := passes_call takF (fun _ _ _ _ h => h)
theorem pasO : PassesOwn (model P w) (cxOf (L2.CX P w) P w K mg base N qual sc f cdv A outer s H E).A (cxOf (L2.CX P w) P w K mg base N qual sc f cdv A outer s H E).env (cxOf (L2.CX P w) P w K mg base N qual sc f cdv A outer s H E).xe := passes_of rfl
end
theorem cx_false {P : Program} {w : World} {l : List Env} {H : Hp} {s : Shared} {e : Value} {s' : Shared} (h : L2.CX P w l H s (fun _ _ _ => False) e s') : False := by
  obtain ⟨_, _, _, _, _, _, _, _, _, _, _, _, z⟩ := h
  exact z
theorem walkE {l : PySem.W.OpenLaw} {n k : Nat} {q : Program} {loose : List Str} {XP : (Str → Option Value) → Heap → Prop} {YP : World → Heap → Prop} {d : DefRec} {CX : World → CXT} {x : Str}
    (hn : l.most = some n) (hn2 : n ≤ sizeLine) (hdf : d.params.defaults = []) (hr : Room k callerA)
    (F : ∀ (w : World) (mg : Str → Option Value) (fa : Addr) (h : Heap), YP w h → h.Ns mainGlobals mg → mg d.name = some (.ref fa) →
      ∃ (K : PySem.W.Frag) (fd : FuncData) (sp : Sp), K.In h ∧ (∀ (s : Shared) (u : Value), BindsTo s fd ⟨[u], []⟩ [(x, u)]) ∧
        (∀ (H : Hp) (a : Addr) (ns : List Int), ns.length ≤ n → Only H → SqL K H a (ns.map V.int) → sp [.ref a] H (fun v _ => v = .bl true) fun _ _ _ => False) ∧
        ∀ base : Heap, K.In base → base.Ns mainGlobals mg → FnOk l.prog w K mg base (CX w) k fa fd [x] sp)
    (hCX : ∀ (w : World) (H : Hp) (s : Shared) (e : Value) (s' : Shared), CX w [] H s (fun _ _ _ => False) e s' → False) :
    PySem.W.WalkO q loose XP YP l.row.toRowW d [] (fun f vs => PySem.call f vs) := by
  refine Att.attach_call hn hdf fun w s₀ s₁ mg mb fa o pm cd doc a vs ns G Y ho hd hcd hmg hobj hints hlen hg => ?_
  obtain ⟨K, fd, sp, KX, hb, hsp, hF⟩ := F w mg fa _ Y G.T.g hmg
  exact law_call KX G.T.g G.T.b G.T.builtins G.T.nolimit hg hobj hints (Nat.le_trans hlen hn2) hr hF hb (fun H hO hS => hsp H a ns hlen hO hS) fun H e s' => hCX w H s₁ e s'
theorem fnok_same {P : Program} {w : World} {K : Fg} {mg : Str → Option Value} {base : Heap} {CX : CXT} {k : Nat} {f : Addr} {fd fd' : FuncData} {ps ps' : List Str} {sp : Sp} {x qual : Str} {params : Arguments} {body : List Stmt} {scope : Scope} {dvs : List V} {kws : List (Str × V)}
    (F : FunD K x qual params body scope dvs kws f fd) (g : FnOk P w K mg base CX k f fd' ps' sp) : FnOk P w K mg base CX k f fd' ps' sp := g
section
variable {X : Cx} {K : Fg} {mg : Str → Option Value} {b : Bs} {L : List En} {E : XK} {e : Expr} {rest : List Stmt} {α β γ : Type} {pos p2 p3 p4 : Pos} {tl : Ends → Prop} {post : α → Ends → Prop}
theorem js_stuck : JS X K b L E rest tl (stuck : M α) post := ⟨fun _ _ _ _ _ _ h => h.elim⟩
/-- isinstance of a value whose type is known, a built-in class -/
def TyxOk (K : Fg) (α : Type) [Py α] (tn : String) : Prop := ∀ (H : Hp) (a : α) (v : V), Py.rep K H a v → TyX K H v (.type tn)
theorem tyx_bool : TyxOk K Bool "bool" := fun _ _ _ h => h ▸ .base (.bl _)
theorem tyx_int : TyxOk K Int "int" := fun _ _ _ h => h ▸ .base (.int _)
theorem tyx_str : TyxOk K Tx "str" := fun _ _ _ h => h ▸ .base (.str _)
theorem tyx_sql {H : Hp} {p : Addr} {vs : List V} (h : SqL K H p vs) : TyX K H (.ref p) (.type "list") := by
  rcases h with (h | ⟨o, h⟩) | ⟨o, its, n, h1, h2, _⟩
  · exact .base (.lst h)
  · exact .base (.frz h)
  · exact .kList h1 h2
theorem tyx_sqt {H : Hp} {p : Addr} {vs : List V} (h : SqT K H p vs) : TyX K H (.ref p) (.type "tuple") := by
  rcases h with (h | ⟨o, h⟩) | ⟨o, its, n, h1, h2, _⟩
  · exact .base (.tup h)
  · exact .fTuple h
  · exact .kTuple h1 h2
theorem tyx_L [Py α] : TyxOk K (List α) "list" := fun _ _ _ h => by
  obtain ⟨p, vs, rfl, h, _⟩ := h
  exact tyx_sql h
theorem tyx_U [Py α] : TyxOk K (Tup α) "tuple" := fun _ _ _ h => by
  obtain ⟨p, vs, rfl, h, _⟩ := h
  exact tyx_sqt h
theorem tyx_P [Py α] [Py β] : TyxOk K (α × β) "tuple" := fun _ _ _ h => by
  obtain ⟨p, _, _, rfl, h, _⟩ := h
  exact tyx_sqt h
theorem tyx_T3 [Py α] [Py β] [Py γ] : TyxOk K (T3 α β γ) "tuple" := fun _ _ _ h => by
  obtain ⟨p, _, _, _, rfl, h, _⟩ := h
  exact tyx_sqt h
theorem je_isiB [Py α] {m : M α} {tn T : String} {r : Bool} (ht : TyxOk K α tn) (hk : kitB tn T = some r) (hm : mg "isinstance" = none) (hm2 : mg (Str.ofString T) = none) (hv : bootBuiltins (Str.ofString T) = some (.type T)) (h : JE X K b L E e m)
    (hK : X.K = K := by rfl) (hM : X.mg = mg := by rfl) (hg : Gl X "isinstance" := by rfl) (hg2 : Gl X (Str.ofString T) := by rfl) (hn : Str.ofString T ≠ "__name__" := by decide) (hd : (Str.ofString T == ("__debug__" : Str)) = false := by decide)
    (he : starEach [e, .Name (Str.ofString T) p2] X.env = (false, eval e X.env) :: starEach [.Name (Str.ofString T) p2] X.env := by rfl) (he2 : starEach [.Name (Str.ofString T) p2] X.env = (false, eval (.Name (Str.ofString T) p2) X.env) :: starEach [] X.env := by rfl)
    (hpl : (backTo pos (starEach [.Name (Str.ofString T) p2] X.env)).any (·.1) = false := by rfl) : JE X K b L E (.Call (.Name "isinstance" p3) [e, .Name (Str.ofString T) p2] [] pos) (m >>= fun _ => (pure r : M Bool)) := by
  subst hK
  refine .of ⟨_, pe_callB call_isi hg (by rw [hM]; exact hm) bt_isinstance (pa_cons pe_wp (pa_cons (pe_bltn (v := .ty T) hg2 (by rw [hM]; exact hm2) hv rfl hn hd) pa_nil he2) he) (by decide) (by decide) he hpl, fun σ Hi H en Q hq => h.go σ Hi H en _ (hq.bind.imp fun a Hi1 H1 n1 q v rv => ?_)⟩
  exact ⟨v, .ty T, .type tn, .type T, r, rfl, .ty T, ht H1 a v (Py.mono n1.sub rv), kit_ty hk, q.here n1.sub _ rfl⟩
end
end G

set_option Elab.async false
set_option linter.all false
set_option maxRecDepth 100000
set_option maxHeartbeats 2000000
namespace G
open PySem L2 TL

/-! ### == of data -/
class PyE (α : Type) [Py α] [DecidableEq α] where
  dep : Nat
  inj : ∀ {X : Cx} {pins : List (Addr × Obj)} {σ : L2.St} {H : Hp} {s : Shared}, Inv X pins σ H s → ∀ {a b : α} {x : V}, Py.rep X.K H a x → Py.rep X.K H b x → a = b
  eq : ∀ {X : Cx} {pins : List (Addr × Obj)} {σ : L2.St} {H : Hp} {s : Shared}, Inv X pins σ H s → ∀ (A : Around) (a b : α) (x y : V) (v u : Value), A.units + dep < cLine → Py.rep X.K H a x → Py.rep X.K H b y → RelV x v → RelV y u → SeqAt.EqAt A s v u (decide (a = b))
  rc : ∀ {X : Cx} {pins : List (Addr × Obj)} {σ : L2.St} {H : Hp} {s : Shared}, Inv X pins σ H s → ∀ (A : Around) (a b : α) (x y : V) (v u : Value), A.units + dep < cLine → Py.rep X.K H a x → Py.rep X.K H b y → RelV x v → RelV y u → SeqAt.RcAt A s v u (decide (a = b))
  ne : ∀ {X : Cx} {pins : List (Addr × Obj)} {σ : L2.St} {H : Hp} {s : Shared}, Inv X pins σ H s → ∀ (A : Around) (a b : α) (x y : V) (v u : Value), A.units + dep < cLine → Py.rep X.K H a x → Py.rep X.K H b y → RelV x v → RelV y u → SeqAt.RcNeAt A s v u (!decide (a = b))
theorem dec_S' (a b : Tx) : (S a == S b) = decide (a = b) := by
  by_cases h : a = b
  · subst h; simp
  · rw [decide_eq_false h]
    exact beq_eq_false_iff_ne.mpr fun z => h (S_inj z)
instance : PyE Int where
  dep := 0
  inj := fun {X pins σ H s} _ {a b x} h1 h2 => V.int.inj (h1.symm.trans h2)
  eq := fun _ A a b x y v u _ r1 r2 q1 q2 => by
    have e1 : x = .int a := r1
    have e2 : y = .int b := r2
    subst e1 e2
    obtain ⟨t, rfl⟩ := q1
    obtain ⟨t', rfl⟩ := q2
    exact SeqAt.EqAt.int_int a t b t'
  rc := fun _ A a b x y v u _ r1 r2 q1 q2 => by
    have e1 : x = .int a := r1
    have e2 : y = .int b := r2
    subst e1 e2
    obtain ⟨t, rfl⟩ := q1
    obtain ⟨t', rfl⟩ := q2
    exact SeqAt.RcAt.int_int a t b t'
  ne := fun _ A a b x y v u _ r1 r2 q1 q2 => by
    have e1 : x = .int a := r1
    have e2 : y = .int b := r2
    subst e1 e2
    obtain ⟨t, rfl⟩ := q1
    obtain ⟨t', rfl⟩ := q2
    exact SeqAt.RcNeAt.int_int a t b t'
instance : PyE Bool where
  dep := 0
  inj := fun {X pins σ H s} _ {a b x} h1 h2 => V.bl.inj (h1.symm.trans h2)
  eq := fun _ A a b x y v u _ r1 r2 q1 q2 => by
    have e1 : x = .bl a := r1
    have e2 : y = .bl b := r2
    subst e1 e2
    cases q1
    cases q2
    have := SeqAt.EqAt.bool_bool (A := A) (s := by assumption) a b
    rw [Bool.beq_eq_decide_eq] at this
    exact this
  rc := fun _ A a b x y v u _ r1 r2 q1 q2 => by
    have e1 : x = .bl a := r1
    have e2 : y = .bl b := r2
    subst e1 e2
    cases q1
    cases q2
    have := SeqAt.RcAt.bool_bool (A := A) (s := by assumption) a b
    rw [Bool.beq_eq_decide_eq] at this
    exact this
  ne := fun _ A a b x y v u _ r1 r2 q1 q2 => by
    have e1 : x = .bl a := r1
    have e2 : y = .bl b := r2
    subst e1 e2
    cases q1
    cases q2
    have := SeqAt.RcNeAt.bool_bool (A := A) (s := by assumption) a b
    have e : (!(a == b)) = !decide (a = b) := by cases a <;> cases b <;> rfl
    rw [e] at this
    exact this
instance instPyETx : PyE Tx where
  dep := 0
  inj := fun {X pins σ H s} _ {a b x} h1 h2 => S_inj (V.str.inj (h1.symm.trans h2))
  eq := fun _ A a b x y v u _ r1 r2 q1 q2 => by
    have e1 : x = .str (S a) := r1
    have e2 : y = .str (S b) := r2
    subst e1 e2
    obtain ⟨t, rfl⟩ := q1
    obtain ⟨t', rfl⟩ := q2
    rw [← dec_S']
    exact SeqAt.EqAt.str_str _ t _ t'
  rc := fun _ A a b x y v u _ r1 r2 q1 q2 => by
    have e1 : x = .str (S a) := r1
    have e2 : y = .str (S b) := r2
    subst e1 e2
    obtain ⟨t, rfl⟩ := q1
    obtain ⟨t', rfl⟩ := q2
    rw [← dec_S']
    exact SeqAt.RcAt.str_str _ t _ t'
  ne := fun _ A a b x y v u _ r1 r2 q1 q2 => by
    have e1 : x = .str (S a) := r1
    have e2 : y = .str (S b) := r2
    subst e1 e2
    obtain ⟨t, rfl⟩ := q1
    obtain ⟨t', rfl⟩ := q2
    rw [← dec_S']
    exact SeqAt.RcNeAt.str_str _ t _ t'
section
variable {α β γ δ : Type} [Py α] [DecidableEq α] [PyE α] [Py β] [DecidableEq β] [PyE β] [Py γ] [DecidableEq γ] [PyE γ] [Py δ] [DecidableEq δ] [PyE δ] {X : Cx} {pins : List (Addr × Obj)} {σ : L2.St} {H : Hp} {s : Shared}
theorem rl_inj (I : Inv X pins σ H s) : ∀ {xs ys : List α} {vs : List V}, Rl X.K H xs vs → Rl X.K H ys vs → xs = ys
  | _, _, _, .nil, .nil => rfl
  | _, _, _, .cons r t, .cons r' t' => by rw [PyE.inj I r r', rl_inj I t t']
def eAt (xs ys : List α) (j : Nat) : Bool := match xs[j]?, ys[j]? with
  | some a, some b => decide (a = b)
  | _, _ => false
theorem items_eq (I : Inv X pins σ H s) (A : Around) (hu : A.units + PyE.dep (α := α) < cLine) : ∀ {xs ys : List α} {vs ws : List V} {us ts : List Value}, Rl X.K H xs vs → Rl X.K H ys ws → Vals vs us → Vals ws ts →
    ∀ j (h1 : j < us.length) (h2 : j < ts.length), SeqAt.EqAt A s us[j] ts[j] (eAt xs ys j)
  | _, _, _, _, _, _, .nil, _, .nil, _, j, h1, _ => absurd h1 (Nat.not_lt_zero _)
  | _, _, _, _, _, _, .cons _ _, .nil, .cons _ _, .nil, j, _, h2 => absurd h2 (Nat.not_lt_zero _)
  | _, _, _, _, _, _, .cons r t, .cons r' t', .cons q k, .cons q' k', 0, _, _ => PyE.eq I A _ _ _ _ _ _ hu r r' q q'
  | _, _, _, _, _, _, .cons r t, .cons r' t', .cons q k, .cons q' k', j + 1, h1, h2 => items_eq I A hu t t' k k' j (Nat.lt_of_succ_lt_succ h1) (Nat.lt_of_succ_lt_succ h2)
theorem all_range_succ (n : Nat) (e : Nat → Bool) : (List.range (n + 1)).all e = (e 0 && (List.range n).all fun j => e (j + 1)) := by
  rw [List.range_succ_eq_map, List.all_cons, List.all_map]
  rfl
theorem eAt_all : ∀ xs ys : List α, xs.length = ys.length → (List.range xs.length).all (eAt xs ys) = decide (xs = ys)
  | [], [], _ => by simp
  | [], _ :: _, h => nomatch h
  | _ :: _, [], h => nomatch h
  | x :: xs, y :: ys, h => by
    rw [List.length_cons, all_range_succ]
    have ih := eAt_all xs ys (by simpa using h)
    have e1 : (fun j => eAt (x :: xs) (y :: ys) (j + 1)) = eAt xs ys := funext fun j => rfl
    rw [e1, ih]
    show (decide (x = y) && decide (xs = ys)) = decide (x :: xs = y :: ys)
    by_cases h1 : x = y <;> by_cases h2 : xs = ys <;> simp [h1, h2]
theorem eAt_allT (xs ys : List α) : ((List.range (min xs.length ys.length)).all (eAt xs ys) && xs.length == ys.length) = decide (xs = ys) := by
  by_cases h : xs.length = ys.length
  · rw [h, Nat.min_self, ← h, eAt_all xs ys h]
    simp
  · have : xs ≠ ys := fun e => h (by rw [e])
    rw [decide_eq_false this, beq_eq_false_iff_ne.mpr h, Bool.and_false]
instance instPyEList : PyE (List α) where
  dep := PyE.dep (α := α) + 1
  inj := fun {X pins σ H s} I {a b x} h1 h2 => by
    obtain ⟨p, vs, rfl, g1, g2⟩ := h1
    obtain ⟨p', vs', e, k1, k2⟩ := h2
    cases e
    have := I.list_inj g1 k1
    subst this
    exact rl_inj I g2 k2
  eq := fun {X pins σ H s} I A a b x y v u hu h1 h2 q1 q2 => by
    obtain ⟨p, vs, rfl, g1, g2⟩ := h1
    obtain ⟨p', vs', rfl, k1, k2⟩ := h2
    cases q1
    cases q2
    by_cases hp : p = p'
    · subst hp
      have := I.list_inj g1 k1
      subst this
      have := rl_inj I g2 k2
      subst this
      rw [decide_eq_true rfl]
      exact SeqAt.EqAt.same _
    · obtain ⟨us, r1, pl1, _⟩ := I.list g1
      obtain ⟨ts, r2, pl2, _⟩ := I.list k1
      have l1 : us.toArray.size = a.length := by rw [List.size_toArray, ← r1.length, g2.length]
      have l2 : ts.toArray.size = b.length := by rw [List.size_toArray, ← r2.length, k2.length]
      by_cases hsz : a.length = b.length
      · have := SeqAt.RcAt.lists (A := A) (e := eAt a b) pl1.isList pl2.isList (by rw [l1, l2, hsz]) (by omega) (fun j j1 j2 => by
          have := items_eq I A.in1 (by show A.units + 1 + _ < cLine; omega) g2 k2 r1 r2 j (by simpa using j1) (by simpa using j2)
          simpa using this)
        rw [l1, eAt_all a b hsz] at this
        exact SeqAt.EqAt.of_refs hp this
      · rw [decide_eq_false (fun e => hsz (by rw [e]))]
        exact SeqAt.EqAt.of_refs hp (SeqAt.RcAt.lists_lengths pl1.isList pl2.isList (by rw [l1, l2]; simpa using hsz) (by omega))
  rc := fun {X pins σ H s} I A a b x y v u hu h1 h2 q1 q2 => by
    obtain ⟨p, vs, rfl, g1, g2⟩ := h1
    obtain ⟨p', vs', rfl, k1, k2⟩ := h2
    cases q1
    cases q2
    obtain ⟨us, r1, pl1, _⟩ := I.list g1
    obtain ⟨ts, r2, pl2, _⟩ := I.list k1
    have l1 : us.toArray.size = a.length := by rw [List.size_toArray, ← r1.length, g2.length]
    have l2 : ts.toArray.size = b.length := by rw [List.size_toArray, ← r2.length, k2.length]
    by_cases hsz : a.length = b.length
    · have := SeqAt.RcAt.lists (A := A) (e := eAt a b) pl1.isList pl2.isList (by rw [l1, l2, hsz]) (by omega) (fun j j1 j2 => by
        have := items_eq I A.in1 (by show A.units + 1 + _ < cLine; omega) g2 k2 r1 r2 j (by simpa using j1) (by simpa using j2)
        simpa using this)
      rw [l1, eAt_all a b hsz] at this
      exact this
    · rw [decide_eq_false (fun e => hsz (by rw [e]))]
      exact SeqAt.RcAt.lists_lengths pl1.isList pl2.isList (by rw [l1, l2]; simpa using hsz) (by omega)
  ne := fun {X pins σ H s} I A a b x y v u hu h1 h2 q1 q2 => by
    obtain ⟨p, vs, rfl, g1, g2⟩ := h1
    obtain ⟨p', vs', rfl, k1, k2⟩ := h2
    cases q1
    cases q2
    obtain ⟨us, r1, pl1, _⟩ := I.list g1
    obtain ⟨ts, r2, pl2, _⟩ := I.list k1
    have l1 : us.toArray.size = a.length := by rw [List.size_toArray, ← r1.length, g2.length]
    have l2 : ts.toArray.size = b.length := by rw [List.size_toArray, ← r2.length, k2.length]
    by_cases hsz : a.length = b.length
    · have := SeqAt.RcNeAt.lists (A := A) (e := eAt a b) pl1.isList pl2.isList (by rw [l1, l2, hsz]) (by omega) (fun j j1 j2 => by
        have := items_eq I A.in1 (by show A.units + 1 + _ < cLine; omega) g2 k2 r1 r2 j (by simpa using j1) (by simpa using j2)
        simpa using this)
      rw [l1, eAt_all a b hsz] at this
      exact this
    · rw [decide_eq_false (fun e => hsz (by rw [e]))]
      exact SeqAt.RcNeAt.lists_lengths pl1.isList pl2.isList (by rw [l1, l2]; simpa using hsz) (by omega)
theorem tu_rc (I : Inv X pins σ H s) {A : Around} {xs ys : List α} {p p' : Addr} {vs vs' : List V} (g1 : SqT X.K H p vs) (g2 : Rl X.K H xs vs) (k1 : SqT X.K H p' vs') (k2 : Rl X.K H ys vs') (hu : A.units + (PyE.dep (α := α) + 1) < cLine) : SeqAt.RcAt A s (.ref p) (.ref p') (decide (xs = ys)) := by
  obtain ⟨us, r1, pl1, _⟩ := I.tuple g1
  obtain ⟨ts, r2, pl2, _⟩ := I.tuple k1
  have l1 : us.toArray.size = xs.length := by rw [List.size_toArray, ← r1.length, g2.length]
  have l2 : ts.toArray.size = ys.length := by rw [List.size_toArray, ← r2.length, k2.length]
  have := SeqAt.RcAt.tuples (A := A) (e := eAt xs ys) (show s.heap.IsTuple p us.toArray from pl1) (show s.heap.IsTuple p' ts.toArray from pl2) (by omega) (fun j j1 j2 => by
      have := items_eq I A.in1 (by show A.units + 1 + _ < cLine; omega) g2 k2 r1 r2 j (by simpa using j1) (by simpa using j2)
      simpa using this)
  rw [l1, l2, eAt_allT] at this
  exact this
theorem tu_ne (I : Inv X pins σ H s) {A : Around} {xs ys : List α} {p p' : Addr} {vs vs' : List V} (g1 : SqT X.K H p vs) (g2 : Rl X.K H xs vs) (k1 : SqT X.K H p' vs') (k2 : Rl X.K H ys vs') (hu : A.units + (PyE.dep (α := α) + 1) < cLine) : SeqAt.RcNeAt A s (.ref p) (.ref p') (!decide (xs = ys)) := by
  obtain ⟨us, r1, pl1, _⟩ := I.tuple g1
  obtain ⟨ts, r2, pl2, _⟩ := I.tuple k1
  have l1 : us.toArray.size = xs.length := by rw [List.size_toArray, ← r1.length, g2.length]
  have l2 : ts.toArray.size = ys.length := by rw [List.size_toArray, ← r2.length, k2.length]
  have := SeqAt.RcNeAt.tuples (A := A) (e := eAt xs ys) (show s.heap.IsTuple p us.toArray from pl1) (show s.heap.IsTuple p' ts.toArray from pl2) (by omega) (fun j j1 j2 => by
      have := items_eq I A.in1 (by show A.units + 1 + _ < cLine; omega) g2 k2 r1 r2 j (by simpa using j1) (by simpa using j2)
      simpa using this)
  rw [l1, l2, eAt_allT] at this
  exact this
theorem tu_eq (I : Inv X pins σ H s) {A : Around} {xs ys : List α} {p p' : Addr} {vs vs' : List V} (g1 : SqT X.K H p vs) (g2 : Rl X.K H xs vs) (k1 : SqT X.K H p' vs') (k2 : Rl X.K H ys vs') (hu : A.units + (PyE.dep (α := α) + 1) < cLine) : SeqAt.EqAt A s (.ref p) (.ref p') (decide (xs = ys)) := by
  by_cases hp : p = p'
  · subst hp
    have := I.tuple_inj g1 k1
    subst this
    have := rl_inj I g2 k2
    subst this
    rw [decide_eq_true rfl]
    exact SeqAt.EqAt.same _
  · exact SeqAt.EqAt.of_refs hp (tu_rc I g1 g2 k1 k2 hu)
instance instDecTup {α : Type} [h : DecidableEq α] : DecidableEq (Tup α) := (inferInstance : DecidableEq (List α))
instance instPyETup : PyE (Tup α) where
  dep := PyE.dep (α := α) + 1
  inj := fun {X pins σ H s} I {a b x} h1 h2 => by
    obtain ⟨p, vs, rfl, g1, g2⟩ := h1
    obtain ⟨p', vs', e, k1, k2⟩ := h2
    cases e
    have := I.tuple_inj g1 k1
    subst this
    exact rl_inj I g2 k2
  eq := fun {X pins σ H s} I A a b x y v u hu h1 h2 q1 q2 => by
    obtain ⟨p, vs, rfl, g1, g2⟩ := h1
    obtain ⟨p', vs', rfl, k1, k2⟩ := h2
    cases q1
    cases q2
    exact tu_eq I g1 g2 k1 k2 hu
  rc := fun {X pins σ H s} I A a b x y v u hu h1 h2 q1 q2 => by
    obtain ⟨p, vs, rfl, g1, g2⟩ := h1
    obtain ⟨p', vs', rfl, k1, k2⟩ := h2
    cases q1
    cases q2
    exact tu_rc I g1 g2 k1 k2 hu
  ne := fun {X pins σ H s} I A a b x y v u hu h1 h2 q1 q2 => by
    obtain ⟨p, vs, rfl, g1, g2⟩ := h1
    obtain ⟨p', vs', rfl, k1, k2⟩ := h2
    cases q1
    cases q2
    exact tu_ne I g1 g2 k1 k2 hu
/-- tuples of a written number of items -/
def FixEq (X : Cx) (H : Hp) (s : Shared) (n d : Nat) (vs ws : List V) (e : Nat → Bool) : Prop :=
  vs.length = n ∧ ws.length = n ∧ ∀ (A : Around), A.units + d < cLine → ∀ us ts, Vals vs us → Vals ws ts → ∀ j (h1 : j < us.length) (h2 : j < ts.length), SeqAt.EqAt A s us[j] ts[j] (e j)
theorem fix_rc (I : Inv X pins σ H s) {n d : Nat} {vs ws : List V} {e : Nat → Bool} {p p' : Addr} {A : Around} (f : FixEq X H s n d vs ws e) (g1 : SqT X.K H p vs) (k1 : SqT X.K H p' ws) (hu : A.units + (d + 1) < cLine) : SeqAt.RcAt A s (.ref p) (.ref p') ((List.range n).all e) := by
  obtain ⟨us, r1, pl1, _⟩ := I.tuple g1
  obtain ⟨ts, r2, pl2, _⟩ := I.tuple k1
  have l1 : us.toArray.size = n := by rw [List.size_toArray, ← r1.length, f.1]
  have l2 : ts.toArray.size = n := by rw [List.size_toArray, ← r2.length, f.2.1]
  have := SeqAt.RcAt.tuples (A := A) (e := e) (show s.heap.IsTuple p us.toArray from pl1) (show s.heap.IsTuple p' ts.toArray from pl2) (by omega) (fun j j1 j2 => by
      have := f.2.2 A.in1 (by show A.units + 1 + _ < cLine; omega) us ts r1 r2 j (by simpa using j1) (by simpa using j2)
      simpa using this)
  rw [l1, l2, Nat.min_self, beq_self_eq_true, Bool.and_true] at this
  exact this
theorem fix_ne (I : Inv X pins σ H s) {n d : Nat} {vs ws : List V} {e : Nat → Bool} {p p' : Addr} {A : Around} (f : FixEq X H s n d vs ws e) (g1 : SqT X.K H p vs) (k1 : SqT X.K H p' ws) (hu : A.units + (d + 1) < cLine) : SeqAt.RcNeAt A s (.ref p) (.ref p') (!(List.range n).all e) := by
  obtain ⟨us, r1, pl1, _⟩ := I.tuple g1
  obtain ⟨ts, r2, pl2, _⟩ := I.tuple k1
  have l1 : us.toArray.size = n := by rw [List.size_toArray, ← r1.length, f.1]
  have l2 : ts.toArray.size = n := by rw [List.size_toArray, ← r2.length, f.2.1]
  have := SeqAt.RcNeAt.tuples (A := A) (e := e) (show s.heap.IsTuple p us.toArray from pl1) (show s.heap.IsTuple p' ts.toArray from pl2) (by omega) (fun j j1 j2 => by
      have := f.2.2 A.in1 (by show A.units + 1 + _ < cLine; omega) us ts r1 r2 j (by simpa using j1) (by simpa using j2)
      simpa using this)
  rw [l1, l2, Nat.min_self, beq_self_eq_true, Bool.and_true] at this
  exact this
theorem fix_nil : FixEq X H s 0 0 [] [] (fun _ => false) := ⟨rfl, rfl, fun _ _ us ts r1 _ j h1 _ => by cases r1; exact absurd h1 (Nat.not_lt_zero _)⟩
theorem fix_cons (I : Inv X pins σ H s) {n d : Nat} {vs ws : List V} {e : Nat → Bool} {a b : α} {x y : V} (r1 : Py.rep X.K H a x) (r2 : Py.rep X.K H b y) (f : FixEq X H s n d vs ws e) : FixEq X H s (n + 1) (max (PyE.dep (α := α)) d) (x :: vs) (y :: ws) (fun j => match j with
    | 0 => decide (a = b)
    | j + 1 => e j) := by
  refine ⟨by rw [List.length_cons, f.1], by rw [List.length_cons, f.2.1], fun A hu us ts q1 q2 j h1 h2 => ?_⟩
  cases q1 with
  | cons s1 t1 =>
    cases q2 with
    | cons s2 t2 =>
      cases j with
      | zero => exact PyE.eq I A _ _ _ _ _ _ (by omega) r1 r2 s1 s2
      | succ j => exact f.2.2 A (by omega) _ _ t1 t2 j (Nat.lt_of_succ_lt_succ h1) (Nat.lt_of_succ_lt_succ h2)
theorem fix2 (I : Inv X pins σ H s) {a a' : α} {b b' : β} {x y x' y' : V} (h1 : Py.rep X.K H a x) (h2 : Py.rep X.K H b y) (h1' : Py.rep X.K H a' x') (h2' : Py.rep X.K H b' y') :
    ∃ e, FixEq X H s 2 (max (PyE.dep (α := α)) (max (PyE.dep (α := β)) 0)) [x, y] [x', y'] e ∧ (List.range 2).all e = decide ((a, b) = (a', b')) := by
  refine ⟨_, fix_cons I h1 h1' (fix_cons I h2 h2' fix_nil), ?_⟩
  show (decide (a = a') && (decide (b = b') && true)) = _
  by_cases e1 : a = a' <;> by_cases e2 : b = b' <;> simp [e1, e2]
theorem fix3 (I : Inv X pins σ H s) {a a' : α} {b b' : β} {c c' : γ} {x y z x' y' z' : V} (h1 : Py.rep X.K H a x) (h2 : Py.rep X.K H b y) (h3 : Py.rep X.K H c z) (h1' : Py.rep X.K H a' x') (h2' : Py.rep X.K H b' y') (h3' : Py.rep X.K H c' z') :
    ∃ e, FixEq X H s 3 (max (PyE.dep (α := α)) (max (PyE.dep (α := β)) (max (PyE.dep (α := γ)) 0))) [x, y, z] [x', y', z'] e ∧ (List.range 3).all e = decide ((T3.mk a b c) = (T3.mk a' b' c')) := by
  refine ⟨_, fix_cons I h1 h1' (fix_cons I h2 h2' (fix_cons I h3 h3' fix_nil)), ?_⟩
  show (decide (a = a') && (decide (b = b') && (decide (c = c') && true))) = _
  by_cases e1 : a = a' <;> by_cases e2 : b = b' <;> by_cases e3 : c = c' <;> simp [e1, e2, e3]
theorem fix4 (I : Inv X pins σ H s) {a a' : α} {b b' : β} {c c' : γ} {d d' : δ} {x y z w x' y' z' w' : V} (h1 : Py.rep X.K H a x) (h2 : Py.rep X.K H b y) (h3 : Py.rep X.K H c z) (h4 : Py.rep X.K H d w) (h1' : Py.rep X.K H a' x') (h2' : Py.rep X.K H b' y') (h3' : Py.rep X.K H c' z') (h4' : Py.rep X.K H d' w') :
    ∃ e, FixEq X H s 4 (max (PyE.dep (α := α)) (max (PyE.dep (α := β)) (max (PyE.dep (α := γ)) (max (PyE.dep (α := δ)) 0)))) [x, y, z, w] [x', y', z', w'] e ∧ (List.range 4).all e = decide ((T4.mk a b c d) = (T4.mk a' b' c' d')) := by
  refine ⟨_, fix_cons I h1 h1' (fix_cons I h2 h2' (fix_cons I h3 h3' (fix_cons I h4 h4' fix_nil))), ?_⟩
  show (decide (a = a') && (decide (b = b') && (decide (c = c') && (decide (d = d') && true)))) = _
  by_cases e1 : a = a' <;> by_cases e2 : b = b' <;> by_cases e3 : c = c' <;> by_cases e4 : d = d' <;> simp [e1, e2, e3, e4]
instance instPyEProd : PyE (α × β) where
  dep := max (PyE.dep (α := α)) (max (PyE.dep (α := β)) 0) + 1
  inj := fun {X pins σ H s} I {a b x} h1 h2 => by
    obtain ⟨p, v1, v2, rfl, g1, g2, g3⟩ := h1
    obtain ⟨p', w1, w2, e, k1, k2, k3⟩ := h2
    cases e
    have := I.tuple_inj g1 k1
    cases this
    exact Prod.ext (PyE.inj I g2 k2) (PyE.inj I g3 k3)
  eq := fun {X pins σ H s} I A a b x y v u hu h1 h2 q1 q2 => by
    obtain ⟨p, v1, v2, rfl, g1, g2, g3⟩ := h1
    obtain ⟨p', w1, w2, rfl, k1, k2, k3⟩ := h2
    cases q1
    cases q2
    obtain ⟨e, f, hf⟩ := fix2 I g2 g3 k2 k3
    by_cases hp : p = p'
    · subst hp
      have := I.tuple_inj g1 k1
      cases this
      have : a = b := Prod.ext (PyE.inj I g2 k2) (PyE.inj I g3 k3)
      subst this
      rw [decide_eq_true rfl]
      exact SeqAt.EqAt.same _
    · exact SeqAt.EqAt.of_refs hp ((show SeqAt.RcAt A s (.ref p) (.ref p') (decide (a = b)) from hf ▸ fix_rc I f g1 k1 hu))
  rc := fun {X pins σ H s} I A a b x y v u hu h1 h2 q1 q2 => by
    obtain ⟨p, v1, v2, rfl, g1, g2, g3⟩ := h1
    obtain ⟨p', w1, w2, rfl, k1, k2, k3⟩ := h2
    cases q1
    cases q2
    obtain ⟨e, f, hf⟩ := fix2 I g2 g3 k2 k3
    exact (show SeqAt.RcAt A s (.ref p) (.ref p') (decide (a = b)) from hf ▸ fix_rc I f g1 k1 hu)
  ne := fun {X pins σ H s} I A a b x y v u hu h1 h2 q1 q2 => by
    obtain ⟨p, v1, v2, rfl, g1, g2, g3⟩ := h1
    obtain ⟨p', w1, w2, rfl, k1, k2, k3⟩ := h2
    cases q1
    cases q2
    obtain ⟨e, f, hf⟩ := fix2 I g2 g3 k2 k3
    exact (show SeqAt.RcNeAt A s (.ref p) (.ref p') (!decide (a = b)) from hf ▸ fix_ne I f g1 k1 hu)
theorem T3.ext' {a b : T3 α β γ} (h1 : a.a = b.a) (h2 : a.b = b.b) (h3 : a.c = b.c) : a = b := by cases a; cases b; cases h1; cases h2; cases h3; rfl
theorem T4.ext' {a b : T4 α β γ δ} (h1 : a.a = b.a) (h2 : a.b = b.b) (h3 : a.c = b.c) (h4 : a.d = b.d) : a = b := by cases a; cases b; cases h1; cases h2; cases h3; cases h4; rfl
instance instPyET3 : PyE (T3 α β γ) where
  dep := max (PyE.dep (α := α)) (max (PyE.dep (α := β)) (max (PyE.dep (α := γ)) 0)) + 1
  inj := fun {X pins σ H s} I {a b x} h1 h2 => by
    obtain ⟨p, v1, v2, v3, rfl, g1, g2, g3, g4⟩ := h1
    obtain ⟨p', w1, w2, w3, e, k1, k2, k3, k4⟩ := h2
    cases e
    have := I.tuple_inj g1 k1
    cases this
    exact T3.ext' (PyE.inj I g2 k2) (PyE.inj I g3 k3) (PyE.inj I g4 k4)
  eq := fun {X pins σ H s} I A a b x y v u hu h1 h2 q1 q2 => by
    obtain ⟨p, v1, v2, v3, rfl, g1, g2, g3, g4⟩ := h1
    obtain ⟨p', w1, w2, w3, rfl, k1, k2, k3, k4⟩ := h2
    cases q1
    cases q2
    obtain ⟨e, f, hf⟩ := fix3 I g2 g3 g4 k2 k3 k4
    by_cases hp : p = p'
    · subst hp
      have := I.tuple_inj g1 k1
      cases this
      have : a = b := T3.ext' (PyE.inj I g2 k2) (PyE.inj I g3 k3) (PyE.inj I g4 k4)
      subst this
      rw [decide_eq_true rfl]
      exact SeqAt.EqAt.same _
    · exact SeqAt.EqAt.of_refs hp ((show SeqAt.RcAt A s (.ref p) (.ref p') (decide (a = b)) from hf ▸ fix_rc I f g1 k1 hu))
  rc := fun {X pins σ H s} I A a b x y v u hu h1 h2 q1 q2 => by
    obtain ⟨p, v1, v2, v3, rfl, g1, g2, g3, g4⟩ := h1
    obtain ⟨p', w1, w2, w3, rfl, k1, k2, k3, k4⟩ := h2
    cases q1
    cases q2
    obtain ⟨e, f, hf⟩ := fix3 I g2 g3 g4 k2 k3 k4
    exact (show SeqAt.RcAt A s (.ref p) (.ref p') (decide (a = b)) from hf ▸ fix_rc I f g1 k1 hu)
  ne := fun {X pins σ H s} I A a b x y v u hu h1 h2 q1 q2 => by
    obtain ⟨p, v1, v2, v3, rfl, g1, g2, g3, g4⟩ := h1
    obtain ⟨p', w1, w2, w3, rfl, k1, k2, k3, k4⟩ := h2
    cases q1
    cases q2
    obtain ⟨e, f, hf⟩ := fix3 I g2 g3 g4 k2 k3 k4
    exact (show SeqAt.RcNeAt A s (.ref p) (.ref p') (!decide (a = b)) from hf ▸ fix_ne I f g1 k1 hu)
instance instPyET4 : PyE (T4 α β γ δ) where
  dep := max (PyE.dep (α := α)) (max (PyE.dep (α := β)) (max (PyE.dep (α := γ)) (max (PyE.dep (α := δ)) 0))) + 1
  inj := fun {X pins σ H s} I {a b x} h1 h2 => by
    obtain ⟨p, v1, v2, v3, v4, rfl, g1, g2, g3, g4, g5⟩ := h1
    obtain ⟨p', w1, w2, w3, w4, e, k1, k2, k3, k4, k5⟩ := h2
    cases e
    have := I.tuple_inj g1 k1
    cases this
    exact T4.ext' (PyE.inj I g2 k2) (PyE.inj I g3 k3) (PyE.inj I g4 k4) (PyE.inj I g5 k5)
  eq := fun {X pins σ H s} I A a b x y v u hu h1 h2 q1 q2 => by
    obtain ⟨p, v1, v2, v3, v4, rfl, g1, g2, g3, g4, g5⟩ := h1
    obtain ⟨p', w1, w2, w3, w4, rfl, k1, k2, k3, k4, k5⟩ := h2
    cases q1
    cases q2
    obtain ⟨e, f, hf⟩ := fix4 I g2 g3 g4 g5 k2 k3 k4 k5
    by_cases hp : p = p'
    · subst hp
      have := I.tuple_inj g1 k1
      cases this
      have : a = b := T4.ext' (PyE.inj I g2 k2) (PyE.inj I g3 k3) (PyE.inj I g4 k4) (PyE.inj I g5 k5)
      subst this
      rw [decide_eq_true rfl]
      exact SeqAt.EqAt.same _
    · exact SeqAt.EqAt.of_refs hp ((show SeqAt.RcAt A s (.ref p) (.ref p') (decide (a = b)) from hf ▸ fix_rc I f g1 k1 hu))
  rc := fun {X pins σ H s} I A a b x y v u hu h1 h2 q1 q2 => by
    obtain ⟨p, v1, v2, v3, v4, rfl, g1, g2, g3, g4, g5⟩ := h1
    obtain ⟨p', w1, w2, w3, w4, rfl, k1, k2, k3, k4, k5⟩ := h2
    cases q1
    cases q2
    obtain ⟨e, f, hf⟩ := fix4 I g2 g3 g4 g5 k2 k3 k4 k5
    exact (show SeqAt.RcAt A s (.ref p) (.ref p') (decide (a = b)) from hf ▸ fix_rc I f g1 k1 hu)
  ne := fun {X pins σ H s} I A a b x y v u hu h1 h2 q1 q2 => by
    obtain ⟨p, v1, v2, v3, v4, rfl, g1, g2, g3, g4, g5⟩ := h1
    obtain ⟨p', w1, w2, w3, w4, rfl, k1, k2, k3, k4, k5⟩ := h2
    cases q1
    cases q2
    obtain ⟨e, f, hf⟩ := fix4 I g2 g3 g4 g5 k2 k3 k4 k5
    exact (show SeqAt.RcNeAt A s (.ref p) (.ref p') (!decide (a = b)) from hf ▸ fix_ne I f g1 k1 hu)
/-- the operators -/
def rEqA (α : Type) [Py α] [DecidableEq α] (K : Fg) : R2 := fun x y H Q => ∃ a b : α, Py.rep K H a x ∧ Py.rep K H b y ∧ Q (.bl (decide (a = b))) H
def rNeA (α : Type) [Py α] [DecidableEq α] (K : Fg) : R2 := fun x y H Q => ∃ a b : α, Py.rep K H a x ∧ Py.rep K H b y ∧ Q (.bl (!decide (a = b))) H
theorem op_eqA (hu : X.A.units + 64 < cLine) (hd : PyE.dep (α := α) ≤ 60 := by decide) : OpR X (compareOp .Eq) (rEqA α X.K) := by
  intro pins s σ H x y v u Q I rx ry h
  obtain ⟨a, b, r1, r2, q⟩ := h
  exact PyE.rc I X.A a b x y v u (by omega) r1 r2 rx ry X.prog X.w _ _ ⟨.bl _, H, I, rfl, q⟩
theorem op_neA (hu : X.A.units + 64 < cLine) (hd : PyE.dep (α := α) ≤ 60 := by decide) : OpR X (compareOp .NotEq) (rNeA α X.K) := by
  intro pins s σ H x y v u Q I rx ry h
  obtain ⟨a, b, r1, r2, q⟩ := h
  exact PyE.ne I X.A a b x y v u (by omega) r1 r2 rx ry X.prog X.w _ _ ⟨.bl _, H, I, rfl, q⟩
theorem ro_eqA {K : Fg} {E : XK} : RO K E (rEqA α K) (fun a b : α => (pure (decide (a = b)) : M Bool)) := by
  rintro a b v w Hi H Q s r1 r2 h
  exact ⟨a, b, Py.mono s r1, Py.mono s r2, h.here s _ rfl⟩
theorem ro_neA {K : Fg} {E : XK} : RO K E (rNeA α K) (fun a b : α => (pure (!decide (a = b)) : M Bool)) := by
  rintro a b v w Hi H Q s r1 r2 h
  exact ⟨a, b, Py.mono s r1, Py.mono s r2, h.here s _ rfl⟩
end
end G

set_option Elab.async false
set_option linter.all false
set_option maxRecDepth 100000
set_option maxHeartbeats 2000000
namespace G
open PySem L2 TL
/-! list + list, whoever holds them -/
def rCatQ (K : Fg) : R2 := fun x y H Q => ∃ a b xs ys, x = .ref a ∧ y = .ref b ∧ SqL K H a xs ∧ SqL K H b ys ∧ xs.length + ys.length ≤ sizeLine ∧ ∀ p, H p = none → Q (.ref p) (upd H p (.lst (xs ++ ys)))
theorem op_catQ {X : Cx} {K : Fg} (hK : X.K = K := by rfl) : OpR X (binaryOp .Add) (rCatQ K) := by
  subst hK
  intro pins s σ H x y v u Q I rx ry h
  obtain ⟨a, b, xs, ys, rfl, rfl, hx, hy, hz, q⟩ := h
  cases rx
  cases ry
  obtain ⟨its, r, pl, _⟩ := I.list hx
  obtain ⟨its2, r2, pl2, _⟩ := I.list hy
  obtain ⟨⟨cls, dd, data, sl⟩, ho, hc, n, hd⟩ := pl.isList
  obtain ⟨⟨cls2, dd2, data2, sl2⟩, ho2, hc2, n2, hd2⟩ := pl2.isList
  simp only at hc hd hc2 hd2
  subst hc hd hc2 hd2
  refine PySem.concat_meets ⟨_, ho, rfl⟩ ⟨_, ho2, rfl⟩ noFill_list_add seq_list_add PySem.F.slot_list_add PySem.F.entry_list_add (PySem.F.args_list_add_2 _ _) (PyProof.Rows.list_addW a b its.toArray its2.toArray n n2 dd dd2 sl sl2 (by rw [List.size_toArray, List.size_toArray, ← r.length, ← r2.length]; exact hz)) ⟨ho, ho2, ?_⟩
  have ea : its.toArray ++ its2.toArray = (its ++ its2).toArray := by simp
  rw [ea]
  exact ⟨.ref _, _, I.lnew (t' := s.toks) (r.append r2) (by rw [List.length_append]; exact hz), rfl, q _ I.fresh⟩
def catM {α : Type} (xs ys : List α) : M (List α) := chk (xs.length + ys.length ≤ SZ) >>= fun _ => pure (xs ++ ys)
section
variable {X : Cx} {K : Fg} {mg : Str → Option Value} {b : Bs} {L L' : List En} {E : XK} {e e1 e2 : Expr} {st : Stmt} {rest body a bb : List Stmt} {α β γ S R : Type} {pos p' p2 p3 : Pos} {tl : Ends → Prop} {post : α → Ends → Prop}
theorem ro_catL [Py α] : RO K E (rCatQ K) (fun xs ys : List α => catM xs ys) := by
  rintro xs ys v w Hi H Q s ⟨p, vs, rfl, h1, h2⟩ ⟨q, ws, rfl, g1, g2⟩ h
  obtain ⟨c, h⟩ := PX.chk h
  refine ⟨p, q, vs, ws, rfl, rfl, Same.seq s h1, Same.seq s g1, by rw [← h2.length, ← g2.length]; exact c, fun r hr => h.go (Nx.new s hr) _ ⟨r, _, rfl, .of upd_same, ?_⟩⟩
  exact (h2.app g2).mono (same_new (hi_none s hr))
theorem jf_cat [Py α] {m1 m2 : M (List α)} (h1 : JE X K b L E e1 m1) (h2 : JE X K b L E e2 m2) (hK : X.K = K := by rfl) : JF X K b L E (.BinOp e1 .Add e2 pos) (ctL K) (m1 >>= fun x => m2 >>= fun y => catM x y) :=
  ⟨fun σ Hi H en Q hq => PE.wp (pe_op (op_catQ hK) pe_wp pe_wp) (h1.go σ Hi H en _ (PX.bind hq |>.imp fun xs Hi1 H1 n1 k v rv => h2.go σ Hi1 H1 (en.nx n1) _ (PX.bind k |>.imp fun ys Hi2 H2 n2 k2 w rw => by
    obtain ⟨p, vs, rfl, h1, h2⟩ := Py.mono n2.im rv
    obtain ⟨q, ws, rfl, g1, g2⟩ := rw
    obtain ⟨c, k2⟩ := PX.chk k2
    refine ⟨p, q, vs, ws, rfl, rfl, Same.seq n2.sub h1, Same.seq n2.sub g1, by rw [← h2.length, ← g2.length]; exact c, fun r hr => ?_⟩
    have nr : H r = none := by
      cases z : H r with
      | none => rfl
      | some u => rw [(n1.al.trans n2.al) r u z] at hr; cases hr
    exact (PX.go (a := xs ++ ys) k2 (Nx.temp n2.sub hr)) r _ upd_same nr (hi_none n2.sub hr) ⟨_, rfl, h2.app g2⟩)))⟩
/-- tuple(list) -/
theorem ra_tupL [Py α] (hK : X.K = K := by rfl) : RA1 K E (fun xs H Q => ∃ p ys, xs = [.ref p] ∧ ((SqL X.K H p ys ∧ ∀ l, H l = none → Q (.ref l) (upd H l (.tup ys))) ∨ (SqT X.K H p ys ∧ Q (.ref p) H))) (fun xs : List α => (pure xs : M (Tup α))) := by
  subst hK
  rintro xs v Hi H Q s ⟨p, vs, rfl, h1, h2⟩ h
  exact ⟨p, vs, rfl, .inl ⟨Same.seq s h1, fun r hr => PX.go (α := Tup α) (a := xs) h (Nx.new s hr) _ ⟨r, _, rfl, .of upd_same, h2.mono (same_new (hi_none s hr))⟩⟩⟩
/-- list(xs), a value -/
theorem ra_lstL [Py α] (hK : X.K = K := by rfl) : RA1 K E (fun xs H Q => ∃ p ys, xs = [.ref p] ∧ (SqL X.K H p ys ∨ SqT X.K H p ys) ∧ ∀ l, H l = none → Q (.ref l) (upd H l (.lst ys))) (fun xs : List α => (pure xs : M (List α))) := by
  subst hK
  rintro xs v Hi H Q s ⟨p, vs, rfl, h1, h2⟩ h
  exact ⟨p, vs, rfl, .inl (Same.seq s h1), fun r hr => PX.go (a := xs) h (Nx.new s hr) _ ⟨r, _, rfl, .of upd_same, h2.mono (same_new (hi_none s hr))⟩⟩
theorem ra_lstU [Py α] (hK : X.K = K := by rfl) : RA1 K E (fun xs H Q => ∃ p ys, xs = [.ref p] ∧ (SqL X.K H p ys ∨ SqT X.K H p ys) ∧ ∀ l, H l = none → Q (.ref l) (upd H l (.lst ys))) (fun xs : Tup α => (pure xs : M (List α))) := by
  subst hK
  rintro xs v Hi H Q s ⟨p, vs, rfl, h1, h2⟩ h
  exact ⟨p, vs, rfl, .inr (sqt_mono s h1), fun r hr => PX.go (α := List α) (a := xs) h (Nx.new s hr) _ ⟨r, _, rfl, .of upd_same, h2.mono (same_new (hi_none s hr))⟩⟩
theorem ra_lenP [Py α] [Py β] : RA1 K E (fun xs H Q => ∃ p ys, xs = [.ref p] ∧ (SqL K H p ys ∨ SqT K H p ys) ∧ Q (.int ys.length) H) (fun _ : α × β => (pure 2 : M Int)) := by
  rintro xs v Hi H Q s ⟨p, v1, v2, rfl, h1, h2⟩ h
  exact ⟨p, _, rfl, .inr (sqt_mono s h1), h.here s _ rfl⟩
theorem ra_lenT3 [Py α] [Py β] [Py γ] : RA1 K E (fun xs H Q => ∃ p ys, xs = [.ref p] ∧ (SqL K H p ys ∨ SqT K H p ys) ∧ Q (.int ys.length) H) (fun _ : T3 α β γ => (pure 3 : M Int)) := by
  rintro xs v Hi H Q s ⟨p, v1, v2, v3, rfl, h1, h2⟩ h
  exact ⟨p, _, rfl, .inr (sqt_mono s h1), h.here s _ rfl⟩
/-- a value, or nothing -/
theorem je_some [Py α] {m : M α} (h : JE X K b L E e m) : JE X K b L E e (m >>= fun x => (pure (some x) : M (Option α))) :=
  ⟨fun σ Hi H en Q hq => h.go σ Hi H en Q ((PX.bind hq).imp fun x Hi1 H1 n1 k v rv => PX.here (a := some x) k n1.sub v rv)⟩
/-- list(xs), held -/
theorem jf_list [Py α] {m : M (List α)} (hm : mg "list" = none) (h : JE X K b L E e m) (hK : X.K = K := by rfl) (hM : X.mg = mg := by rfl)
    (hg : Gl X "list" := by rfl) (he : starEach [e] X.env = (false, eval e X.env) :: starEach [] X.env := by rfl) (hpl : (backTo pos (starEach [] X.env)).any (·.1) = false := by rfl) : JF X K b L E (.Call (.Name "list" p2) [e] [] pos) (ctL K) (m >>= fun xs => (pure xs : M (List α))) := by
  subst hK
  exact ⟨fun σ Hi H en Q hq => PE.wp (pe_callTy call_list_of hg (by rw [hM]; exact hm) bt_list (pa_cons pe_wp pa_nil he) (by decide) (by decide) he hpl) (h.go σ Hi H en _ ((PX.bind hq).imp fun xs Hi1 H1 n1 k v rv => by
    obtain ⟨p, vs, rfl, h1, h2⟩ := rv
    refine ⟨p, vs, rfl, .inl (Same.seq n1.sub h1), fun r hr => ?_⟩
    have nr : H r = none := by
      cases z : H r with
      | none => rfl
      | some u => rw [n1.al r u z] at hr; cases hr
    exact (PX.go (a := xs) k (Nx.temp n1.sub hr)) r _ upd_same nr (hi_none n1.sub hr) ⟨_, rfl, h2⟩))⟩
end
end G

set_option Elab.async false
set_option linter.all false
set_option maxRecDepth 100000
set_option maxHeartbeats 2000000
namespace G
open PySem L2 TL
/-! ### plain lemmas about the mirrors -/
theorem okb {α β : Type} {a : α} {f : α → M β} : ((Except.ok a : M α) >>= f) = f a := rfl
theorem chk_t {p : Prop} [Decidable p] (h : p) : chk p = pure () := by unfold chk; rw [if_pos h]
theorem chk_b {p : Prop} [Decidable p] {α : Type} {f : Unit → M α} (h : p) : (chk p >>= f) = f () := by rw [chk_t h]; rfl
theorem modI_ok {i j : Int} (h : 0 < j) : modI i j = pure (i % j) := by unfold modI; rw [chk_t h]; rfl
theorem divI_ok {i j : Int} (h : 0 < j) (h2 : j < 1073741824) : divI i j = pure (i / j) := by unfold divI; rw [chk_t ⟨h, h2⟩]; rfl
theorem mulI_l {i j : Int} (h : -(2 ^ 64) < i) (h2 : i < 2 ^ 64) : mulI i j = pure (i * j) := by unfold mulI; rw [chk_t (.inl ⟨h, h2⟩)]; rfl
theorem mulI_r {i j : Int} (h : -(2 ^ 64) < j) (h2 : j < 2 ^ 64) : mulI i j = pure (i * j) := by unfold mulI; rw [chk_t (.inr ⟨h, h2⟩)]; rfl
theorem addT_ok {a c : Tx} (h : a.length + c.length ≤ SZ) : addT a c = pure (a ++ c) := by unfold addT; rw [chk_t h]; rfl
theorem lenT_ok {a : Tx} (h : a.length ≤ SZ) : lenT a = pure (a.length : Int) := by unfold lenT; rw [chk_t h]; rfl
theorem inS_one {c : Nat} {t : Tx} : inS [c] t = pure (decide (c ∈ t)) := rfl
theorem ixN_nat {n : Nat} {i : Int} (h0 : 0 ≤ i) (h : i < n) : ixN n i = some i.toNat := by unfold ixN; rw [if_pos h0, if_pos h]
theorem atI_some {α : Type} {xs : List α} {i : Int} (h0 : 0 ≤ i) (h : i < xs.length) : ∃ a, atI xs i = some a ∧ xs[i.toNat]? = some a := by
  unfold atI
  rw [ixN_nat h0 h]
  have hl : i.toNat < xs.length := by omega
  exact ⟨xs[i.toNat], List.getElem?_eq_getElem hl, List.getElem?_eq_getElem hl⟩
theorem atL_ok {α : Type} {xs : List α} {i : Int} (h0 : 0 ≤ i) (h : i < xs.length) : ∃ a, atL xs i = pure a ∧ a ∈ xs := by
  obtain ⟨a, e, e2⟩ := atI_some h0 h
  exact ⟨a, by unfold atL; rw [e]; rfl, List.mem_of_getElem? e2⟩
theorem atT_ok {x : Tx} {i : Int} (h0 : 0 ≤ i) (h : i < x.length) (hz : x.length ≤ SZ) : ∃ c, atT x i = pure [c] ∧ x[i.toNat]? = some c := by
  obtain ⟨a, e, e2⟩ := atI_some h0 h
  exact ⟨a, by unfold atT; rw [chk_t hz, e]; rfl, e2⟩
/-- it comes to an end that is so -/
def Okp {α : Type} (m : M α) (P : α → Prop) : Prop := ∃ a, m = .ok a ∧ P a
section
variable {α β : Type} {m : M α} {f : α → M β} {P : α → Prop} {Q : β → Prop}
theorem Okp.bind (h : Okp m P) (k : ∀ a, P a → Okp (f a) Q) : Okp (m >>= f) Q := by
  obtain ⟨a, rfl, p⟩ := h
  exact k a p
theorem Okp.pure {a : α} (h : P a) : Okp (pure a) P := ⟨a, rfl, h⟩
theorem Okp.chk {p : Prop} [Decidable p] {g : Unit → M β} (h : p) (k : Okp (g ()) Q) : Okp (chk p >>= g) Q := by rw [chk_b h]; exact k
theorem Okp.imp {P' : α → Prop} (h : Okp m P) (k : ∀ a, P a → P' a) : Okp m P' := let ⟨a, e, p⟩ := h; ⟨a, e, k a p⟩
theorem mapE_ok {f : α → M β} : ∀ {xs : List α}, (∀ x ∈ xs, Okp (f x) Q) → Okp (mapE f xs) fun ys => ys.length = xs.length ∧ ∀ y ∈ ys, Q y
  | [], _ => ⟨[], rfl, rfl, fun y h => nomatch h⟩
  | x :: xs, h => by
    obtain ⟨y, e, q⟩ := h x (List.mem_cons_self ..)
    obtain ⟨ys, e2, l, q2⟩ := mapE_ok (xs := xs) fun z hz => h z (List.mem_cons_of_mem _ hz)
    refine ⟨y :: ys, by unfold mapE; rw [e, e2]; rfl, by rw [List.length_cons, List.length_cons, l], fun z hz => ?_⟩
    rcases List.mem_cons.mp hz with e | hz
    · rw [e]; exact q
    · exact q2 z hz
theorem lc_ok {f : α → M β} {xs : List α} (hl : xs.length ≤ SZ) (h : ∀ x ∈ xs, Okp (f x) Q) : Okp (lc f xs) fun ys => ys.length = xs.length ∧ ∀ y ∈ ys, Q y := by
  obtain ⟨ys, e, q⟩ := mapE_ok h
  exact ⟨ys, by unfold lc; rw [chk_b hl, e]; rfl, q⟩
/-- .. with its value -/
theorem mapE_map {f : α → M β} {g : α → β} : ∀ {xs : List α}, (∀ x ∈ xs, f x = .ok (g x)) → mapE f xs = .ok (xs.map g)
  | [], _ => rfl
  | x :: xs, h => by
    unfold mapE
    rw [h x (List.mem_cons_self ..), mapE_map (g := g) fun z hz => h z (List.mem_cons_of_mem _ hz)]
    rfl
theorem lc_map {f : α → M β} {g : α → β} {xs : List α} (hl : xs.length ≤ SZ) (h : ∀ x ∈ xs, f x = .ok (g x)) : lc f xs = .ok (xs.map g) := by
  unfold lc
  rw [chk_b hl, mapE_map h]
  rfl
theorem filE_fil {t : α → M Bool} {p : α → Bool} {f : α → M β} {g : α → β} : ∀ {xs : List α}, (∀ x ∈ xs, t x = .ok (p x)) → (∀ x ∈ xs, p x = true → f x = .ok (g x)) → filE t f xs = .ok ((xs.filter p).map g)
  | [], _, _ => rfl
  | x :: xs, h, h2 => by
    have ih := filE_fil (xs := xs) (t := t) (p := p) (f := f) (g := g) (fun z hz => h z (List.mem_cons_of_mem _ hz)) (fun z hz => h2 z (List.mem_cons_of_mem _ hz))
    unfold filE
    rw [h x (List.mem_cons_self ..), ih]
    show (if p x = true then _ else _) = _
    cases hp : p x with
    | true =>
      rw [if_pos rfl, h2 x (List.mem_cons_self ..) hp, List.filter_cons_of_pos hp]
      rfl
    | false =>
      rw [if_neg Bool.false_ne_true, List.filter_cons_of_neg (by rw [hp]; exact Bool.false_ne_true)]
theorem lf_fil {t : α → M Bool} {p : α → Bool} {f : α → M β} {g : α → β} {xs : List α} (hl : xs.length ≤ SZ) (h : ∀ x ∈ xs, t x = .ok (p x)) (h2 : ∀ x ∈ xs, p x = true → f x = .ok (g x)) : lf t f xs = .ok ((xs.filter p).map g) := by
  unfold lf
  rw [chk_b hl, filE_fil h h2]
  rfl
/-- a search: the first item that answers -/
theorem forT_search {R : Type} {f : Unit → α → M (Tl Unit R)} {p : α → Bool} {r : R} : ∀ {xs : List α}, (∀ x ∈ xs, f () x = .ok (if p x = true then .rt r else .ct ())) → forT f () xs = .ok (if xs.any p = true then .inr r else .inl ())
  | [], _ => rfl
  | x :: xs, h => by
    unfold forT
    rw [h x (List.mem_cons_self ..), List.any_cons]
    cases hp : p x with
    | true => rfl
    | false =>
      show forT f () xs = _
      rw [forT_search (p := p) (r := r) fun z hz => h z (List.mem_cons_of_mem _ hz)]
      rfl
end
theorem SZ_val : SZ = 16777216 := sizeLine_eq
theorem joinL_len : ∀ (s : Tx) (xs : List Tx), (joinL s xs).length ≤ (xs.map (·.length)).sum + xs.length * s.length
  | s, [] => by simp [joinL]
  | s, [x] => by simp [joinL]
  | s, x :: y :: r => by
    have ih := joinL_len s (y :: r)
    have e : joinL s (x :: y :: r) = x ++ (s ++ joinL s (y :: r)) := rfl
    rw [e, List.length_append, List.length_append, List.map_cons, List.sum_cons]
    have : (x :: y :: r).length * s.length = s.length + (y :: r).length * s.length := by
      rw [List.length_cons, Nat.add_mul]; omega
    omega
theorem sum_le {k : Nat} : ∀ {xs : List Tx}, (∀ x ∈ xs, x.length ≤ k) → (xs.map (·.length)).sum ≤ xs.length * k
  | [], _ => by simp
  | x :: xs, h => by
    have ih := sum_le (k := k) (xs := xs) fun z hz => h z (List.mem_cons_of_mem _ hz)
    have h1 := h x (List.mem_cons_self ..)
    rw [List.map_cons, List.sum_cons, List.length_cons, Nat.add_mul]
    omega
theorem joinM_ok {s : Tx} {xs : List Tx} (h : (xs.map (·.length)).sum + xs.length * s.length ≤ 16777216) : joinM s xs = .ok (joinL s xs) := by unfold joinM; rw [chk_b h]; rfl
theorem cut_len {α : Type} (xs : List α) (lo hi : Option Int) : (cut xs lo hi).length ≤ xs.length := by
  unfold cut
  rw [List.length_take, List.length_drop]; omega
theorem rangeL_len (lo : Int) (n : Nat) : (rangeL lo n).length = n := by unfold rangeL; rw [List.length_map, List.length_range]
theorem range1_ok {n : Int} (h : -(2 ^ 62) ≤ n) (h2 : n < 2 ^ 62) : range1 n = .ok (rangeL 0 n.toNat) := by unfold range1; rw [chk_b ⟨h, h2⟩]; rfl
theorem mem_rangeL {lo : Int} {n : Nat} {x : Int} (h : x ∈ rangeL lo n) : lo ≤ x ∧ x < lo + n := by
  unfold rangeL at h
  obtain ⟨i, hi, rfl⟩ := List.mem_map.mp h
  have := List.mem_range.mp hi
  omega
end G

set_option Elab.async false
set_option linter.all false
set_option maxRecDepth 100000
set_option maxHeartbeats 4000000
namespace Q
open PySem L2 G
def top (i : Nat) : Stmt := PySem.Challenge.pw_poolrules_k02_a_fact_written_and_read.main.body.getD i (.Pass ⟨0, 0, 0, 0⟩)
/-! the mirrors -/
def m_is_name (p0 : Tx) : M Bool :=
  ((((pure (1 : Int) : M Int) >>= fun x2 => ((pure p0 : M Tx) >>= fun x1 => lenT x1) >>= fun y3 => (pure (decide (x2 ≤ y3)) : M Bool) >>= fun c5 => if c5 = true then (pure (12 : Int) : M Int) >>= fun z4 => (pure (decide (y3 ≤ z4)) : M Bool) else pure false) >>= fun c6 => pure (!c6)) >>= fun c7 => if c7 = true then (pure false : M Bool) else
  (((pure p0 : M Tx) >>= fun x8 => pure (signs x8)) >>= fun l11 => forT (fun (s9 : Unit) (e10 : Tx) => ((((pure e10 : M Tx) >>= fun x15 => (pure (tx "abcdefghijklmnopqrstuvwxyz") : M Tx) >>= fun y16 => (inS x15 y16 >>= fun c17 => pure (!c17))) >>= fun c25 => if c25 = true then (((pure e10 : M Tx) >>= fun x18 => (pure (tx "ABCDEFGHIJKLMNOPQRSTUVWXYZ") : M Tx) >>= fun y19 => (inS x18 y19 >>= fun c20 => pure (!c20))) >>= fun c24 => if c24 = true then ((pure e10 : M Tx) >>= fun x21 => (pure (tx "0123456789") : M Tx) >>= fun y22 => (inS x21 y22 >>= fun c23 => pure (!c23))) else pure false) else pure false) >>= fun c26 => if c26 = true then ((pure false : M Bool) >>= fun r27 => (pure (.rt r27) : M (Tl Unit Bool))) else (pure (.ct ()) : M (Tl Unit Bool)))) () l11 >>= thenT (fun s9 =>
  (pure true : M Bool)) id))

def m_is_kind (p0 : Tx) : M Bool :=
  (((pure p0 : M Tx) >>= fun x1 => m_is_name x1) >>= fun c6 => if c6 = true then (((pure p0 : M Tx) >>= fun x2 => (pure (0 : Int) : M Int) >>= fun y3 => atT x2 y3) >>= fun x4 => (pure (tx "abcdefghijklmnopqrstuvwxyz") : M Tx) >>= fun y5 => inS x4 y5) else pure false)

def m_pieces (p0 : Tx) : M (List Tx) :=
  ((pure [] : M (List Tx)) >>= fun a1 =>
  ((pure (tx "") : M Tx) >>= fun a2 =>
  ((((pure p0 : M Tx) >>= fun x3 => pure (signs x3)) >>= fun l6 => forB (fun (s4 : ((List Tx) × Tx)) (e5 : Tx) => ((((pure e5 : M Tx) >>= fun x10 => (pure (tx "abcdefghijklmnopqrstuvwxyz") : M Tx) >>= fun y11 => inS x10 y11) >>= fun c17 => if c17 = true then pure true else (((pure e5 : M Tx) >>= fun x12 => (pure (tx "ABCDEFGHIJKLMNOPQRSTUVWXYZ") : M Tx) >>= fun y13 => inS x12 y13) >>= fun c16 => if c16 = true then pure true else ((pure e5 : M Tx) >>= fun x14 => (pure (tx "0123456789") : M Tx) >>= fun y15 => inS x14 y15))) >>= fun c18 => if c18 = true then (((pure e5 : M Tx) >>= fun y20 => addT s4.2 y20) >>= fun a19 =>
  (pure (.ct (s4.1, a19)) : M (Tl ((List Tx) × Tx) No))) else
  ((((pure s4.2 : M Tx) >>= fun x21 => (pure (tx "") : M Tx) >>= fun y22 => (pure (!decide (x21 = y22)) : M Bool)) >>= fun c23 => if c23 = true then (((pure s4.2 : M Tx) >>= fun a26 => chk (s4.1.length < SZ) >>= fun _u27 => pure a26) >>= fun a25 =>
  ((pure (tx "") : M Tx) >>= fun a28 =>
  (pure ((s4.1 ++ [a25]), a28) : M ((List Tx) × Tx)))) else (pure (s4.1, s4.2) : M ((List Tx) × Tx))) >>= fun s24 =>
  (((pure e5 : M Tx) >>= fun x29 => (pure (tx "(),;:=-") : M Tx) >>= fun y30 => inS x29 y30) >>= fun c31 => if c31 = true then (((pure e5 : M Tx) >>= fun a33 => chk (s24.1.length < SZ) >>= fun _u34 => pure a33) >>= fun a32 =>
  (pure (.ct ((s24.1 ++ [a32]), s24.2)) : M (Tl ((List Tx) × Tx) No))) else (((pure e5 : M Tx) >>= fun x35 => (pure (tx " ") : M Tx) >>= fun y36 => (pure (!decide (x35 = y36)) : M Bool)) >>= fun c37 => if c37 = true then (raise "NoLine" : M (Tl ((List Tx) × Tx) No)) else (pure (.ct (s24.1, s24.2)) : M (Tl ((List Tx) × Tx) No))))))) (a1, a2) l6) >>= fun s4 =>
  ((((pure s4.2 : M Tx) >>= fun x38 => (pure (tx "") : M Tx) >>= fun y39 => (pure (!decide (x38 = y39)) : M Bool)) >>= fun c40 => if c40 = true then (((pure s4.2 : M Tx) >>= fun a43 => chk (s4.1.length < SZ) >>= fun _u44 => pure a43) >>= fun a42 =>
  (pure (s4.1 ++ [a42]) : M (List Tx))) else (pure s4.1 : M (List Tx))) >>= fun s41 =>
  (pure s41 : M (List Tx))))))

def m_piece_at (p0 : (List Tx)) (p1 : Int) : M Tx :=
  (((pure p1 : M Int) >>= fun x2 => ((pure p0 : M (List Tx)) >>= fun x1 => (pure (x1.length : Int) : M Int)) >>= fun y3 => (pure (decide (x2 < y3)) : M Bool)) >>= fun c4 => if c4 = true then ((pure p0 : M (List Tx)) >>= fun x5 => (pure p1 : M Int) >>= fun y6 => atL x5 y6) else
  (pure (tx "") : M Tx))

def m_take_arguments (p0 : (List Tx)) (p1 : Int) : M ((Tup Tx) × Int) :=
  ((((pure p0 : M (List Tx)) >>= fun x1 => (pure p1 : M Int) >>= fun x2 => m_piece_at x1 x2) >>= fun x3 => (pure (tx ")") : M Tx) >>= fun y4 => (pure (decide (x3 = y4)) : M Bool)) >>= fun c5 => if c5 = true then (((pure [] : M (List Tx)) >>= fun x6 => (pure x6 : M (Tup Tx))) >>= fun x9 => ((pure p1 : M Int) >>= fun x7 => (pure (1 : Int) : M Int) >>= fun y8 => (pure (x7 + y8) : M Int)) >>= fun x10 => pure (x9, x10)) else
  ((pure [] : M (List Tx)) >>= fun a11 =>
  (whT (fun (s12 : (Int × (List Tx))) => (pure true : M Bool)) (fun (s12 : (Int × (List Tx))) => (((pure p0 : M (List Tx)) >>= fun x16 => (pure s12.1 : M Int) >>= fun x17 => m_piece_at x16 x17) >>= fun a15 =>
  ((((pure a15 : M Tx) >>= fun x18 => m_is_name x18) >>= fun c19 => pure (!c19)) >>= fun c20 => if c20 = true then (raise "NoLine" : M (Tl (Int × (List Tx)) ((Tup Tx) × Int))) else
  (((pure a15 : M Tx) >>= fun a22 => chk (s12.2.length < SZ) >>= fun _u23 => pure a22) >>= fun a21 =>
  (((pure p0 : M (List Tx)) >>= fun x27 => ((pure s12.1 : M Int) >>= fun x25 => (pure (1 : Int) : M Int) >>= fun y26 => (pure (x25 + y26) : M Int)) >>= fun x28 => m_piece_at x27 x28) >>= fun a24 =>
  (((pure (2 : Int) : M Int) >>= fun y30 => (pure (s12.1 + y30) : M Int)) >>= fun a29 =>
  (((pure a24 : M Tx) >>= fun x31 => (pure (tx ")") : M Tx) >>= fun y32 => (pure (decide (x31 = y32)) : M Bool)) >>= fun c33 => if c33 = true then ((((pure (s12.2 ++ [a21]) : M (List Tx)) >>= fun x34 => (pure x34 : M (Tup Tx))) >>= fun x35 => (pure a29 : M Int) >>= fun x36 => pure (x35, x36)) >>= fun r37 => (pure (.rt r37) : M (Tl (Int × (List Tx)) ((Tup Tx) × Int)))) else
  (((pure a24 : M Tx) >>= fun x38 => (pure (tx ",") : M Tx) >>= fun y39 => (pure (!decide (x38 = y39)) : M Bool)) >>= fun c40 => if c40 = true then (raise "NoLine" : M (Tl (Int × (List Tx)) ((Tup Tx) × Int))) else (pure (.ct (a29, (s12.2 ++ [a21]))) : M (Tl (Int × (List Tx)) ((Tup Tx) × Int))))))))))) FUEL (p1, a11) >>= thenT (fun s12 =>
  (stuck : M ((Tup Tx) × Int))) id)))

def m_take_fact (p0 : (List Tx)) (p1 : Int) : M ((Tx × (Tup Tx)) × Int) :=
  (((pure p0 : M (List Tx)) >>= fun x2 => (pure p1 : M Int) >>= fun x3 => m_piece_at x2 x3) >>= fun a1 =>
  ((((pure a1 : M Tx) >>= fun x4 => m_is_kind x4) >>= fun c5 => pure (!c5)) >>= fun c6 => if c6 = true then (raise "NoLine" : M ((Tx × (Tup Tx)) × Int)) else
  ((((pure p0 : M (List Tx)) >>= fun x9 => ((pure p1 : M Int) >>= fun x7 => (pure (1 : Int) : M Int) >>= fun y8 => (pure (x7 + y8) : M Int)) >>= fun x10 => m_piece_at x9 x10) >>= fun x11 => (pure (tx "(") : M Tx) >>= fun y12 => (pure (!decide (x11 = y12)) : M Bool)) >>= fun c13 => if c13 = true then (((pure a1 : M Tx) >>= fun x15 => ((pure [] : M (List Tx)) >>= fun x14 => (pure x14 : M (Tup Tx))) >>= fun x16 => pure (x15, x16)) >>= fun x19 => ((pure p1 : M Int) >>= fun x17 => (pure (1 : Int) : M Int) >>= fun y18 => (pure (x17 + y18) : M Int)) >>= fun x20 => pure (x19, x20)) else
  (((pure p0 : M (List Tx)) >>= fun x24 => ((pure p1 : M Int) >>= fun x22 => (pure (2 : Int) : M Int) >>= fun y23 => (pure (x22 + y23) : M Int)) >>= fun x25 => m_take_arguments x24 x25) >>= fun a21 =>
  (((pure a1 : M Tx) >>= fun x28 => ((pure a21 : M ((Tup Tx) × Int)) >>= fun x26 => pure x26.1) >>= fun x29 => pure (x28, x29)) >>= fun x32 => ((pure a21 : M ((Tup Tx) × Int)) >>= fun x30 => pure x30.2) >>= fun x33 => pure (x32, x33))))))

def m_fact_text (p0 : (Tx × (Tup Tx))) : M Tx :=
  (((((pure p0 : M (Tx × (Tup Tx))) >>= fun x1 => pure x1.2) >>= fun x3 => (pure ((List.length (α := Tx) x3 : Nat) : Int) : M Int)) >>= fun x4 => (pure (0 : Int) : M Int) >>= fun y5 => (pure (decide (x4 = y5)) : M Bool)) >>= fun c6 => if c6 = true then ((pure p0 : M (Tx × (Tup Tx))) >>= fun x7 => pure x7.1) else
  (((((pure p0 : M (Tx × (Tup Tx))) >>= fun x9 => pure x9.1) >>= fun x11 => (pure (tx "(") : M Tx) >>= fun y12 => addT x11 y12) >>= fun x17 => ((pure (tx ",") : M Tx) >>= fun x15 => ((pure p0 : M (Tx × (Tup Tx))) >>= fun x13 => pure x13.2) >>= fun y16 => joinM x15 y16) >>= fun y18 => addT x17 y18) >>= fun x19 => (pure (tx ")") : M Tx) >>= fun y20 => addT x19 y20))

def m_read_fact (p0 : Tx) : M (Tx × (Tup Tx)) :=
  (((pure p0 : M Tx) >>= fun x2 => m_pieces x2) >>= fun a1 =>
  (((pure a1 : M (List Tx)) >>= fun x4 => (pure (0 : Int) : M Int) >>= fun x5 => m_take_fact x4 x5) >>= fun a3 =>
  ((((pure a3 : M ((Tx × (Tup Tx)) × Int)) >>= fun x6 => pure x6.2) >>= fun x9 => ((pure a1 : M (List Tx)) >>= fun x8 => (pure (x8.length : Int) : M Int)) >>= fun y10 => (pure (!decide (x9 = y10)) : M Bool)) >>= fun c11 => if c11 = true then (raise "NoLine" : M (Tx × (Tup Tx))) else
  ((pure a3 : M ((Tx × (Tup Tx)) × Int)) >>= fun x12 => pure x12.1))))

def m__law_cell_at (p0 : (List Int)) (p1 : Int) : M Int :=
  (((pure p1 : M Int) >>= fun x2 => ((pure p0 : M (List Int)) >>= fun x1 => (pure (x1.length : Int) : M Int)) >>= fun y3 => (pure (decide (x2 < y3)) : M Bool)) >>= fun c4 => if c4 = true then ((pure p0 : M (List Int)) >>= fun x5 => (pure p1 : M Int) >>= fun y6 => atL x5 y6) else
  (pure (0 : Int) : M Int))

def m__law_mix (p0 : Int) (p1 : Int) : M Int :=
  ((((pure (48271 : Int) : M Int) >>= fun x14 => ((pure (69621 : Int) : M Int) >>= fun x12 => ((pure (16807 : Int) : M Int) >>= fun x10 => ((pure (40692 : Int) : M Int) >>= fun x8 => ((pure (30269 : Int) : M Int) >>= fun x6 => ((pure (62089 : Int) : M Int) >>= fun x4 => ((pure (45991 : Int) : M Int) >>= fun x2 => (pure [] : M (List Int)) >>= fun r3 => pure (x2 :: r3)) >>= fun r5 => pure (x4 :: r5)) >>= fun r7 => pure (x6 :: r7)) >>= fun r9 => pure (x8 :: r9)) >>= fun r11 => pure (x10 :: r11)) >>= fun r13 => pure (x12 :: r13)) >>= fun r15 => pure (x14 :: r15)) >>= fun x16 => ((pure p1 : M Int) >>= fun x18 => (pure (7 : Int) : M Int) >>= fun y19 => modI x18 y19) >>= fun y17 => atL x16 y17) >>= fun a1 =>
  (((((pure p0 : M Int) >>= fun x20 => (pure (1000003 : Int) : M Int) >>= fun y21 => modI x20 y21) >>= fun x24 => ((pure (31 : Int) : M Int) >>= fun x22 => (pure p1 : M Int) >>= fun y23 => mulI x22 y23) >>= fun y25 => (pure (x24 + y25) : M Int)) >>= fun x26 => (pure a1 : M Int) >>= fun y27 => mulI x26 y27) >>= fun x28 => (pure (999983 : Int) : M Int) >>= fun y29 => modI x28 y29))

def m__law_names (p0 : Int) (p1 : Int) (p2 : Tx) : M (List Tx) :=
  ((pure (tx "abcdefghijklmnopqrstuvwxyz0123456789ABCDEFGHIJKLMNOPQRSTUVWXYZ") : M Tx) >>= fun a1 =>
  (((pure p0 : M Int) >>= fun x3 => (pure (0 : Int) : M Int) >>= fun x4 => m__law_mix x3 x4) >>= fun a2 =>
  ((((pure a2 : M Int) >>= fun x6 => (pure (5 : Int) : M Int) >>= fun y7 => divI x6 y7) >>= fun x9 => ((pure p2 : M Tx) >>= fun x8 => lenT x8) >>= fun y10 => modI x9 y10) >>= fun a5 =>
  (((pure (tx "") : M Tx) >>= fun x27 => (((pure (11 : Int) : M Int) >>= fun x12 => range1 x12) >>= fun y26 => lc (fun e13 => ((pure a1 : M Tx) >>= fun x14 => ((((pure a2 : M Int) >>= fun x18 => ((pure e13 : M Int) >>= fun x16 => (pure (1 : Int) : M Int) >>= fun y17 => (pure (x16 + y17) : M Int)) >>= fun y19 => divI x18 y19) >>= fun x22 => ((pure e13 : M Int) >>= fun x20 => (pure e13 : M Int) >>= fun y21 => mulI x20 y21) >>= fun y23 => (pure (x22 + y23) : M Int)) >>= fun x24 => (pure (62 : Int) : M Int) >>= fun y25 => modI x24 y25) >>= fun y15 => atT x14 y15)) y26) >>= fun y28 => joinM x27 y28) >>= fun a11 =>
  ((((pure a2 : M Int) >>= fun x29 => (pure (3 : Int) : M Int) >>= fun y30 => modI x29 y30) >>= fun x31 => (pure (0 : Int) : M Int) >>= fun y32 => (pure (decide (x31 = y32)) : M Bool)) >>= fun c33 => if c33 = true then (((pure p1 : M Int) >>= fun x34 => range1 x34) >>= fun y44 => lc (fun e35 => (((pure p2 : M Tx) >>= fun x36 => (pure a5 : M Int) >>= fun y37 => atT x36 y37) >>= fun x42 => ((pure a11 : M Tx) >>= fun s39 => (pure none : M (Option Int)) >>= fun l40 => ((pure e35 : M Int) >>= fun x38 => pure (some x38)) >>= fun u41 => cutT s39 l40 u41) >>= fun y43 => addT x42 y43)) y44) else
  ((((pure a2 : M Int) >>= fun x45 => (pure (3 : Int) : M Int) >>= fun y46 => modI x45 y46) >>= fun x47 => (pure (1 : Int) : M Int) >>= fun y48 => (pure (decide (x47 = y48)) : M Bool)) >>= fun c49 => if c49 = true then ((((pure a2 : M Int) >>= fun x51 => (pure (3 : Int) : M Int) >>= fun y52 => divI x51 y52) >>= fun x53 => (pure (12 : Int) : M Int) >>= fun y54 => modI x53 y54) >>= fun a50 =>
  (((pure p1 : M Int) >>= fun x55 => range1 x55) >>= fun y70 => lc (fun e56 => (((pure p2 : M Tx) >>= fun x57 => (((pure a5 : M Int) >>= fun x59 => (pure e56 : M Int) >>= fun y60 => (pure (x59 + y60) : M Int)) >>= fun x62 => ((pure p2 : M Tx) >>= fun x61 => lenT x61) >>= fun y63 => modI x62 y63) >>= fun y58 => atT x57 y58) >>= fun x68 => ((pure a11 : M Tx) >>= fun s65 => (pure none : M (Option Int)) >>= fun l66 => ((pure a50 : M Int) >>= fun x64 => pure (some x64)) >>= fun u67 => cutT s65 l66 u67) >>= fun y69 => addT x68 y69)) y70)) else
  ((((pure a2 : M Int) >>= fun x72 => (pure (3 : Int) : M Int) >>= fun y73 => divI x72 y73) >>= fun x74 => (pure (11 : Int) : M Int) >>= fun y75 => modI x74 y75) >>= fun a71 =>
  ((((pure a2 : M Int) >>= fun x77 => (pure (33 : Int) : M Int) >>= fun y78 => divI x77 y78) >>= fun x81 => ((pure a71 : M Int) >>= fun x79 => (pure (1 : Int) : M Int) >>= fun y80 => (pure (x79 + y80) : M Int)) >>= fun y82 => modI x81 y82) >>= fun a76 =>
  ((((pure p1 : M Int) >>= fun x84 => range1 x84) >>= fun y94 => lc (fun e85 => ((pure a1 : M Tx) >>= fun x86 => ((((pure a2 : M Int) >>= fun x88 => (pure (7 : Int) : M Int) >>= fun y89 => divI x88 y89) >>= fun x90 => (pure e85 : M Int) >>= fun y91 => (pure (x90 + y91) : M Int)) >>= fun x92 => (pure (62 : Int) : M Int) >>= fun y93 => modI x92 y93) >>= fun y87 => atT x86 y87)) y94) >>= fun a83 =>
  ((pure a83 : M (List Tx)) >>= fun y113 => lc (fun e95 => (((((pure p2 : M Tx) >>= fun x96 => (pure a5 : M Int) >>= fun y97 => atT x96 y97) >>= fun x102 => ((pure a11 : M Tx) >>= fun s99 => (pure none : M (Option Int)) >>= fun l100 => ((pure a76 : M Int) >>= fun x98 => pure (some x98)) >>= fun u101 => cutT s99 l100 u101) >>= fun y103 => addT x102 y103) >>= fun x104 => (pure e95 : M Tx) >>= fun y105 => addT x104 y105) >>= fun x111 => ((pure a11 : M Tx) >>= fun s108 => ((pure a76 : M Int) >>= fun x106 => pure (some x106)) >>= fun l109 => ((pure a71 : M Int) >>= fun x107 => pure (some x107)) >>= fun u110 => cutT s108 l109 u110) >>= fun y112 => addT x111 y112)) y113))))))))))

def m__law_titles (p0 : Int) (p1 : Int) : M (List Tx) :=
  ((pure p0 : M Int) >>= fun x1 => (pure p1 : M Int) >>= fun x2 => (pure (tx "abcdefghijklmnopqrstuvwxyz") : M Tx) >>= fun x3 => m__law_names x1 x2 x3)

def m__law_opens (p0 : Int) (p1 : Int) : M (List Tx) :=
  ((pure p0 : M Int) >>= fun x1 => (pure p1 : M Int) >>= fun x2 => (pure (tx "ABCDEFGHIJKLMNOPQRSTUVWXYZ") : M Tx) >>= fun x3 => m__law_names x1 x2 x3)

def m__law_words (p0 : Int) (p1 : Int) : M (List Tx) :=
  ((pure p0 : M Int) >>= fun x1 => (pure p1 : M Int) >>= fun x2 => (pure (tx "abcdefghijklmnopqrstuvwxyz0123456789") : M Tx) >>= fun x3 => m__law_names x1 x2 x3)

def m__law_fact_text (p0 : (Tx × (Tup Tx))) : M Tx :=
  (((((pure p0 : M (Tx × (Tup Tx))) >>= fun x1 => pure x1.2) >>= fun x3 => (pure ((List.length (α := Tx) x3 : Nat) : Int) : M Int)) >>= fun x4 => (pure (0 : Int) : M Int) >>= fun y5 => (pure (decide (x4 = y5)) : M Bool)) >>= fun c6 => if c6 = true then ((pure p0 : M (Tx × (Tup Tx))) >>= fun x7 => pure x7.1) else
  (((((pure p0 : M (Tx × (Tup Tx))) >>= fun x9 => pure x9.1) >>= fun x11 => (pure (tx "(") : M Tx) >>= fun y12 => addT x11 y12) >>= fun x17 => ((pure (tx ",") : M Tx) >>= fun x15 => ((pure p0 : M (Tx × (Tup Tx))) >>= fun x13 => pure x13.2) >>= fun y16 => joinM x15 y16) >>= fun y18 => addT x17 y18) >>= fun x19 => (pure (tx ")") : M Tx) >>= fun y20 => addT x19 y20))

def m__law_pieces (p0 : (Tx × (Tup Tx))) (p1 : Bool) : M (List Tx) :=
  ((((((pure p0 : M (Tx × (Tup Tx))) >>= fun x1 => pure x1.2) >>= fun x3 => (pure ((List.length (α := Tx) x3 : Nat) : Int) : M Int)) >>= fun x4 => (pure (0 : Int) : M Int) >>= fun y5 => (pure (decide (x4 = y5)) : M Bool)) >>= fun c7 => if c7 = true then ((pure p1 : M Bool) >>= fun c6 => pure (!c6)) else pure false) >>= fun c8 => if c8 = true then (((pure p0 : M (Tx × (Tup Tx))) >>= fun x9 => pure x9.1) >>= fun x11 => (pure [] : M (List Tx)) >>= fun r12 => pure (x11 :: r12)) else
  ((((pure p0 : M (Tx × (Tup Tx))) >>= fun x14 => pure x14.1) >>= fun x18 => ((pure (tx "(") : M Tx) >>= fun x16 => (pure [] : M (List Tx)) >>= fun r17 => pure (x16 :: r17)) >>= fun r19 => pure (x18 :: r19)) >>= fun a13 =>
  ((((((pure p0 : M (Tx × (Tup Tx))) >>= fun x20 => pure x20.2) >>= fun x22 => (pure ((List.length (α := Tx) x22 : Nat) : Int) : M Int)) >>= fun x23 => range1 x23) >>= fun l26 => forP (fun (s24 : (List Tx)) (e25 : Int) => ((((pure e25 : M Int) >>= fun x30 => (pure (0 : Int) : M Int) >>= fun y31 => (pure (decide (y31 < x30)) : M Bool)) >>= fun c32 => if c32 = true then (((pure (tx ",") : M Tx) >>= fun a35 => chk (s24.length < SZ) >>= fun _u36 => pure a35) >>= fun a34 =>
  (pure (s24 ++ [a34]) : M (List Tx))) else (pure s24 : M (List Tx))) >>= fun s33 =>
  (((((pure p0 : M (Tx × (Tup Tx))) >>= fun x38 => pure x38.2) >>= fun x40 => (pure e25 : M Int) >>= fun y41 => atL (α := Tx) x40 y41) >>= fun a42 => chk (s33.length < SZ) >>= fun _u43 => pure a42) >>= fun a37 =>
  (pure (s33 ++ [a37]) : M (List Tx))))) a13 l26) >>= fun s24 =>
  (((pure (tx ")") : M Tx) >>= fun a45 => chk (s24.length < SZ) >>= fun _u46 => pure a45) >>= fun a44 =>
  (pure (s24 ++ [a44]) : M (List Tx))))))

def m__law_alike (p0 : (Tx × (Tup Tx))) (p1 : (Tx × (Tup Tx))) : M Bool :=
  (((pure p0 : M (Tx × (Tup Tx))) >>= fun _x1 => (pure true : M Bool)) >>= fun c12 => if c12 = true then ((((pure p0 : M (Tx × (Tup Tx))) >>= fun x2 => (pure 2 : M Int)) >>= fun x3 => (pure (2 : Int) : M Int) >>= fun y4 => (pure (decide (x3 = y4)) : M Bool)) >>= fun c11 => if c11 = true then ((((pure p0 : M (Tx × (Tup Tx))) >>= fun x5 => pure x5.2) >>= fun _x7 => (pure true : M Bool)) >>= fun c10 => if c10 = true then ((pure p0 : M (Tx × (Tup Tx))) >>= fun x8 => (pure p1 : M (Tx × (Tup Tx))) >>= fun y9 => (pure (decide (x8 = y9)) : M Bool)) else pure false) else pure false) else pure false)

def m_law (p0 : (List Int)) : M Bool :=
  ((((pure p0 : M (List Int)) >>= fun x2 => (pure (1 : Int) : M Int) >>= fun x3 => m__law_cell_at x2 x3) >>= fun x4 => (pure (1000000007 : Int) : M Int) >>= fun y5 => modI x4 y5) >>= fun a1 =>
  (((((pure p0 : M (List Int)) >>= fun x7 => (pure (0 : Int) : M Int) >>= fun x8 => m__law_cell_at x7 x8) >>= fun x9 => (pure (9 : Int) : M Int) >>= fun x10 => m__law_titles x9 x10) >>= fun x11 => ((pure a1 : M Int) >>= fun x13 => (pure (9 : Int) : M Int) >>= fun y14 => modI x13 y14) >>= fun y12 => atL x11 y12) >>= fun a6 =>
  (((((pure p0 : M (List Int)) >>= fun x16 => (pure (2 : Int) : M Int) >>= fun x17 => m__law_cell_at x16 x17) >>= fun x18 => (pure (5 : Int) : M Int) >>= fun x19 => m__law_opens x18 x19) >>= fun x24 => (((pure p0 : M (List Int)) >>= fun x20 => (pure (3 : Int) : M Int) >>= fun x21 => m__law_cell_at x20 x21) >>= fun x22 => (pure (5 : Int) : M Int) >>= fun x23 => m__law_words x22 x23) >>= fun y25 => catM x24 y25) >>= fun a15 =>
  ((((((pure a1 : M Int) >>= fun x27 => (pure (9 : Int) : M Int) >>= fun y28 => divI x27 y28) >>= fun x29 => (pure (5 : Int) : M Int) >>= fun y30 => modI x29 y30) >>= fun x31 => range1 x31) >>= fun y43 => lc (fun e32 => ((pure a15 : M (List Tx)) >>= fun x33 => ((((pure p0 : M (List Int)) >>= fun x37 => ((pure (4 : Int) : M Int) >>= fun x35 => (pure e32 : M Int) >>= fun y36 => (pure (x35 + y36) : M Int)) >>= fun x38 => m__law_cell_at x37 x38) >>= fun x39 => (pure e32 : M Int) >>= fun x40 => m__law_mix x39 x40) >>= fun x41 => (pure (10 : Int) : M Int) >>= fun y42 => modI x41 y42) >>= fun y34 => atL x33 y34)) y43) >>= fun a26 =>
  (((pure a6 : M Tx) >>= fun x46 => ((pure a26 : M (List Tx)) >>= fun x45 => (pure x45 : M (Tup Tx))) >>= fun x47 => pure (x46, x47)) >>= fun a44 =>
  (((pure a44 : M (Tx × (Tup Tx))) >>= fun x49 => m__law_fact_text x49) >>= fun a48 =>
  ((((pure a6 : M Tx) >>= fun x52 => ((pure a26 : M (List Tx)) >>= fun x51 => (pure x51 : M (Tup Tx))) >>= fun x53 => pure (x52, x53)) >>= fun x54 => m_fact_text x54) >>= fun a50 =>
  (((((pure a50 : M Tx) >>= fun _x55 => (pure true : M Bool)) >>= fun c56 => pure (!c56)) >>= fun c59 => if c59 = true then pure true else ((pure a50 : M Tx) >>= fun x57 => (pure a48 : M Tx) >>= fun y58 => (pure (!decide (x57 = y58)) : M Bool))) >>= fun c60 => if c60 = true then (pure false : M Bool) else
  (((((pure a48 : M Tx) >>= fun x61 => m_read_fact x61) >>= fun x62 => (pure a44 : M (Tx × (Tup Tx))) >>= fun x63 => m__law_alike x62 x63) >>= fun c64 => pure (!c64)) >>= fun c65 => if c65 = true then (pure false : M Bool) else
  ((pure (tx "") : M Tx) >>= fun a66 =>
  (((pure a44 : M (Tx × (Tup Tx))) >>= fun x74 => ((((pure a1 : M Int) >>= fun x68 => (pure (45 : Int) : M Int) >>= fun y69 => divI x68 y69) >>= fun x70 => (pure (2 : Int) : M Int) >>= fun y71 => modI x70 y71) >>= fun x72 => (pure (1 : Int) : M Int) >>= fun y73 => (pure (decide (x72 = y73)) : M Bool)) >>= fun x75 => m__law_pieces x74 x75) >>= fun a67 =>
  (((((pure a67 : M (List Tx)) >>= fun x76 => (pure (x76.length : Int) : M Int)) >>= fun x77 => range1 x77) >>= fun l80 => forP (fun (s78 : Tx) (e79 : Int) => ((((pure s78 : M Tx) >>= fun x97 => ((pure (tx "   ") : M Tx) >>= fun s94 => (pure none : M (Option Int)) >>= fun l95 => (((((pure p0 : M (List Int)) >>= fun x87 => ((pure (8 : Int) : M Int) >>= fun x85 => (pure e79 : M Int) >>= fun y86 => (pure (x85 + y86) : M Int)) >>= fun x88 => m__law_cell_at x87 x88) >>= fun x89 => (pure e79 : M Int) >>= fun x90 => m__law_mix x89 x90) >>= fun x91 => (pure (4 : Int) : M Int) >>= fun y92 => modI x91 y92) >>= fun x93 => pure (some x93)) >>= fun u96 => cutT s94 l95 u96) >>= fun y98 => addT x97 y98) >>= fun x101 => ((pure a67 : M (List Tx)) >>= fun x99 => (pure e79 : M Int) >>= fun y100 => atL x99 y100) >>= fun y102 => addT x101 y102) >>= fun a84 =>
  (pure a84 : M Tx))) a66 l80) >>= fun s78 =>
  (((pure s78 : M Tx) >>= fun x117 => ((pure (tx "   ") : M Tx) >>= fun s114 => (pure none : M (Option Int)) >>= fun l115 => (((((pure p0 : M (List Int)) >>= fun x107 => ((pure (8 : Int) : M Int) >>= fun x105 => ((pure a67 : M (List Tx)) >>= fun x104 => (pure (x104.length : Int) : M Int)) >>= fun y106 => (pure (x105 + y106) : M Int)) >>= fun x108 => m__law_cell_at x107 x108) >>= fun x109 => (pure (5 : Int) : M Int) >>= fun x110 => m__law_mix x109 x110) >>= fun x111 => (pure (4 : Int) : M Int) >>= fun y112 => modI x111 y112) >>= fun x113 => pure (some x113)) >>= fun u116 => cutT s114 l115 u116) >>= fun y118 => addT x117 y118) >>= fun a103 =>
  (((pure a103 : M Tx) >>= fun x119 => m_read_fact x119) >>= fun x120 => (pure a44 : M (Tx × (Tup Tx))) >>= fun x121 => m__law_alike x120 x121))))))))))))))
end Q

set_option Elab.async false
set_option linter.all false
set_option maxRecDepth 100000
set_option maxHeartbeats 4000000
namespace Q
open PySem L2 G
/-! what the top has left -/
structure Fx (K : Fg) (mg : Str → Option Value) : Prop where
  f_is_name : ∃ fd, FunD K "is_name" "is_name" (defArgs (top 8)) (defBody (top 8)) (defScope (top 8)) [] [] (He.ga K "is_name") fd
  g_is_name : mg "is_name" = some (.ref (He.ga K "is_name"))
  f_is_kind : ∃ fd, FunD K "is_kind" "is_kind" (defArgs (top 9)) (defBody (top 9)) (defScope (top 9)) [] [] (He.ga K "is_kind") fd
  g_is_kind : mg "is_kind" = some (.ref (He.ga K "is_kind"))
  f_pieces : ∃ fd, FunD K "pieces" "pieces" (defArgs (top 10)) (defBody (top 10)) (defScope (top 10)) [] [] (He.ga K "pieces") fd
  g_pieces : mg "pieces" = some (.ref (He.ga K "pieces"))
  f_piece_at : ∃ fd, FunD K "piece_at" "piece_at" (defArgs (top 11)) (defBody (top 11)) (defScope (top 11)) [] [] (He.ga K "piece_at") fd
  g_piece_at : mg "piece_at" = some (.ref (He.ga K "piece_at"))
  f_take_arguments : ∃ fd, FunD K "take_arguments" "take_arguments" (defArgs (top 12)) (defBody (top 12)) (defScope (top 12)) [] [] (He.ga K "take_arguments") fd
  g_take_arguments : mg "take_arguments" = some (.ref (He.ga K "take_arguments"))
  f_take_fact : ∃ fd, FunD K "take_fact" "take_fact" (defArgs (top 13)) (defBody (top 13)) (defScope (top 13)) [] [] (He.ga K "take_fact") fd
  g_take_fact : mg "take_fact" = some (.ref (He.ga K "take_fact"))
  f_fact_text : ∃ fd, FunD K "fact_text" "fact_text" (defArgs (top 14)) (defBody (top 14)) (defScope (top 14)) [] [] (He.ga K "fact_text") fd
  g_fact_text : mg "fact_text" = some (.ref (He.ga K "fact_text"))
  f_read_fact : ∃ fd, FunD K "read_fact" "read_fact" (defArgs (top 15)) (defBody (top 15)) (defScope (top 15)) [] [] (He.ga K "read_fact") fd
  g_read_fact : mg "read_fact" = some (.ref (He.ga K "read_fact"))
  f__law_cell_at : ∃ fd, FunD K "_law_cell_at" "_law_cell_at" (defArgs (top 17)) (defBody (top 17)) (defScope (top 17)) [] [] (He.ga K "_law_cell_at") fd
  g__law_cell_at : mg "_law_cell_at" = some (.ref (He.ga K "_law_cell_at"))
  f__law_mix : ∃ fd, FunD K "_law_mix" "_law_mix" (defArgs (top 18)) (defBody (top 18)) (defScope (top 18)) [] [] (He.ga K "_law_mix") fd
  g__law_mix : mg "_law_mix" = some (.ref (He.ga K "_law_mix"))
  f__law_names : ∃ fd, FunD K "_law_names" "_law_names" (defArgs (top 19)) (defBody (top 19)) (defScope (top 19)) [] [] (He.ga K "_law_names") fd
  g__law_names : mg "_law_names" = some (.ref (He.ga K "_law_names"))
  f__law_titles : ∃ fd, FunD K "_law_titles" "_law_titles" (defArgs (top 20)) (defBody (top 20)) (defScope (top 20)) [] [] (He.ga K "_law_titles") fd
  g__law_titles : mg "_law_titles" = some (.ref (He.ga K "_law_titles"))
  f__law_opens : ∃ fd, FunD K "_law_opens" "_law_opens" (defArgs (top 21)) (defBody (top 21)) (defScope (top 21)) [] [] (He.ga K "_law_opens") fd
  g__law_opens : mg "_law_opens" = some (.ref (He.ga K "_law_opens"))
  f__law_words : ∃ fd, FunD K "_law_words" "_law_words" (defArgs (top 22)) (defBody (top 22)) (defScope (top 22)) [] [] (He.ga K "_law_words") fd
  g__law_words : mg "_law_words" = some (.ref (He.ga K "_law_words"))
  f__law_fact_text : ∃ fd, FunD K "_law_fact_text" "_law_fact_text" (defArgs (top 23)) (defBody (top 23)) (defScope (top 23)) [] [] (He.ga K "_law_fact_text") fd
  g__law_fact_text : mg "_law_fact_text" = some (.ref (He.ga K "_law_fact_text"))
  f__law_pieces : ∃ fd, FunD K "_law_pieces" "_law_pieces" (defArgs (top 24)) (defBody (top 24)) (defScope (top 24)) [] [] (He.ga K "_law_pieces") fd
  g__law_pieces : mg "_law_pieces" = some (.ref (He.ga K "_law_pieces"))
  f__law_alike : ∃ fd, FunD K "_law_alike" "_law_alike" (defArgs (top 25)) (defBody (top 25)) (defScope (top 25)) [] [] (He.ga K "_law_alike") fd
  g__law_alike : mg "_law_alike" = some (.ref (He.ga K "_law_alike"))
  f_law : ∃ fd, FunD K "law" "law" (defArgs (top 26)) (defBody (top 26)) (defScope (top 26)) [] [] (He.ga K "law") fd
  g_law : mg "law" = some (.ref (He.ga K "law"))
  n_isinstance : mg "isinstance" = none
  n_len : mg "len" = none
  n_range : mg "range" = none
  n_str : mg "str" = none
  n_tuple : mg "tuple" = none
  s_FIGURES : ∃ t, mg "FIGURES" = some (.str (Str.ofString "0123456789") t)
  s_GREAT : ∃ t, mg "GREAT" = some (.str (Str.ofString "ABCDEFGHIJKLMNOPQRSTUVWXYZ") t)
  s_SIGNS : ∃ t, mg "SIGNS" = some (.str (Str.ofString "(),;:=-") t)
  s_SMALL : ∃ t, mg "SMALL" = some (.str (Str.ofString "abcdefghijklmnopqrstuvwxyz") t)
  g_NoLine : mg "NoLine" = some (.ref (He.ga K "NoLine"))
  x_NoLine : (He.Fa.exc "NoLine").ok K = true
/-! each def keeps its promise -/
abbrev N_is_name : List Str := ["text", "sign"]
theorem nd_is_name : N_is_name.Nodup := by decide +kernel
theorem ok_is_name {P : Program} {w : World} {K : Fg} {mg : Str → Option Value} {base : Heap} (T : Fx K mg) : OkF P w K mg base "is_name" 1 (sp1 K m_is_name) :=
  mkF1 (N := N_is_name) T.f_is_name T.g_is_name ⟨rfl, rfl, rfl, nd_is_name, rfl, by decide +kernel, by decide +kernel⟩ (fun _ _ _ _ _ _ us hl => match us, hl with | [_], _ => rfl) fun cdv A outer s H E hr p0 b hown => by
    unfold m_is_name
    exact (js_if1 pi_rt (jt_not (jt_chain op_le ro_le op_le ro_le je_int (je_callB call_len_str ra_lenS T.n_len bt_len (je_var 0 rfl)) je_int)) (js_ret je_bl)
  (js_forR (Lf := fun (s9 : Unit) => [.im (rp K p0), .no]) (wr := id) (fun _ _ h => h) (ji_str (je_var 0 rfl)) (jg_name 1 (fun _ => nd_is_name)) (Wk.s (Wk.s Wk.nil)) (fun F14 s9 e10 => (js_if2 (jw_jt (jw_and (jt_cmp op_notInS ro_notIn (je_var 1 rfl) (je_gstr T.s_SMALL)) (jw_and (jt_cmp op_notInS ro_notIn (je_var 1 rfl) (je_gstr T.s_GREAT)) (jw_and1 (jt_cmp op_notInS ro_notIn (je_var 1 rfl) (je_gstr T.s_FIGURES)))))) (js_retL je_bl) (js_nilL (Wk.s (Wk.n Wk.nil))))) (fun s9 =>
  (js_ret je_bl)) pasO))

abbrev N_is_kind : List Str := ["text"]
theorem nd_is_kind : N_is_kind.Nodup := by decide +kernel
theorem ok_is_kind {P : Program} {w : World} {K : Fg} {mg : Str → Option Value} {base : Heap} (T : Fx K mg) : OkF P w K mg base "is_kind" 2 (sp1 K m_is_kind) :=
  mkF1 (N := N_is_kind) T.f_is_kind T.g_is_kind ⟨rfl, rfl, rfl, nd_is_kind, rfl, by decide +kernel, by decide +kernel⟩ (fun _ _ _ _ _ _ us hl => match us, hl with | [_], _ => rfl) fun cdv A outer s H E hr p0 b hown => by
    unfold m_is_kind
    exact (js_ret (je_and (je_call1 (ok_is_name T) (hr.mono (by decide)) pasF (je_var 0 rfl)) (je_one (je_cmp op_inS ro_in (je_ix ix_str ro_ixS (je_var 0 rfl) je_int) (je_gstr T.s_SMALL)))))

abbrev N_pieces : List Str := ["text", "found", "name", "sign"]
theorem nd_pieces : N_pieces.Nodup := by decide +kernel
theorem ok_pieces {P : Program} {w : World} {K : Fg} {mg : Str → Option Value} {base : Heap} (T : Fx K mg) : OkF P w K mg base "pieces" 1 (sp1 K m_pieces) :=
  mkF1 (N := N_pieces) T.f_pieces T.g_pieces ⟨rfl, rfl, rfl, nd_pieces, rfl, by decide +kernel, by decide +kernel⟩ (fun _ _ _ _ _ _ us hl => match us, hl with | [_], _ => rfl) fun cdv A outer s H E hr p0 b hown => by
    unfold m_pieces
    exact (js_cons (j1_setF 1 (jf_lst jl_nil) nd_pieces) fun a1 =>
  (js_cons (j1_set 2 je_str nd_pieces) fun a2 =>
  (js_cons (j1_forB (Lf := fun (s4 : ((List Tx) × Tx)) => [.im (rp K p0), .mu (ctL K s4.1), .im (rp K s4.2), .no]) (ji_str (je_var 0 rfl)) (jg_name 3 (fun _ => nd_pieces)) (Wk.s (Wk.s (Wk.s (Wk.s Wk.nil)))) (fun F9 s4 e5 => (js_if1 pi_tl (jw_jt (jw_or (jt_cmp op_inS ro_in (je_var 3 rfl) (je_gstr T.s_SMALL)) (jw_or (jt_cmp op_inS ro_in (je_var 3 rfl) (je_gstr T.s_GREAT)) (jw_or1 (jt_cmp op_inS ro_in (je_var 3 rfl) (je_gstr T.s_FIGURES)))))) (js_cons (j1_aug 2 iop_add_str ro_addT (je_var 3 rfl) nd_pieces) fun a19 =>
  (js_cnt (Wk.s (Wk.s (Wk.s (Wk.n Wk.nil))))))
  (js_cons (j1_if (Lf := fun (s24 : ((List Tx) × Tx)) => [.im (rp K p0), .mu (ctL K s24.1), .im (rp K s24.2), .im (rp K e5)]) (jt_cmp op_ne ro_neT (je_var 2 rfl) je_str) (js_cons (j1_append 1 (je_var 2 rfl)) fun a25 =>
  (js_cons (j1_set 2 je_str nd_pieces) fun a28 =>
  (js_nilP (Wk.s (Wk.s (Wk.s (Wk.s Wk.nil))))))) (js_nilP (Wk.s (Wk.s (Wk.s (Wk.s Wk.nil)))))) fun s24 =>
  (js_if2 (jt_cmp op_inS ro_in (je_var 3 rfl) (je_gstr T.s_SIGNS)) (js_cons (j1_append 1 (je_var 3 rfl)) fun a32 =>
  (js_nilL (Wk.s (Wk.s (Wk.s (Wk.n Wk.nil)))))) (js_if2 (jt_cmp op_ne ro_neT (je_var 3 rfl) je_str) (js_raise takF rfl T.g_NoLine T.x_NoLine) (js_nilL (Wk.s (Wk.s (Wk.s (Wk.n Wk.nil)))))))))) pasO) fun s4 =>
  (js_cons (j1_if (Lf := fun (s41 : (List Tx)) => [.im (rp K p0), .mu (ctL K s41), .im (rp K s4.2), .no]) (jt_cmp op_ne ro_neT (je_var 2 rfl) je_str) (js_cons (j1_append 1 (je_var 2 rfl)) fun a42 =>
  (js_nilP (Wk.s (Wk.s (Wk.s (Wk.s Wk.nil)))))) (js_nilP (Wk.s (Wk.s (Wk.s (Wk.s Wk.nil)))))) fun s41 =>
  (js_frz 1 (js_ret (je_var 1 rfl)) hown)))))

abbrev N_piece_at : List Str := ["found", "at"]
theorem nd_piece_at : N_piece_at.Nodup := by decide +kernel
theorem ok_piece_at {P : Program} {w : World} {K : Fg} {mg : Str → Option Value} {base : Heap} (T : Fx K mg) : OkF P w K mg base "piece_at" 1 (sp2 K m_piece_at) :=
  mkF2 (N := N_piece_at) T.f_piece_at T.g_piece_at ⟨rfl, rfl, rfl, nd_piece_at, rfl, by decide +kernel, by decide +kernel⟩ (fun _ _ _ _ _ _ us hl => match us, hl with | [_, _], _ => rfl) fun cdv A outer s H E hr p0 p1 b hown => by
    unfold m_piece_at
    exact (js_if1 pi_rt (jt_cmp op_lt ro_lt (je_var 1 rfl) (je_callB call_len_seq ra_lenL T.n_len bt_len (je_var 0 rfl))) (js_ret (je_ix ix_list ro_ixL (je_var 0 rfl) (je_var 1 rfl)))
  (js_ret je_str))

abbrev N_take_arguments : List Str := ["found", "at", "names", "name", "sign"]
theorem nd_take_arguments : N_take_arguments.Nodup := by decide +kernel
theorem ok_take_arguments {P : Program} {w : World} {K : Fg} {mg : Str → Option Value} {base : Heap} (T : Fx K mg) : OkF P w K mg base "take_arguments" 2 (sp2 K m_take_arguments) :=
  mkF2 (N := N_take_arguments) T.f_take_arguments T.g_take_arguments ⟨rfl, rfl, rfl, nd_take_arguments, rfl, by decide +kernel, by decide +kernel⟩ (fun _ _ _ _ _ _ us hl => match us, hl with | [_, _], _ => rfl) fun cdv A outer s H E hr p0 p1 b hown => by
    unfold m_take_arguments
    exact (js_if1 pi_rt (jt_cmp op_eq ro_eqT (je_call2 (ok_piece_at T) (hr.mono (by decide)) pasF (je_var 0 rfl) (je_var 1 rfl)) je_str) (js_ret (je_pair (je_tupU jl_nil) (je_bin op_add ro_add (je_var 1 rfl) je_int)))
  (js_cons (j1_setF 2 (jf_lst jl_nil) nd_take_arguments) fun a11 =>
  (js_whR (Lf := fun (s12 : (Int × (List Tx))) => [.im (rp K p0), .im (rp K s12.1), .mu (ctL K s12.2), .no, .no]) FUEL (wr := id) (fun _ _ h => h) (Wk.s (Wk.s (Wk.s (Wk.s (Wk.s Wk.nil))))) (fun s12 => (jt_val je_bl)) (fun s12 => (js_cons (j1_set 3 (je_call2 (ok_piece_at T) (hr.mono (by decide)) pasF (je_var 0 rfl) (je_var 1 rfl)) nd_take_arguments) fun a15 =>
  (js_if1 pi_tl (jt_not (jt_val (je_call1 (ok_is_name T) (hr.mono (by decide)) pasF (je_var 3 rfl)))) (js_raise takF rfl T.g_NoLine T.x_NoLine)
  (js_cons (j1_append 2 (je_var 3 rfl)) fun a21 =>
  (js_cons (j1_set 4 (je_call2 (ok_piece_at T) (hr.mono (by decide)) pasF (je_var 0 rfl) (je_bin op_add ro_add (je_var 1 rfl) je_int)) nd_take_arguments) fun a24 =>
  (js_cons (j1_aug 1 iop_add ro_add je_int nd_take_arguments) fun a29 =>
  (js_if1 pi_tl (jt_cmp op_eq ro_eqT (je_var 4 rfl) je_str) (js_frz 2 (js_retL (je_pair (je_callTy call_tuple_of ra_tupL T.n_tuple bt_tuple (je_var 2 rfl)) (je_var 1 rfl))) hown)
  (js_if2 (jt_cmp op_ne ro_neT (je_var 4 rfl) je_str) (js_raise takF rfl T.g_NoLine T.x_NoLine) (js_nilL (Wk.s (Wk.s (Wk.s (Wk.n (Wk.n Wk.nil)))))))))))))) (fun s12 =>
  js_stuck) pasO)))

abbrev N_take_fact : List Str := ["found", "at", "title", "taken"]
theorem nd_take_fact : N_take_fact.Nodup := by decide +kernel
theorem ok_take_fact {P : Program} {w : World} {K : Fg} {mg : Str → Option Value} {base : Heap} (T : Fx K mg) : OkF P w K mg base "take_fact" 3 (sp2 K m_take_fact) :=
  mkF2 (N := N_take_fact) T.f_take_fact T.g_take_fact ⟨rfl, rfl, rfl, nd_take_fact, rfl, by decide +kernel, by decide +kernel⟩ (fun _ _ _ _ _ _ us hl => match us, hl with | [_, _], _ => rfl) fun cdv A outer s H E hr p0 p1 b hown => by
    unfold m_take_fact
    exact (js_cons (j1_set 2 (je_call2 (ok_piece_at T) (hr.mono (by decide)) pasF (je_var 0 rfl) (je_var 1 rfl)) nd_take_fact) fun a1 =>
  (js_if1 pi_rt (jt_not (jt_val (je_call1 (ok_is_kind T) (hr.mono (by decide)) pasF (je_var 2 rfl)))) (js_raise takF rfl T.g_NoLine T.x_NoLine)
  (js_if1 pi_rt (jt_cmp op_ne ro_neT (je_call2 (ok_piece_at T) (hr.mono (by decide)) pasF (je_var 0 rfl) (je_bin op_add ro_add (je_var 1 rfl) je_int)) je_str) (js_ret (je_pair (je_pair (je_var 2 rfl) (je_tupU jl_nil)) (je_bin op_add ro_add (je_var 1 rfl) je_int)))
  (js_cons (j1_set 3 (je_call2 (ok_take_arguments T) (hr.mono (by decide)) pasF (je_var 0 rfl) (je_bin op_add ro_add (je_var 1 rfl) je_int)) nd_take_fact) fun a21 =>
  (js_ret (je_pair (je_pair (je_var 2 rfl) (je_p0 (je_var 3 rfl))) (je_p1 (je_var 3 rfl))))))))

abbrev N_fact_text : List Str := ["fact"]
theorem nd_fact_text : N_fact_text.Nodup := by decide +kernel
theorem ok_fact_text {P : Program} {w : World} {K : Fg} {mg : Str → Option Value} {base : Heap} (T : Fx K mg) : OkF P w K mg base "fact_text" 1 (sp1 K m_fact_text) :=
  mkF1 (N := N_fact_text) T.f_fact_text T.g_fact_text ⟨rfl, rfl, rfl, nd_fact_text, rfl, by decide +kernel, by decide +kernel⟩ (fun _ _ _ _ _ _ us hl => match us, hl with | [_], _ => rfl) fun cdv A outer s H E hr p0 b hown => by
    unfold m_fact_text
    exact (js_if1 pi_rt (jt_cmp op_eq ro_eqI (je_callB call_len_seq ra_lenU T.n_len bt_len (je_p1 (je_var 0 rfl))) je_int) (js_ret (je_p0 (je_var 0 rfl)))
  (js_ret (je_bin op_add_str ro_addT (je_bin op_add_str ro_addT (je_bin op_add_str ro_addT (je_p0 (je_var 0 rfl)) je_str) (je_m1 PySem.F.slot_str_join PySem.F.type_str_join mt_join rm_joinU je_str (je_p1 (je_var 0 rfl)))) je_str)))

abbrev N_read_fact : List Str := ["text", "found", "taken"]
theorem nd_read_fact : N_read_fact.Nodup := by decide +kernel
theorem ok_read_fact {P : Program} {w : World} {K : Fg} {mg : Str → Option Value} {base : Heap} (T : Fx K mg) : OkF P w K mg base "read_fact" 4 (sp1 K m_read_fact) :=
  mkF1 (N := N_read_fact) T.f_read_fact T.g_read_fact ⟨rfl, rfl, rfl, nd_read_fact, rfl, by decide +kernel, by decide +kernel⟩ (fun _ _ _ _ _ _ us hl => match us, hl with | [_], _ => rfl) fun cdv A outer s H E hr p0 b hown => by
    unfold m_read_fact
    exact (js_cons (j1_set 1 (je_call1 (ok_pieces T) (hr.mono (by decide)) pasF (je_var 0 rfl)) nd_read_fact) fun a1 =>
  (js_cons (j1_set 2 (je_call2 (ok_take_fact T) (hr.mono (by decide)) pasF (je_var 1 rfl) je_int) nd_read_fact) fun a3 =>
  (js_if1 pi_rt (jt_cmp op_ne ro_neI (je_p1 (je_var 2 rfl)) (je_callB call_len_seq ra_lenL T.n_len bt_len (je_var 1 rfl))) (js_raise takF rfl T.g_NoLine T.x_NoLine)
  (js_ret (je_p0 (je_var 2 rfl))))))

abbrev N__law_cell_at : List Str := ["_law_script", "_law_k"]
theorem nd__law_cell_at : N__law_cell_at.Nodup := by decide +kernel
theorem ok__law_cell_at {P : Program} {w : World} {K : Fg} {mg : Str → Option Value} {base : Heap} (T : Fx K mg) : OkF P w K mg base "_law_cell_at" 1 (sp2 K m__law_cell_at) :=
  mkF2 (N := N__law_cell_at) T.f__law_cell_at T.g__law_cell_at ⟨rfl, rfl, rfl, nd__law_cell_at, rfl, by decide +kernel, by decide +kernel⟩ (fun _ _ _ _ _ _ us hl => match us, hl with | [_, _], _ => rfl) fun cdv A outer s H E hr p0 p1 b hown => by
    unfold m__law_cell_at
    exact (js_if1 pi_rt (jt_cmp op_lt ro_lt (je_var 1 rfl) (je_callB call_len_seq ra_lenL T.n_len bt_len (je_var 0 rfl))) (js_ret (je_ix ix_list ro_ixL (je_var 0 rfl) (je_var 1 rfl)))
  (js_ret je_int))

abbrev N__law_mix : List Str := ["_law_cell", "_law_k", "_law_factor"]
theorem nd__law_mix : N__law_mix.Nodup := by decide +kernel
theorem ok__law_mix {P : Program} {w : World} {K : Fg} {mg : Str → Option Value} {base : Heap} (T : Fx K mg) : OkF P w K mg base "_law_mix" 1 (sp2 K m__law_mix) :=
  mkF2 (N := N__law_mix) T.f__law_mix T.g__law_mix ⟨rfl, rfl, rfl, nd__law_mix, rfl, by decide +kernel, by decide +kernel⟩ (fun _ _ _ _ _ _ us hl => match us, hl with | [_, _], _ => rfl) fun cdv A outer s H E hr p0 p1 b hown => by
    unfold m__law_mix
    exact (js_cons (j1_set 2 (je_ix ix_list ro_ixL (je_lst (jl_cons je_int (jl_cons je_int (jl_cons je_int (jl_cons je_int (jl_cons je_int (jl_cons je_int (jl_cons je_int jl_nil)))))))) (je_bin op_mod ro_mod (je_var 1 rfl) je_int)) nd__law_mix) fun a1 =>
  (js_ret (je_bin op_mod ro_mod (je_bin op_mul ro_mul (je_bin op_add ro_add (je_bin op_mod ro_mod (je_var 0 rfl) je_int) (je_bin op_mul ro_mul je_int (je_var 1 rfl))) (je_var 2 rfl)) je_int)))

abbrev N__law_names : List Str := ["_law_cell", "_law_many", "_law_firsts", "_law_rest", "_law_number", "_law_start", "_law_tail", "_law_size", "_law_at", "_law_k", "_law_sign", "_law_j"]
theorem nd__law_names : N__law_names.Nodup := by decide +kernel
theorem ok__law_names {P : Program} {w : World} {K : Fg} {mg : Str → Option Value} {base : Heap} (T : Fx K mg) : OkF P w K mg base "_law_names" 2 (sp3 K m__law_names) :=
  mkF3 (N := N__law_names) T.f__law_names T.g__law_names ⟨rfl, rfl, rfl, nd__law_names, rfl, by decide +kernel, by decide +kernel⟩ (fun _ _ _ _ _ _ us hl => match us, hl with | [_, _, _], _ => rfl) fun cdv A outer s H E hr p0 p1 p2 b hown => by
    unfold m__law_names
    exact (js_cons (j1_set 3 je_str nd__law_names) fun a1 =>
  (js_cons (j1_set 4 (je_call2 (ok__law_mix T) (hr.mono (by decide)) pasF (je_var 0 rfl) je_int) nd__law_names) fun a2 =>
  (js_cons (j1_set 5 (je_bin op_mod ro_mod (je_bin op_fdiv ro_div (je_var 4 rfl) je_int) (je_callB call_len_str ra_lenS T.n_len bt_len (je_var 2 rfl))) nd__law_names) fun a5 =>
  (js_cons (j1_set 6 (je_m1 PySem.F.slot_str_join PySem.F.type_str_join mt_join rm_join je_str (je_jf (jf_lc (own := [("_law_j", 11)]) (ji_range1 T.n_range je_int) (jg_name 11 (fun _ => nd__law_names)) (fun _ e13 => (je_ix ix_str ro_ixS (je_var 3 rfl) (je_bin op_mod ro_mod (je_bin op_add ro_add (je_bin op_fdiv ro_div (je_var 4 rfl) (je_bin op_add ro_add (je_var 11 rfl) je_int)) (je_bin op_mul ro_mul (je_var 11 rfl) (je_var 11 rfl))) je_int))) nd__law_names (blkOk_by (N := N__law_names) (sc := defScope (top 19)) (by decide +kernel))))) nd__law_names) fun a11 =>
  (js_if1 pi_rt (jt_cmp op_eq ro_eqI (je_bin op_mod ro_mod (je_var 4 rfl) je_int) je_int) (js_ret (je_jf (jf_lc (own := [("_law_k", 9)]) (ji_range1 T.n_range (je_var 1 rfl)) (jg_name 9 (fun _ => nd__law_names)) (fun _ e35 => (je_bin op_add_str ro_addT (je_ix ix_str ro_ixS (je_var 2 rfl) (je_var 5 rfl)) (je_slS (je_var 6 rfl) jo_no (jo_at (je_var 9 rfl))))) nd__law_names (blkOk_by (N := N__law_names) (sc := defScope (top 19)) (by decide +kernel)))))
  (js_if1 pi_rt (jt_cmp op_eq ro_eqI (je_bin op_mod ro_mod (je_var 4 rfl) je_int) je_int) (js_cons (j1_set 7 (je_bin op_mod ro_mod (je_bin op_fdiv ro_div (je_var 4 rfl) je_int) je_int) nd__law_names) fun a50 =>
  (js_ret (je_jf (jf_lc (own := [("_law_k", 9)]) (ji_range1 T.n_range (je_var 1 rfl)) (jg_name 9 (fun _ => nd__law_names)) (fun _ e56 => (je_bin op_add_str ro_addT (je_ix ix_str ro_ixS (je_var 2 rfl) (je_bin op_mod ro_mod (je_bin op_add ro_add (je_var 5 rfl) (je_var 9 rfl)) (je_callB call_len_str ra_lenS T.n_len bt_len (je_var 2 rfl)))) (je_slS (je_var 6 rfl) jo_no (jo_at (je_var 7 rfl))))) nd__law_names (blkOk_by (N := N__law_names) (sc := defScope (top 19)) (by decide +kernel))))))
  (js_cons (j1_set 7 (je_bin op_mod ro_mod (je_bin op_fdiv ro_div (je_var 4 rfl) je_int) je_int) nd__law_names) fun a71 =>
  (js_cons (j1_set 8 (je_bin op_mod ro_mod (je_bin op_fdiv ro_div (je_var 4 rfl) je_int) (je_bin op_add ro_add (je_var 7 rfl) je_int)) nd__law_names) fun a76 =>
  (js_cons (j1_setF 3 (jf_lc (own := [("_law_k", 9)]) (ji_range1 T.n_range (je_var 1 rfl)) (jg_name 9 (fun _ => nd__law_names)) (fun _ e85 => (je_ix ix_str ro_ixS (je_var 3 rfl) (je_bin op_mod ro_mod (je_bin op_add ro_add (je_bin op_fdiv ro_div (je_var 4 rfl) je_int) (je_var 9 rfl)) je_int))) nd__law_names (blkOk_by (N := N__law_names) (sc := defScope (top 19)) (by decide +kernel))) nd__law_names) fun a83 =>
  (js_frz 3 (js_ret (je_jf (jf_lc (own := [("_law_sign", 10)]) (ji_list (je_var 3 rfl)) (jg_name 10 (fun _ => nd__law_names)) (fun _ e95 => (je_bin op_add_str ro_addT (je_bin op_add_str ro_addT (je_bin op_add_str ro_addT (je_ix ix_str ro_ixS (je_var 2 rfl) (je_var 5 rfl)) (je_slS (je_var 6 rfl) jo_no (jo_at (je_var 8 rfl)))) (je_var 10 rfl)) (je_slS (je_var 6 rfl) (jo_at (je_var 8 rfl)) (jo_at (je_var 7 rfl))))) nd__law_names (blkOk_by (N := N__law_names) (sc := defScope (top 19)) (by decide +kernel))))) hown))))))))))

abbrev N__law_titles : List Str := ["_law_cell", "_law_many"]
theorem nd__law_titles : N__law_titles.Nodup := by decide +kernel
theorem ok__law_titles {P : Program} {w : World} {K : Fg} {mg : Str → Option Value} {base : Heap} (T : Fx K mg) : OkF P w K mg base "_law_titles" 3 (sp2 K m__law_titles) :=
  mkF2 (N := N__law_titles) T.f__law_titles T.g__law_titles ⟨rfl, rfl, rfl, nd__law_titles, rfl, by decide +kernel, by decide +kernel⟩ (fun _ _ _ _ _ _ us hl => match us, hl with | [_, _], _ => rfl) fun cdv A outer s H E hr p0 p1 b hown => by
    unfold m__law_titles
    exact (js_ret (je_call3 (ok__law_names T) (hr.mono (by decide)) pasF (je_var 0 rfl) (je_var 1 rfl) je_str))

abbrev N__law_opens : List Str := ["_law_cell", "_law_many"]
theorem nd__law_opens : N__law_opens.Nodup := by decide +kernel
theorem ok__law_opens {P : Program} {w : World} {K : Fg} {mg : Str → Option Value} {base : Heap} (T : Fx K mg) : OkF P w K mg base "_law_opens" 3 (sp2 K m__law_opens) :=
  mkF2 (N := N__law_opens) T.f__law_opens T.g__law_opens ⟨rfl, rfl, rfl, nd__law_opens, rfl, by decide +kernel, by decide +kernel⟩ (fun _ _ _ _ _ _ us hl => match us, hl with | [_, _], _ => rfl) fun cdv A outer s H E hr p0 p1 b hown => by
    unfold m__law_opens
    exact (js_ret (je_call3 (ok__law_names T) (hr.mono (by decide)) pasF (je_var 0 rfl) (je_var 1 rfl) je_str))

abbrev N__law_words : List Str := ["_law_cell", "_law_many"]
theorem nd__law_words : N__law_words.Nodup := by decide +kernel
theorem ok__law_words {P : Program} {w : World} {K : Fg} {mg : Str → Option Value} {base : Heap} (T : Fx K mg) : OkF P w K mg base "_law_words" 3 (sp2 K m__law_words) :=
  mkF2 (N := N__law_words) T.f__law_words T.g__law_words ⟨rfl, rfl, rfl, nd__law_words, rfl, by decide +kernel, by decide +kernel⟩ (fun _ _ _ _ _ _ us hl => match us, hl with | [_, _], _ => rfl) fun cdv A outer s H E hr p0 p1 b hown => by
    unfold m__law_words
    exact (js_ret (je_call3 (ok__law_names T) (hr.mono (by decide)) pasF (je_var 0 rfl) (je_var 1 rfl) je_str))

abbrev N__law_fact_text : List Str := ["_law_fact"]
theorem nd__law_fact_text : N__law_fact_text.Nodup := by decide +kernel
theorem ok__law_fact_text {P : Program} {w : World} {K : Fg} {mg : Str → Option Value} {base : Heap} (T : Fx K mg) : OkF P w K mg base "_law_fact_text" 1 (sp1 K m__law_fact_text) :=
  mkF1 (N := N__law_fact_text) T.f__law_fact_text T.g__law_fact_text ⟨rfl, rfl, rfl, nd__law_fact_text, rfl, by decide +kernel, by decide +kernel⟩ (fun _ _ _ _ _ _ us hl => match us, hl with | [_], _ => rfl) fun cdv A outer s H E hr p0 b hown => by
    unfold m__law_fact_text
    exact (js_if1 pi_rt (jt_cmp op_eq ro_eqI (je_callB call_len_seq ra_lenU T.n_len bt_len (je_p1 (je_var 0 rfl))) je_int) (js_ret (je_p0 (je_var 0 rfl)))
  (js_ret (je_bin op_add_str ro_addT (je_bin op_add_str ro_addT (je_bin op_add_str ro_addT (je_p0 (je_var 0 rfl)) je_str) (je_m1 PySem.F.slot_str_join PySem.F.type_str_join mt_join rm_joinU je_str (je_p1 (je_var 0 rfl)))) je_str)))

abbrev N__law_pieces : List Str := ["_law_fact", "_law_brackets", "_law_row", "_law_k"]
theorem nd__law_pieces : N__law_pieces.Nodup := by decide +kernel
theorem ok__law_pieces {P : Program} {w : World} {K : Fg} {mg : Str → Option Value} {base : Heap} (T : Fx K mg) : OkF P w K mg base "_law_pieces" 1 (sp2 K m__law_pieces) :=
  mkF2 (N := N__law_pieces) T.f__law_pieces T.g__law_pieces ⟨rfl, rfl, rfl, nd__law_pieces, rfl, by decide +kernel, by decide +kernel⟩ (fun _ _ _ _ _ _ us hl => match us, hl with | [_, _], _ => rfl) fun cdv A outer s H E hr p0 p1 b hown => by
    unfold m__law_pieces
    exact (js_if1 pi_rt (jw_jt (jw_and (jt_cmp op_eq ro_eqI (je_callB call_len_seq ra_lenU T.n_len bt_len (je_p1 (je_var 0 rfl))) je_int) (jw_and1 (jt_not (jt_val (je_var 1 rfl)))))) (js_ret (je_lst (jl_cons (je_p0 (je_var 0 rfl)) jl_nil)))
  (js_cons (j1_setF 2 (jf_lst (jl_cons (je_p0 (je_var 0 rfl)) (jl_cons je_str jl_nil))) nd__law_pieces) fun a13 =>
  (js_cons (j1_forP (Lf := fun (s24 : (List Tx)) => [.im (rp K p0), .im (rp K p1), .mu (ctL K s24), .no]) (ji_range1 T.n_range (je_callB call_len_seq ra_lenU T.n_len bt_len (je_p1 (je_var 0 rfl)))) (jg_name 3 (fun _ => nd__law_pieces)) (Wk.s (Wk.s (Wk.s (Wk.s Wk.nil)))) (fun F29 s24 e25 => (js_cons (j1_if (Lf := fun (s33 : (List Tx)) => [.im (rp K p0), .im (rp K p1), .mu (ctL K s33), .im (rp K e25)]) (jt_cmp op_gt ro_gt (je_var 3 rfl) je_int) (js_cons (j1_append 2 je_str) fun a34 =>
  (js_nilP (Wk.s (Wk.s (Wk.s (Wk.s Wk.nil)))))) (js_nilP (Wk.s (Wk.s (Wk.s (Wk.s Wk.nil)))))) fun s33 =>
  (js_cons (j1_append 2 (je_ix ix_tup ro_ixU (je_p1 (je_var 0 rfl)) (je_var 3 rfl))) fun a37 =>
  (js_nilP (Wk.s (Wk.s (Wk.s (Wk.n Wk.nil)))))))) pasO) fun s24 =>
  (js_cons (j1_append 2 je_str) fun a44 =>
  (js_frz 2 (js_ret (je_var 2 rfl)) hown)))))

abbrev N__law_alike : List Str := ["_law_found", "_law_due"]
theorem nd__law_alike : N__law_alike.Nodup := by decide +kernel
theorem ok__law_alike {P : Program} {w : World} {K : Fg} {mg : Str → Option Value} {base : Heap} (T : Fx K mg) : OkF P w K mg base "_law_alike" 1 (sp2 K m__law_alike) :=
  mkF2 (N := N__law_alike) T.f__law_alike T.g__law_alike ⟨rfl, rfl, rfl, nd__law_alike, rfl, by decide +kernel, by decide +kernel⟩ (fun _ _ _ _ _ _ us hl => match us, hl with | [_, _], _ => rfl) fun cdv A outer s H E hr p0 p1 b hown => by
    unfold m__law_alike
    exact (js_ret (je_and (je_isiB (tn := "tuple") tyx_P (by decide +kernel) T.n_isinstance T.n_tuple bt_tuple (je_var 0 rfl)) (je_and (je_cmp op_eq ro_eqI (je_callB call_len_seq ra_lenP T.n_len bt_len (je_var 0 rfl)) je_int) (je_and (je_isiB (tn := "tuple") tyx_U (by decide +kernel) T.n_isinstance T.n_tuple bt_tuple (je_p1 (je_var 0 rfl))) (je_one (je_cmp (op_eqA (α := (Tx × (Tup Tx))) hr.units) ro_eqA (je_var 0 rfl) (je_var 1 rfl)))))))

abbrev N_law : List Str := ["_law_script", "_law_head", "_law_title", "_law_names_here", "_law_args", "_law_fact", "_law_due", "_law_told", "_law_text", "_law_row", "_law_k"]
theorem nd_law : N_law.Nodup := by decide +kernel
theorem ok_law {P : Program} {w : World} {K : Fg} {mg : Str → Option Value} {base : Heap} (T : Fx K mg) {fd : FuncData} (F : FunD K "law" "law" (defArgs (top 26)) (defBody (top 26)) (defScope (top 26)) [] [] (He.ga K "law") fd) : FnOk P w K mg base (L2.CX P w) 5 (He.ga K "law") fd ["_law_script"] (sp1 K m_law) :=
  mkC1 (N := N_law) F ⟨rfl, rfl, rfl, nd_law, rfl, by decide +kernel, by decide +kernel⟩ fun cdv A outer s H E hr p0 b hown => by
    unfold m_law
    exact (js_cons (j1_set 1 (je_bin op_mod ro_mod (je_call2 (ok__law_cell_at T) (hr.mono (by decide)) pasF (je_var 0 rfl) je_int) je_int) nd_law) fun a1 =>
  (js_cons (j1_set 2 (je_ix ix_list ro_ixL (je_call2 (ok__law_titles T) (hr.mono (by decide)) pasF (je_call2 (ok__law_cell_at T) (hr.mono (by decide)) pasF (je_var 0 rfl) je_int) je_int) (je_bin op_mod ro_mod (je_var 1 rfl) je_int)) nd_law) fun a6 =>
  (js_cons (j1_set 3 (je_bin op_catQ ro_catL (je_call2 (ok__law_opens T) (hr.mono (by decide)) pasF (je_call2 (ok__law_cell_at T) (hr.mono (by decide)) pasF (je_var 0 rfl) je_int) je_int) (je_call2 (ok__law_words T) (hr.mono (by decide)) pasF (je_call2 (ok__law_cell_at T) (hr.mono (by decide)) pasF (je_var 0 rfl) je_int) je_int)) nd_law) fun a15 =>
  (js_cons (j1_setLc 4 (own := [("_law_k", 10)]) (ji_range1 T.n_range (je_bin op_mod ro_mod (je_bin op_fdiv ro_div (je_var 1 rfl) je_int) je_int)) (jg_name 10 (fun _ => nd_law)) (fun _ e32 => (je_ix ix_list ro_ixL (je_var 3 rfl) (je_bin op_mod ro_mod (je_call2 (ok__law_mix T) (hr.mono (by decide)) passL (je_call2 (ok__law_cell_at T) (hr.mono (by decide)) passL (je_var 0 rfl) (je_bin op_add ro_add je_int (je_var 10 rfl))) (je_var 10 rfl)) je_int))) nd_law (blkOk_by (N := N_law) (sc := defScope (top 26)) (by decide +kernel))) fun a26 =>
  (js_frz 4 (js_cons (j1_set 5 (je_pair (je_var 2 rfl) (je_callTy call_tuple_of ra_tupL T.n_tuple bt_tuple (je_var 4 rfl))) nd_law) fun a44 =>
  (js_cons (j1_set 6 (je_call1 (ok__law_fact_text T) (hr.mono (by decide)) pasF (je_var 5 rfl)) nd_law) fun a48 =>
  (js_cons (j1_set 7 (je_call1 (ok_fact_text T) (hr.mono (by decide)) pasF (je_pair (je_var 2 rfl) (je_callTy call_tuple_of ra_tupL T.n_tuple bt_tuple (je_var 4 rfl)))) nd_law) fun a50 =>
  (js_if1 pi_rt (jw_jt (jw_or (jt_not (jt_val (je_isiB (tn := "str") tyx_str (by decide +kernel) T.n_isinstance T.n_str bt_str (je_var 7 rfl)))) (jw_or1 (jt_cmp op_ne ro_neT (je_var 7 rfl) (je_var 6 rfl))))) (js_ret je_bl)
  (js_if1 pi_rt (jt_not (jt_val (je_call2 (ok__law_alike T) (hr.mono (by decide)) pasF (je_call1 (ok_read_fact T) (hr.mono (by decide)) pasF (je_var 6 rfl)) (je_var 5 rfl)))) (js_ret je_bl)
  (js_cons (j1_set 8 je_str nd_law) fun a66 =>
  (js_cons (j1_set 9 (je_call2 (ok__law_pieces T) (hr.mono (by decide)) pasF (je_var 5 rfl) (je_cmp op_eq ro_eqI (je_bin op_mod ro_mod (je_bin op_fdiv ro_div (je_var 1 rfl) je_int) je_int) je_int)) nd_law) fun a67 =>
  (js_cons (j1_forP (Lf := fun (s78 : Tx) => [.im (rp K p0), .im (rp K a1), .im (rp K a6), .im (rp K a15), .im (rp K a26), .im (rp K a44), .im (rp K a48), .im (rp K a50), .im (rp K s78), .im (rp K a67), .no]) (ji_range1 T.n_range (je_callB call_len_seq ra_lenL T.n_len bt_len (je_var 9 rfl))) (jg_name 10 (fun _ => nd_law)) (Wk.s (Wk.s (Wk.s (Wk.s (Wk.s (Wk.s (Wk.s (Wk.s (Wk.s (Wk.s (Wk.s Wk.nil))))))))))) (fun F83 s78 e79 => (js_cons (j1_set 8 (je_bin op_add_str ro_addT (je_bin op_add_str ro_addT (je_var 8 rfl) (je_slS je_str jo_no (jo_at (je_bin op_mod ro_mod (je_call2 (ok__law_mix T) (hr.mono (by decide)) pasF (je_call2 (ok__law_cell_at T) (hr.mono (by decide)) pasF (je_var 0 rfl) (je_bin op_add ro_add je_int (je_var 10 rfl))) (je_var 10 rfl)) je_int)))) (je_ix ix_list ro_ixL (je_var 9 rfl) (je_var 10 rfl))) nd_law) fun a84 =>
  (js_nilP (Wk.s (Wk.s (Wk.s (Wk.s (Wk.s (Wk.s (Wk.s (Wk.s (Wk.s (Wk.s (Wk.n Wk.nil)))))))))))))) pasO) fun s78 =>
  (js_cons (j1_set 8 (je_bin op_add_str ro_addT (je_var 8 rfl) (je_slS je_str jo_no (jo_at (je_bin op_mod ro_mod (je_call2 (ok__law_mix T) (hr.mono (by decide)) pasF (je_call2 (ok__law_cell_at T) (hr.mono (by decide)) pasF (je_var 0 rfl) (je_bin op_add ro_add je_int (je_callB call_len_seq ra_lenL T.n_len bt_len (je_var 9 rfl)))) je_int) je_int)))) nd_law) fun a103 =>
  (js_ret (je_call2 (ok__law_alike T) (hr.mono (by decide)) pasF (je_call1 (ok_read_fact T) (hr.mono (by decide)) pasF (je_var 8 rfl)) (je_var 5 rfl)))))))))))) hown)))))
end Q

set_option Elab.async false
set_option linter.all false
set_option maxRecDepth 100000
set_option maxHeartbeats 2000000
namespace Q
open PySem L2 G TL
theorem tup_b {α β : Type} {x : List α} {f : Tup α → M β} : ((pure x : M (Tup α)) >>= f) = f x := rfl
def small : Tx := tx "abcdefghijklmnopqrstuvwxyz"
def great : Tx := tx "ABCDEFGHIJKLMNOPQRSTUVWXYZ"
def figs : Tx := tx "0123456789"
def alnum : Tx := tx "abcdefghijklmnopqrstuvwxyz0123456789ABCDEFGHIJKLMNOPQRSTUVWXYZ"
def isSign (c : Nat) : Bool := decide (c ∈ small) || decide (c ∈ great) || decide (c ∈ figs)
def isNm (x : Tx) : Bool := decide (1 ≤ x.length) && decide (x.length ≤ 12) && x.all isSign
def sg (p : Nat → Bool) (s : Tx) : Bool := match s with
  | [c] => p c
  | _ => false
theorem any_signs (x : Tx) (p : Nat → Bool) : (signs x).any (sg p) = x.any p := by
  unfold signs
  rw [List.any_map]
  rfl
theorem mem_signs {x s : Tx} (h : s ∈ signs x) : ∃ c, s = [c] ∧ c ∈ x := by
  obtain ⟨c, hc, rfl⟩ := List.mem_map.mp h
  exact ⟨c, rfl, hc⟩
theorem any_not (x : Tx) (p : Nat → Bool) : (x.any fun c => !p c) = !(x.all p) := by
  rw [List.any_eq_not_all_not]
  congr 2
  funext c
  rw [Bool.not_not]
theorem is_name_eq {x : Tx} (hz : x.length ≤ SZ) : m_is_name x = .ok (isNm x) := by
  unfold m_is_name isNm
  simp only [pure_bind, lenT_ok hz]
  by_cases h1 : 1 ≤ x.length
  · by_cases h2 : x.length ≤ 12
    · have i1 : (1 : Int) ≤ (x.length : Int) := by omega
      have i2 : (x.length : Int) ≤ 12 := by omega
      simp only [i1, i2, h1, h2, decide_true, if_true, pure_bind, Bool.not_true, Bool.false_eq_true, if_false, Bool.true_and]
      rw [forT_search (p := sg fun c => !isSign c) (r := false)]
      · rw [any_signs, any_not]
        cases x.all isSign <;> rfl
      · intro s hs
        obtain ⟨c, rfl, _⟩ := mem_signs hs
        simp only [inS_one, pure_bind, sg, isSign, small, great, figs]
        by_cases a1 : c ∈ tx "abcdefghijklmnopqrstuvwxyz" <;> by_cases a2 : c ∈ tx "ABCDEFGHIJKLMNOPQRSTUVWXYZ" <;> by_cases a3 : c ∈ tx "0123456789" <;> simp [a1, a2, a3] <;> rfl
    · have i1 : (1 : Int) ≤ (x.length : Int) := by omega
      have i2 : ¬ (x.length : Int) ≤ 12 := by omega
      simp only [i1, i2, h1, h2, decide_true, decide_false, if_true, pure_bind, Bool.not_false, Bool.true_and, Bool.false_and]
      rfl
  · have i1 : ¬ (1 : Int) ≤ (x.length : Int) := by omega
    simp only [i1, h1, decide_false, Bool.false_eq_true, if_false, pure_bind, Bool.not_false, if_true, Bool.false_and]
    rfl
theorem alnum_mem (c : Nat) : decide (c ∈ alnum) = isSign c := by
  have e : alnum = small ++ (figs ++ great) := by decide +kernel
  unfold isSign
  rw [e]
  by_cases a1 : c ∈ small <;> by_cases a2 : c ∈ great <;> by_cases a3 : c ∈ figs <;> simp [a1, a2, a3]
theorem sign_of_alnum {c : Nat} (h : c ∈ alnum) : isSign c = true := by rw [← alnum_mem]; exact decide_eq_true h
theorem alnum_len : alnum.length = 62 := by decide +kernel
theorem cell_ok (ns : List Int) (i : Int) (h : 0 ≤ i) : Okp (m__law_cell_at ns i) fun _ => True := by
  unfold m__law_cell_at
  simp only [pure_bind]
  by_cases hi : i < (ns.length : Int)
  · simp only [hi, decide_true, if_true]
    obtain ⟨a, e, _⟩ := atL_ok (xs := ns) h hi
    exact ⟨a, e, trivial⟩
  · simp only [hi, decide_false, Bool.false_eq_true, if_false]
    exact ⟨0, rfl, trivial⟩
theorem mix_ok (x k : Int) (h0 : 0 ≤ k) (h1 : k ≤ 1000) : Okp (m__law_mix x k) fun y => 0 ≤ y ∧ y < 999983 := by
  unfold m__law_mix
  simp only [pure_bind, modI_ok (show (0 : Int) < 7 by decide)]
  obtain ⟨a, e, ha⟩ := atL_ok (xs := ([48271, 69621, 16807, 40692, 30269, 62089, 45991] : List Int)) (i := k % 7) (by omega) (by show k % 7 < 7; omega)
  simp only [e, okb, pure_bind, modI_ok (show (0 : Int) < 1000003 by decide)]
  simp only [mulI_l (show (-(2 ^ 64) : Int) < 31 by decide) (show (31 : Int) < 2 ^ 64 by decide), pure_bind, mulI_r (show (-(2 ^ 64) : Int) < a by simp at ha; omega) (show a < (2 ^ 64 : Int) by simp at ha; omega), modI_ok (show (0 : Int) < 999983 by decide)]
  exact ⟨_, rfl, by omega, by omega⟩
theorem joinL_mem (s : Tx) : ∀ (xs : List Tx) {c : Nat}, c ∈ joinL s xs → c ∈ s ∨ ∃ x ∈ xs, c ∈ x
  | [], c, h => by cases h
  | [x], c, h => .inr ⟨x, List.mem_cons_self .., h⟩
  | x :: y :: r, c, h => by
    have e : joinL s (x :: y :: r) = x ++ (s ++ joinL s (y :: r)) := rfl
    rw [e, List.mem_append, List.mem_append] at h
    rcases h with h | h | h
    · exact .inr ⟨x, List.mem_cons_self .., h⟩
    · exact .inl h
    · rcases joinL_mem s (y :: r) h with h | ⟨z, hz, h⟩
      · exact .inl h
      · exact .inr ⟨z, List.mem_cons_of_mem _ hz, h⟩
theorem cut_mem {α : Type} {xs : List α} {lo hi : Option Int} {c : α} (h : c ∈ cut xs lo hi) : c ∈ xs := List.mem_of_mem_drop (List.mem_of_mem_take h)
theorem cutT_ok {x : Tx} {lo hi : Option Int} (h : x.length ≤ SZ) : cutT x lo hi = .ok (cut x lo hi) := by unfold cutT; rw [chk_b h]; rfl
/-- a name of the law's: its first sign from the firsts -/
def Nm (firsts y : Tx) : Prop := ∃ c r, y = c :: r ∧ c ∈ firsts ∧ r.length ≤ 11 ∧ ∀ d ∈ r, isSign d = true
theorem Nm.name {f y : Tx} (hf : ∀ c ∈ f, isSign c = true) (h : Nm f y) : isNm y = true := by
  obtain ⟨c, r, rfl, h1, h2, h3⟩ := h
  unfold isNm
  rw [List.all_cons, hf c h1, List.all_eq_true.mpr h3, List.length_cons, decide_eq_true (by omega), decide_eq_true (by omega)]
  rfl
theorem at_alnum {i : Int} (h0 : 0 ≤ i) (h1 : i < 62) : Okp (atT alnum i) fun y => ∃ c, y = [c] ∧ isSign c = true := by
  obtain ⟨c, e, e2⟩ := atT_ok (x := alnum) (i := i) h0 (by rw [alnum_len]; exact h1) (by rw [alnum_len, SZ_val]; decide)
  exact ⟨[c], e, c, rfl, sign_of_alnum (List.mem_of_getElem? e2)⟩
theorem names_ok (x n : Int) (f : Tx) (h0 : 0 ≤ n) (h1 : n ≤ 1000) (hf : 0 < f.length) (hf2 : f.length ≤ 1000) : Okp (m__law_names x n f) fun xs => xs.length = n.toNat ∧ ∀ y ∈ xs, Nm f y := by
  have hfz : f.length ≤ SZ := by rw [SZ_val]; omega
  have first : ∀ i : Int, 0 ≤ i → i < f.length → Okp (atT f i) fun y => ∃ c, y = [c] ∧ c ∈ f := fun i i0 i1 => by
    obtain ⟨c, e, e2⟩ := atT_ok (x := f) (i := i) i0 i1 hfz
    exact ⟨[c], e, c, rfl, List.mem_of_getElem? e2⟩
  unfold m__law_names
  rw [show tx "abcdefghijklmnopqrstuvwxyz0123456789ABCDEFGHIJKLMNOPQRSTUVWXYZ" = alnum from rfl]
  simp only [pure_bind]
  refine Okp.bind (mix_ok x 0 (by decide) (by decide)) fun a ha => ?_
  simp only [divI_ok (show (0 : Int) < 5 by decide) (show (5 : Int) < 1073741824 by decide), divI_ok (show (0 : Int) < 3 by decide) (show (3 : Int) < 1073741824 by decide), divI_ok (show (0 : Int) < 33 by decide) (show (33 : Int) < 1073741824 by decide), divI_ok (show (0 : Int) < 7 by decide) (show (7 : Int) < 1073741824 by decide),
    lenT_ok hfz, pure_bind, modI_ok (show (0 : Int) < (f.length : Int) by omega), modI_ok (show (0 : Int) < 3 by decide), modI_ok (show (0 : Int) < 12 by decide), modI_ok (show (0 : Int) < 11 by decide), modI_ok (show (0 : Int) < 62 by decide), range1_ok (show -(2 ^ 62) ≤ (11 : Int) by decide) (show (11 : Int) < 2 ^ 62 by decide), okb, range1_ok (show -(2 ^ 62) ≤ n by omega) (show n < 2 ^ 62 by omega)]
  have s0 : 0 ≤ a / 5 % (f.length : Int) := Int.emod_nonneg _ (by omega)
  have s1 : a / 5 % (f.length : Int) < f.length := Int.emod_lt_of_pos _ (by omega)
  refine Okp.bind (P := fun t : Tx => t.length ≤ 11 ∧ ∀ c ∈ t, isSign c = true) ?_ fun t ⟨t1, t2⟩ => ?_
  · refine Okp.bind (lc_ok (Q := fun y : Tx => ∃ c, y = [c] ∧ isSign c = true) (by rw [rangeL_len, SZ_val]; decide) fun e he => ?_) fun ys ⟨hl, hy⟩ => ?_
    · have hb := mem_rangeL he
      rw [divI_ok (show (0 : Int) < e + 1 by omega) (show e + 1 < 1073741824 by omega), pure_bind, mulI_l (show (-(2 ^ 64) : Int) < e by omega) (show e < 2 ^ 64 by omega), pure_bind]
      exact at_alnum (by omega) (by omega)
    · rw [rangeL_len] at hl
      have l1 : ∀ y ∈ ys, y.length ≤ 1 := fun y h => by obtain ⟨c, rfl, _⟩ := hy y h; exact Nat.le_refl _
      have e0 : (tx "").length = 0 := by decide +kernel
      have s2 := sum_le (k := 1) l1
      have s3 := joinL_len (tx "") ys
      rw [e0] at s3
      have hl' : ys.length = 11 := hl
      refine ⟨_, joinM_ok (by rw [e0]; omega), by omega, fun c hc => ?_⟩
      rcases joinL_mem _ _ hc with h | ⟨y, h1, h2⟩
      · exact absurd h (by rw [show tx "" = [] from rfl]; exact List.not_mem_nil)
      · obtain ⟨d, rfl, hd⟩ := hy y h1
        rw [List.mem_singleton.mp h2]; exact hd
  have tz : t.length ≤ SZ := by rw [SZ_val]; omega
  have mk : ∀ (i lo hi : Option Int) (j : Int), 0 ≤ j → j < f.length → Okp (atT f j >>= fun x => cutT t lo hi >>= fun y => addT x y) (fun y => Nm f y) := fun i lo hi j j0 j1 => by
    refine Okp.bind (first j j0 j1) fun y ⟨c, e, hc⟩ => ?_
    subst e
    have hl := cut_len t lo hi
    rw [cutT_ok tz, okb, addT_ok (by show 1 + _ ≤ SZ; rw [SZ_val]; omega)]
    exact ⟨_, rfl, c, cut t lo hi, rfl, hc, by omega, fun d hd => t2 d (cut_mem hd)⟩
  by_cases h3 : a % 3 = 0
  · simp only [h3, decide_true, if_true]
    refine Okp.imp (lc_ok (Q := Nm f) (by rw [rangeL_len, SZ_val]; omega) fun e he => ?_) fun ys ⟨a, b⟩ => ⟨by rw [a, rangeL_len], b⟩
    exact mk none _ _ _ s0 s1
  simp only [h3, decide_false, Bool.false_eq_true, if_false]
  by_cases h4 : a % 3 = 1
  · simp only [h4, decide_true, if_true]
    refine Okp.imp (lc_ok (Q := Nm f) (by rw [rangeL_len, SZ_val]; omega) fun e he => ?_) fun ys ⟨a, b⟩ => ⟨by rw [a, rangeL_len], b⟩
    exact mk none _ _ _ (Int.emod_nonneg _ (by omega)) (Int.emod_lt_of_pos _ (by omega))
  simp only [h4, decide_false, Bool.false_eq_true, if_false, modI_ok (show (0 : Int) < a / 3 % 11 + 1 by omega), pure_bind]
  refine Okp.bind (lc_ok (Q := fun y : Tx => ∃ c, y = [c] ∧ isSign c = true) (by rw [rangeL_len, SZ_val]; omega) fun e he => ?_) fun ys ⟨hl, hy⟩ => ?_
  · exact at_alnum (by omega) (by omega)
  rw [rangeL_len] at hl
  refine Okp.imp (lc_ok (Q := Nm f) (by rw [SZ_val]; omega) fun e he => ?_) fun zs ⟨a, b⟩ => ⟨by rw [a, hl], b⟩
  obtain ⟨d, rfl, hd⟩ := hy e he
  simp only [bind_assoc]
  refine Okp.bind (first _ s0 s1) fun y ⟨c, e, hc⟩ => ?_
  subst e
  have g0 : 0 ≤ a / 33 % (a / 3 % 11 + 1) := Int.emod_nonneg _ (by omega)
  have g1 : a / 33 % (a / 3 % 11 + 1) < a / 3 % 11 + 1 := Int.emod_lt_of_pos _ (by omega)
  have two : ∀ p q : Int, 0 ≤ p → p ≤ q → q ≤ 10 → (cut t none (some p)).length + (cut t (some p) (some q)).length ≤ 10 := fun p q p0 p1 p2 => by
    unfold cut
    rw [List.length_take, List.length_drop, List.length_take, List.length_drop]
    show min (HT.sIx _ _ (some p) - 0) _ + min (HT.sIx _ _ (some q) - HT.sIx _ _ (some p)) _ ≤ 10
    have z : ∀ (d : Nat) (v : Int), 0 ≤ v → HT.sIx t.length d (some v) = min v.toNat t.length := fun d v hv => by
      show (if v < 0 then _ else _) = _
      rw [if_neg (by omega)]
    rw [z _ p p0, z _ q (by omega), z _ p p0]
    omega
  have hl2 := two (a / 33 % (a / 3 % 11 + 1)) (a / 3 % 11) g0 (by omega) (by omega)
  rw [cutT_ok tz, okb, addT_ok (by show 1 + _ ≤ SZ; rw [SZ_val]; omega), pure_bind, addT_ok (by simp only [List.length_append, List.length_cons, List.length_nil]; rw [SZ_val]; omega), pure_bind, cutT_ok tz, okb, addT_ok (by simp only [List.length_append, List.length_cons, List.length_nil]; rw [SZ_val]; omega)]
  refine ⟨_, rfl, c, cut t none (some (a / 33 % (a / 3 % 11 + 1))) ++ [d] ++ cut t (some (a / 33 % (a / 3 % 11 + 1))) (some (a / 3 % 11)), by simp, hc, ?_, fun u hu => ?_⟩
  · simp only [List.length_append, List.length_cons, List.length_nil]; omega
  · simp only [List.mem_append, List.mem_singleton] at hu
    rcases hu with (h | h) | h
    · exact t2 u (cut_mem h)
    · rw [h]; exact hd
    · exact t2 u (cut_mem h)
/-! pieces -/
def marks : Tx := tx "(),;:=-"
def isMark (c : Nat) : Bool := decide (c ∈ marks)
def flush (f : List Tx) (n : Tx) : List Tx := if n = [] then f else f ++ [n]
/-- one sign of a line -/
def stp (f : List Tx) (n : Tx) (c : Nat) : Option (List Tx × Tx) :=
  if isSign c = true then some (f, n ++ [c]) else if isMark c = true then some (flush f n ++ [[c]], []) else if c = 32 then some (flush f n, []) else none
def prun (f : List Tx) (n : Tx) : Tx → Option (List Tx × Tx)
  | [] => some (f, n)
  | c :: r => match stp f n c with
    | some (f', n') => prun f' n' r
    | none => none
def pcs (t : Tx) : Option (List Tx) := (prun [] [] t).map fun s => flush s.1 s.2
theorem flush_len (f : List Tx) (n : Tx) : (flush f n).length ≤ f.length + n.length := by
  unfold flush
  by_cases h : n = []
  · rw [if_pos h]; omega
  · rw [if_neg h, List.length_append, List.length_singleton]
    have : 0 < n.length := List.length_pos_iff.mpr h
    omega
theorem stp_len {f f' : List Tx} {n n' : Tx} {c : Nat} (h : stp f n c = some (f', n')) : f'.length + n'.length ≤ f.length + n.length + 1 := by
  unfold stp at h
  have fl := flush_len f n
  by_cases h1 : isSign c = true
  · rw [if_pos h1] at h; cases h; rw [List.length_append, List.length_singleton]; omega
  · rw [if_neg h1] at h
    by_cases h2 : isMark c = true
    · rw [if_pos h2] at h; cases h; rw [List.length_append, List.length_singleton, List.length_nil]; omega
    · rw [if_neg h2] at h
      by_cases h3 : c = 32
      · rw [if_pos h3] at h; cases h; rw [List.length_nil]; omega
      · rw [if_neg h3] at h; cases h
theorem tx_nil : tx "" = [] := rfl
theorem pieces_eq {t : Tx} (hz : t.length < SZ) : m_pieces t = match pcs t with
    | some xs => .ok xs
    | none => raise "NoLine" := by
  have key : ∀ (r : Tx) (f : List Tx) (n : Tx) (g : List Tx × Tx → Tx → M (Tl (List Tx × Tx) No)), (∀ (f : List Tx) (n : Tx) (c : Nat), f.length + n.length < SZ → g (f, n) [c] = match stp f n c with
      | some s => .ok (.ct s)
      | none => raise "NoLine") → f.length + n.length + r.length < SZ → forB g (f, n) (signs r) = match prun f n r with
      | some s => .ok s
      | none => raise "NoLine" := by
    intro r
    induction r with
    | nil => intro f n g _ _; rfl
    | cons c r ih =>
      intro f n g hg hl
      rw [List.length_cons] at hl
      show (g (f, n) [c] >>= _) = _
      rw [hg f n c (by omega)]
      unfold prun
      cases h : stp f n c with
      | none => rfl
      | some s =>
        obtain ⟨f', n'⟩ := s
        have := stp_len h
        exact ih f' n' g hg (by omega)
  unfold m_pieces
  simp only [pure_bind]
  rw [tx_nil, key t [] [] _ _ (by simpa using hz)]
  · unfold pcs
    cases h : prun [] [] t with
    | none => rfl
    | some s =>
      obtain ⟨f, n⟩ := s
      have hb : f.length + n.length ≤ t.length := by
        have gen : ∀ (r : Tx) (f n f' n'), prun f n r = some (f', n') → f'.length + n'.length ≤ f.length + n.length + r.length := by
          intro r
          induction r with
          | nil => intro f n f' n' h; cases h; simp
          | cons c r ih =>
            intro f n f' n' h
            unfold prun at h
            cases h2 : stp f n c with
            | none => rw [h2] at h; cases h
            | some s =>
              rw [h2] at h
              have := stp_len h2
              have := ih _ _ _ _ h
              rw [List.length_cons]; omega
        have := gen _ _ _ _ _ h
        simpa using this
      simp only [okb, bind_pure, Option.map_some]
      unfold flush
      by_cases hn : n = []
      · subst hn; rfl
      · simp only [hn, decide_false, Bool.not_false, if_true, if_false]
        rw [chk_b (by omega)]
        rfl
  · intro f n c hl
    have fl := flush_len f n
    unfold stp
    simp only [inS_one]
    rw [show tx " " = [32] from rfl]
    show (_ : M _) = _
    by_cases h1 : isSign c = true
    · rw [if_pos h1]
      have : (if decide (c ∈ tx "abcdefghijklmnopqrstuvwxyz") = true then (pure true : M Bool) else pure (decide (c ∈ tx "ABCDEFGHIJKLMNOPQRSTUVWXYZ")) >>= fun c16 => if c16 = true then pure true else pure (decide (c ∈ tx "0123456789"))) = pure true := by
        unfold isSign small great figs at h1
        by_cases a1 : c ∈ tx "abcdefghijklmnopqrstuvwxyz" <;> by_cases a2 : c ∈ tx "ABCDEFGHIJKLMNOPQRSTUVWXYZ" <;> by_cases a3 : c ∈ tx "0123456789" <;> simp [a1, a2, a3] at h1 ⊢
      simp only [pure_bind] at this ⊢
      rw [this, pure_bind, if_pos rfl, addT_ok (by rw [List.length_singleton]; omega)]
      rfl
    · rw [if_neg h1]
      have : (if decide (c ∈ tx "abcdefghijklmnopqrstuvwxyz") = true then (pure true : M Bool) else pure (decide (c ∈ tx "ABCDEFGHIJKLMNOPQRSTUVWXYZ")) >>= fun c16 => if c16 = true then pure true else pure (decide (c ∈ tx "0123456789"))) = pure false := by
        unfold isSign small great figs at h1
        by_cases a1 : c ∈ tx "abcdefghijklmnopqrstuvwxyz" <;> by_cases a2 : c ∈ tx "ABCDEFGHIJKLMNOPQRSTUVWXYZ" <;> by_cases a3 : c ∈ tx "0123456789" <;> simp [a1, a2, a3] at h1 ⊢
      simp only [pure_bind] at this ⊢
      rw [this, pure_bind, if_neg Bool.false_ne_true]
      have fs : (if (!decide (n = ([] : Tx))) = true then (chk (f.length < SZ) >>= fun _u27 => pure n) >>= fun a25 => pure ((f ++ [a25]), ([] : Tx)) else (pure (f, n) : M (List Tx × Tx))) = .ok (flush f n, []) := by
        unfold flush
        by_cases hn : n = []
        · subst hn; rfl
        · simp only [hn, decide_false, Bool.not_false, if_true, if_false]
          rw [chk_b (by omega)]; rfl
      rw [fs, okb]
      show (if isMark c = true then _ else _) = _
      by_cases h2 : isMark c = true
      · rw [if_pos h2, if_pos h2, chk_b (by show (flush f n).length < SZ; omega)]
        rfl
      · rw [if_neg h2, if_neg h2]
        by_cases h3 : c = 32
        · subst h3; rfl
        · have h4 : ¬ ([c] : Tx) = [32] := fun z => h3 (by injection z)
          simp only [h3, h4, decide_false, Bool.not_false, if_true, if_false]

/-! a fact's parse -/
def hd (l : List Tx) : Tx := l.headD []
def isKd (x : Tx) : Bool := isNm x && decide (x.headD 0 ∈ small)
/-- names parted by commas, up to a bracket -/
def pA1 (acc : List Tx) : List Tx → Option (List Tx × List Tx)
  | nm :: sgn :: r => if isNm nm = true then (if sgn = [41] then some (acc ++ [nm], r) else if sgn = [44] then pA1 (acc ++ [nm]) r else none) else none
  | _ => none
def pA (l : List Tx) : Option (List Tx × List Tx) := if hd l = [41] then some ([], l.tail) else pA1 [] l
def pF (l : List Tx) : Option ((Tx × List Tx) × List Tx) :=
  if isKd (hd l) = true then (if hd l.tail = [40] then (pA l.tail.tail).map fun s => ((hd l, s.1), s.2) else some ((hd l, []), l.tail)) else none
def tks (xs : List Tx) : Prop := xs.length < SZ ∧ ∀ x ∈ xs, x.length ≤ SZ
theorem piece_eq {xs : List Tx} {i : Nat} : m_piece_at xs (i : Int) = .ok (hd (xs.drop i)) := by
  unfold m_piece_at hd
  simp only [pure_bind]
  by_cases h : (i : Int) < (xs.length : Int)
  · simp only [h, decide_true, if_true]
    have h' : i < xs.length := by omega
    unfold atL atI
    rw [ixN_nat (by omega) h, Int.toNat_natCast]
    show ofO xs[i]? = _
    rw [List.getElem?_eq_getElem h', List.drop_eq_getElem_cons h']
    rfl
  · simp only [h, decide_false, Bool.false_eq_true, if_false]
    rw [List.drop_eq_nil_of_le (by omega)]
    rfl
theorem hd_len {xs : List Tx} (h : tks xs) (i : Nat) : (hd (xs.drop i)).length ≤ SZ := by
  unfold hd
  cases e : xs.drop i with
  | nil => exact Nat.zero_le _
  | cons a r => exact h.2 a (List.mem_of_mem_drop (i := i) (by rw [e]; exact List.mem_cons_self ..))
theorem is_kind_eq {x : Tx} (hz : x.length ≤ SZ) : m_is_kind x = .ok (isKd x) := by
  unfold m_is_kind isKd
  simp only [pure_bind, is_name_eq hz, okb]
  cases h : isNm x with
  | false => rfl
  | true =>
    match x, h with
    | [], h => exact absurd h (by decide)
    | c :: r, h =>
      obtain ⟨d, e, e2⟩ := atT_ok (x := c :: r) (i := 0) (by decide) (by rw [List.length_cons]; omega) hz
      have : d = c := by simpa using e2.symm
      subst this
      rw [if_pos rfl, e, pure_bind]
      rfl
theorem nil_notNm : isNm [] = false := by decide
theorem tx_close : tx ")" = [41] := rfl
theorem tx_comma : tx "," = [44] := rfl
theorem tx_open : tx "(" = [40] := rfl
theorem hd_tail (l : List Tx) (i : Nat) : hd (l.drop (i + 1)) = hd (l.drop i).tail := by rw [List.tail_drop]
theorem args_loop {xs : List Tx} (hx : tks xs) {mr : Int × List Tx → M (Tup Tx × Int)} : ∀ (fuel i : Nat) (acc : List Tx), acc.length + xs.length < SZ + i → xs.length < fuel + i → i ≤ xs.length → ∀ g : Int × List Tx → M (Tl (Int × List Tx) (Tup Tx × Int)), (∀ (i : Nat) (acc : List Tx), acc.length < SZ → g ((i : Int), acc) =
      if isNm (hd (xs.drop i)) = true then (if hd (xs.drop (i + 1)) = [41] then .ok (.rt (acc ++ [hd (xs.drop i)], ((i + 2 : Nat) : Int))) else if hd (xs.drop (i + 1)) = [44] then .ok (.ct (((i + 2 : Nat) : Int), acc ++ [hd (xs.drop i)])) else raise "NoLine") else raise "NoLine") →
    (whT (fun _ => (pure true : M Bool)) g fuel ((i : Int), acc) >>= thenT mr id) = match pA1 acc (xs.drop i) with
      | some (args, rest) => .ok (args, ((xs.length - rest.length : Nat) : Int))
      | none => raise "NoLine" := by
  intro fuel
  induction fuel with
  | zero => intro i acc h1 h2 h3; omega
  | succ fuel ih =>
    intro i acc h1 h2 h3 g hg
    by_cases hi : i = xs.length
    · subst hi
      unfold whT
      rw [pure_bind, if_pos rfl]
      rw [hg _ acc (by omega), List.drop_length]
      have : isNm (hd []) = false := nil_notNm
      rw [this]
      rfl
    · have hl : acc.length < SZ := by omega
      unfold whT
      rw [pure_bind, if_pos rfl, hg i acc hl]
      have e : xs.drop i = xs[i]'(by omega) :: xs.drop (i + 1) := List.drop_eq_getElem_cons (by omega)
      cases e1 : xs.drop (i + 1) with
      | nil =>
        rw [e, e1]
        show _ = raise "NoLine"
        by_cases hn : isNm (hd [xs[i]'(by omega)]) = true
        · rw [if_pos hn, if_neg (by decide), if_neg (by decide)]; rfl
        · rw [if_neg hn]; rfl
      | cons sgn r =>
        have e2 : xs.drop (i + 2) = r := by rw [← List.drop_drop (i := 1) (j := i + 1), e1]; rfl
        have h5 : i + 2 ≤ xs.length := by
          have := congrArg List.length e1
          rw [List.length_drop, List.length_cons] at this; omega
        rw [e, e1]
        unfold pA1
        show ((if isNm (xs[i]'(by omega)) = true then (if sgn = [41] then _ else if sgn = [44] then _ else _) else _) >>= _) >>= _ = _
        by_cases hn : isNm (xs[i]'(by omega)) = true
        · rw [if_pos hn, if_pos hn]
          by_cases c1 : sgn = [41]
          · rw [if_pos c1, if_pos c1]
            have : xs.length - r.length = i + 2 := by rw [← e2, List.length_drop]; omega
            show Except.ok _ = Except.ok _
            rw [this]
            rfl
          · rw [if_neg c1, if_neg c1]
            by_cases c2 : sgn = [44]
            · rw [if_pos c2, if_pos c2]
              show (whT _ g fuel (((i + 2 : Nat) : Int), acc ++ [xs[i]'(by omega)]) >>= _) = _
              rw [ih (i + 2) (acc ++ [xs[i]'(by omega)]) (by rw [List.length_append, List.length_singleton]; omega) (by omega) h5 g hg, e2]
            · rw [if_neg c2, if_neg c2]; rfl
        · rw [if_neg hn, if_neg hn]; rfl
theorem take_arguments_eq {xs : List Tx} (hx : tks xs) {i : Nat} (hi : i ≤ xs.length) : m_take_arguments xs (i : Int) = match pA (xs.drop i) with
    | some (args, rest) => .ok (args, (((if hd (xs.drop i) = [41] then i + 1 else xs.length - rest.length) : Nat) : Int))
    | none => raise "NoLine" := by
  unfold m_take_arguments pA
  simp only [pure_bind, piece_eq, okb, tx_close, tx_comma]
  by_cases h : hd (xs.drop i) = [41]
  · simp only [h, decide_true, if_true]
    rfl
  · simp only [h, decide_false, Bool.false_eq_true, if_false]
    refine args_loop hx FUEL i [] (by have := hx.1; simp; omega) (by have := hx.1; rw [SZ_val] at this; show _ < 1000000000000 + i; omega) hi _ fun j acc hl => ?_
    have e1 : ((j : Int) + 1) = ((j + 1 : Nat) : Int) := by omega
    have e2 : ((j : Int) + 2) = ((j + 2 : Nat) : Int) := by omega
    simp only [e1, e2, piece_eq, okb, is_name_eq (hd_len hx j)]
    cases isNm (hd (xs.drop j)) with
    | false => rfl
    | true =>
      simp only [Bool.not_true, Bool.false_eq_true, if_false, if_true]
      rw [chk_b hl, pure_bind]
      by_cases c1 : hd (xs.drop (j + 1)) = [41]
      · simp only [c1, decide_true, if_true]; rfl
      · by_cases c2 : hd (xs.drop (j + 1)) = [44]
        · simp only [c2, decide_true, if_true, Bool.not_true]; rfl
        · simp only [c1, c2, decide_false, Bool.false_eq_true, if_false, Bool.not_false, if_true]
          rfl

theorem pA1_len : ∀ (n : Nat) (l : List Tx), l.length ≤ n → ∀ (acc : List Tx) {a r : List Tx}, pA1 acc l = some (a, r) → r.length < l.length := by
  intro n
  induction n with
  | zero =>
    intro l hl acc a r h
    match l, hl with
    | [], _ => simp [pA1] at h
  | succ n ih =>
    intro l hl acc a r h
    match l with
    | [] => simp [pA1] at h
    | [x] => simp [pA1] at h
    | x :: y :: t =>
      unfold pA1 at h
      by_cases h1 : isNm x = true
      · rw [if_pos h1] at h
        by_cases h2 : y = [41]
        · rw [if_pos h2] at h; cases h; rw [List.length_cons, List.length_cons]; omega
        · rw [if_neg h2] at h
          by_cases h3 : y = [44]
          · rw [if_pos h3] at h
            have := ih t (by rw [List.length_cons, List.length_cons] at hl; omega) _ h
            rw [List.length_cons, List.length_cons]; omega
          · rw [if_neg h3] at h; cases h
      · rw [if_neg h1] at h; cases h
theorem pA_len {l a r : List Tx} (h : pA l = some (a, r)) : r.length < l.length := by
  unfold pA at h
  by_cases h1 : hd l = [41]
  · rw [if_pos h1] at h; cases h
    match l, h1 with
    | [], h1 => cases h1
    | _ :: t, _ => rw [List.tail_cons, List.length_cons]; omega
  · rw [if_neg h1] at h
    exact pA1_len _ l (Nat.le_refl _) [] h
theorem pF_len {l : List Tx} {f : Tx × List Tx} {r : List Tx} (h : pF l = some (f, r)) : r.length < l.length := by
  unfold pF at h
  by_cases h1 : isKd (hd l) = true
  · rw [if_pos h1] at h
    match l, h1 with
    | [], h1 => exact absurd h1 (by decide)
    | x :: t, _ =>
      by_cases h2 : hd (x :: t).tail = [40]
      · rw [if_pos h2] at h
        cases e : pA (x :: t).tail.tail with
        | none => rw [e] at h; cases h
        | some s =>
          rw [e] at h
          obtain ⟨a, r'⟩ := s
          cases h
          have this : r'.length < _ := pA_len e
          rw [List.tail_cons, List.length_tail] at this
          show r'.length < _
          rw [List.length_cons]; omega
      · rw [if_neg h2] at h; cases h
        rw [List.tail_cons, List.length_cons]; omega
  · rw [if_neg h1] at h; cases h
theorem tail_drop' (l : List Tx) (i : Nat) : (l.drop i).tail = l.drop (i + 1) := List.tail_drop
theorem pA_at {xs : List Tx} {i : Nat} {a r : List Tx} (h : pA (xs.drop i) = some (a, r)) : (if hd (xs.drop i) = [41] then i + 1 else xs.length - r.length) = xs.length - r.length := by
  by_cases h1 : hd (xs.drop i) = [41]
  · rw [if_pos h1]
    unfold pA at h
    rw [if_pos h1] at h
    cases h
    rw [tail_drop', List.length_drop]
    have : i < xs.length := by
      rcases Nat.lt_or_ge i xs.length with z | z
      · exact z
      · rw [List.drop_eq_nil_of_le z] at h1; cases h1
    omega
  · rw [if_neg h1]
theorem take_fact_eq {xs : List Tx} (hx : tks xs) {i : Nat} (hi : i ≤ xs.length) : m_take_fact xs (i : Int) = match pF (xs.drop i) with
    | some (f, rest) => .ok ((f.1, f.2), ((xs.length - rest.length : Nat) : Int))
    | none => raise "NoLine" := by
  unfold m_take_fact pF
  have e1 : ((i : Int) + 1) = ((i + 1 : Nat) : Int) := by omega
  have e2 : ((i : Int) + 2) = ((i + 2 : Nat) : Int) := by omega
  simp only [pure_bind, piece_eq, okb, tx_open, e1, e2, is_kind_eq (hd_len hx i), tail_drop']
  cases hk : isKd (hd (xs.drop i)) with
  | false => rfl
  | true =>
    have il : i < xs.length := by
      rcases Nat.lt_or_ge i xs.length with z | z
      · exact z
      · rw [List.drop_eq_nil_of_le z] at hk; exact absurd hk (by decide)
    simp only [Bool.not_true, Bool.false_eq_true, if_false, if_true]
    by_cases h2 : hd (xs.drop (i + 1)) = [40]
    · have il2 : i + 1 < xs.length := by
        rcases Nat.lt_or_ge (i + 1) xs.length with z | z
        · exact z
        · rw [List.drop_eq_nil_of_le z] at h2; cases h2
      simp only [h2, decide_true, Bool.not_true, Bool.false_eq_true, if_false, if_true]
      rw [take_arguments_eq hx (by omega)]
      rw [show i + 1 + 1 = i + 2 from rfl]
      cases e : pA (xs.drop (i + 2)) with
      | none => rfl
      | some s =>
        obtain ⟨a, r⟩ := s
        simp only [Option.map_some, okb]
        rw [pA_at e]
        rfl
    · simp only [h2, decide_false, Bool.not_false, if_true, if_false]
      rw [List.length_drop]
      have : xs.length - (xs.length - (i + 1)) = i + 1 := by omega
      rw [this]
      rfl
/-! text put together from tokens -/
def sp (s : Tx) : Prop := ∀ c ∈ s, c = 32
def nmT (x : Tx) : Prop := x ≠ [] ∧ ∀ c ∈ x, isSign c = true
def mkT (x : Tx) : Prop := ∃ c, x = [c] ∧ isMark c = true ∧ isSign c = false
def alt : Bool → List Tx → Prop
  | _, [] => True
  | b, x :: r => (b = false ∧ nmT x ∧ alt true r) ∨ (mkT x ∧ alt false r)
def weave : List (Tx × Tx) → Tx
  | [] => []
  | (s, t) :: r => s ++ (t ++ weave r)
theorem run_cons (f : List Tx) (n : Tx) (c : Nat) (r : Tx) : prun f n (c :: r) = (stp f n c).bind fun s => prun s.1 s.2 r := by
  show (match stp f n c with
    | some (f', n') => prun f' n' r
    | none => none) = _
  cases stp f n c <;> rfl
theorem run_app (a b : Tx) : ∀ (f : List Tx) (n : Tx), prun f n (a ++ b) = (prun f n a).bind fun s => prun s.1 s.2 b := by
  induction a with
  | nil => intro f n; rfl
  | cons c a ih =>
    intro f n
    rw [List.cons_append, run_cons, run_cons]
    cases stp f n c with
    | none => rfl
    | some s => exact ih s.1 s.2
theorem sp_notSign : isSign 32 = false := by decide +kernel
theorem sp_notMark : isMark 32 = false := by decide +kernel
theorem flush_nil (f : List Tx) : flush f [] = f := rfl
theorem run_sp {s : Tx} (hs : sp s) : ∀ (f : List Tx) (n : Tx), ∃ f' n', prun f n s = some (f', n') ∧ flush f' n' = flush f n ∧ (n = [] → n' = []) := by
  induction s with
  | nil => intro f n; exact ⟨f, n, rfl, rfl, fun h => h⟩
  | cons c s ih =>
    intro f n
    have hc := hs c (List.mem_cons_self ..)
    subst hc
    obtain ⟨f', n', e, e2, e3⟩ := ih (fun c h => hs c (List.mem_cons_of_mem _ h)) (flush f n) []
    refine ⟨f', n', ?_, ?_, fun _ => e3 rfl⟩
    · unfold prun stp
      rw [sp_notSign, sp_notMark]
      exact e
    · rw [e2]; rfl
theorem run_nm {x : Tx} (h : ∀ c ∈ x, isSign c = true) : ∀ (f : List Tx) (n : Tx), prun f n x = some (f, n ++ x) := by
  induction x with
  | nil => intro f n; rw [List.append_nil]; rfl
  | cons c x ih =>
    intro f n
    unfold prun stp
    rw [if_pos (h c (List.mem_cons_self ..))]
    show prun f (n ++ [c]) x = _
    rw [ih (fun c hc => h c (List.mem_cons_of_mem _ hc)), List.append_assoc]
    rfl
theorem run_weave : ∀ (ps : List (Tx × Tx)) (b : Bool) (f : List Tx) (n : Tx), (∀ p ∈ ps, sp p.1) → alt b (ps.map (·.2)) → (n ≠ [] → b = true) → ∃ f' n', prun f n (weave ps) = some (f', n') ∧ flush f' n' = flush f n ++ ps.map (·.2)
  | [], b, f, n, _, _, _ => ⟨f, n, rfl, by simp⟩
  | (s, t) :: r, b, f, n, hs, ha, hn => by
    obtain ⟨f1, n1, e1, e2, e3⟩ := run_sp (hs (s, t) (List.mem_cons_self ..)) f n
    have hs' : ∀ p ∈ r, sp p.1 := fun p hp => hs p (List.mem_cons_of_mem _ hp)
    unfold weave
    rw [run_app, e1, Option.bind_some, run_app]
    rcases ha with ⟨hb, ht, hr⟩ | ⟨⟨c, rfl, hc, hc2⟩, hr⟩
    · have n0 : n = [] := Classical.byContradiction fun z => by rw [hb] at hn; exact Bool.false_ne_true (hn z)
      have n1' := e3 n0
      subst n1'
      rw [run_nm ht.2, Option.bind_some]
      obtain ⟨f', n', g1, g2⟩ := run_weave r true f1 ([] ++ t) hs' hr (fun _ => rfl)
      refine ⟨f', n', g1, ?_⟩
      rw [g2, List.nil_append]
      unfold flush
      rw [if_neg ht.1]
      have : f1 = flush f n := by rw [← e2]; rfl
      rw [this, List.append_assoc]
      rfl
    · have : prun f1 n1 [c] = some (flush f1 n1 ++ [[c]], []) := by
        unfold prun stp
        rw [hc2, hc]
        rfl
      rw [this, Option.bind_some]
      obtain ⟨f', n', g1, g2⟩ := run_weave r false (flush f1 n1 ++ [[c]]) [] hs' hr (fun z => absurd rfl z)
      refine ⟨f', n', g1, ?_⟩
      rw [g2, flush_nil, e2, List.append_assoc]
      rfl
theorem pcs_weave {ps : List (Tx × Tx)} {s : Tx} (hs : ∀ p ∈ ps, sp p.1) (ha : alt false (ps.map (·.2))) (hs2 : sp s) : pcs (weave ps ++ s) = some (ps.map (·.2)) := by
  obtain ⟨f, n, e1, e2⟩ := run_weave ps false [] [] hs ha (fun z => absurd rfl z)
  obtain ⟨f', n', e3, e4, _⟩ := run_sp hs2 f n
  unfold pcs
  rw [run_app, e1, Option.bind_some, e3, Option.map_some, e4, e2]
  rfl
theorem weave_app : ∀ (a b : List (Tx × Tx)), weave (a ++ b) = weave a ++ weave b
  | [], b => rfl
  | (s, t) :: r, b => by
    show s ++ (t ++ weave (r ++ b)) = (s ++ (t ++ weave r)) ++ weave b
    rw [weave_app r b, List.append_assoc, List.append_assoc]
/-- no blanks between -/
theorem pcs_flat {xs : List Tx} (ha : alt false xs) : pcs xs.flatten = some xs := by
  have e : ∀ ys : List Tx, weave (ys.map fun t => ([], t)) = ys.flatten := by
    intro ys
    induction ys with
    | nil => rfl
    | cons y ys ih => show [] ++ (y ++ weave _) = _; rw [ih]; rfl
  have m : (xs.map fun t : Tx => (([] : Tx), t)).map (·.2) = xs := by rw [List.map_map]; exact List.map_id' xs
  have := pcs_weave (ps := xs.map fun t => ([], t)) (s := []) (fun p hp => by
    obtain ⟨t, _, rfl⟩ := List.mem_map.mp hp
    intro c hc; cases hc) (by rw [m]; exact ha) (fun c hc => by cases hc)
  rw [m, List.append_nil, e] at this
  exact this
/-- names, parted by commas -/
def commas : List Tx → List Tx
  | [] => []
  | a :: r => a :: r.flatMap fun x => [[44], x]
theorem commas_snoc (xs : List Tx) (y : Tx) : commas (xs ++ [y]) = commas xs ++ (if xs = [] then [y] else [[44], y]) := by
  cases xs with
  | nil => rfl
  | cons a r =>
    rw [if_neg (fun z => by cases z)]
    show a :: ((r ++ [y]).flatMap fun x => [[44], x]) = (a :: r.flatMap fun x => [[44], x]) ++ [[44], y]
    rw [List.flatMap_append]
    rfl
theorem commas_join : ∀ (a : Tx) (r : List Tx), joinL [44] (a :: r) = (commas (a :: r)).flatten
  | a, [] => by show a = (a :: []).flatten; simp
  | a, b :: r => by
    have ih := commas_join b r
    have e : joinL [44] (a :: b :: r) = a ++ ([44] ++ joinL [44] (b :: r)) := rfl
    rw [e, ih]
    show _ = (a :: [44] :: b :: r.flatMap fun x => [[44], x]).flatten
    rw [List.flatten_cons, List.flatten_cons]
    rfl
/-- a fact's tokens -/
def toks (t : Tx) (args : List Tx) (br : Bool) : List Tx := if args = [] ∧ br = false then [t] else t :: [40] :: (commas args ++ [[41]])
theorem nmT_of {x : Tx} (h : isNm x = true) : nmT x := by
  unfold isNm at h
  simp only [Bool.and_eq_true, decide_eq_true_eq, List.all_eq_true] at h
  refine ⟨fun z => ?_, h.2⟩
  rw [z] at h
  exact absurd h.1.1 (by decide)
theorem mk_close : mkT [41] := ⟨41, rfl, by decide +kernel, by decide +kernel⟩
theorem mk_open : mkT [40] := ⟨40, rfl, by decide +kernel, by decide +kernel⟩
theorem mk_comma : mkT [44] := ⟨44, rfl, by decide +kernel, by decide +kernel⟩
theorem alt_commas {k : List Tx} (hk : ∀ b, alt b ([41] :: k)) : ∀ (r : List Tx) (a : Tx), nmT a → (∀ x ∈ r, nmT x) → alt false (commas (a :: r) ++ ([41] :: k))
  | [], a, ha, _ => .inl ⟨rfl, ha, hk true⟩
  | b :: r, a, ha, hr => .inl ⟨rfl, ha, .inr ⟨mk_comma, alt_commas hk r b (hr b (List.mem_cons_self ..)) fun x hx => hr x (List.mem_cons_of_mem _ hx)⟩⟩
theorem alt_close {k : List Tx} (h : alt false k) (b : Bool) : alt b ([41] :: k) := .inr ⟨mk_close, h⟩
theorem alt_toks {t : Tx} {args : List Tx} {br : Bool} (ht : nmT t) (ha : ∀ x ∈ args, nmT x) : alt false (toks t args br) := by
  unfold toks
  by_cases h : args = [] ∧ br = false
  · rw [if_pos h]; exact .inl ⟨rfl, ht, trivial⟩
  · rw [if_neg h]
    refine .inl ⟨rfl, ht, .inr ⟨mk_open, ?_⟩⟩
    match args, ha with
    | [], _ => exact alt_close (show alt false [] from trivial) false
    | a :: r, ha => exact alt_commas (alt_close (show alt false [] from trivial)) r a (ha a (List.mem_cons_self ..)) fun x hx => ha x (List.mem_cons_of_mem _ hx)
theorem isNm_ne {x : Tx} {c : Nat} (h : isNm x = true) (hc : isSign c = false) : x ≠ [c] := fun z => by
  have := (nmT_of h).2 c (by rw [z]; exact List.mem_cons_self ..)
  rw [hc] at this; cases this
theorem pA1_commas {k : List Tx} : ∀ (r : List Tx) (a : Tx) (acc : List Tx), isNm a = true → (∀ x ∈ r, isNm x = true) → pA1 acc (commas (a :: r) ++ ([41] :: k)) = some (acc ++ a :: r, k)
  | [], a, acc, ha, _ => by
    show pA1 acc (a :: [41] :: k) = _
    unfold pA1
    rw [if_pos ha, if_pos rfl]
  | b :: r, a, acc, ha, hr => by
    show pA1 acc (a :: [44] :: (commas (b :: r) ++ ([41] :: k))) = _
    unfold pA1
    rw [if_pos ha, if_neg (by decide), if_pos rfl, pA1_commas r b (acc ++ [a]) (hr b (List.mem_cons_self ..)) fun x hx => hr x (List.mem_cons_of_mem _ hx), List.append_assoc]
    rfl
theorem pF_toks {t : Tx} {args : List Tx} {br : Bool} {k : List Tx} (hk : hd k ≠ [40]) (ht : isKd t = true) (ha : ∀ x ∈ args, isNm x = true) : pF (toks t args br ++ k) = some ((t, args), k) := by
  unfold toks
  by_cases h : args = [] ∧ br = false
  · rw [if_pos h, h.1]
    show pF (t :: k) = _
    unfold pF
    rw [if_pos (show isKd (hd (t :: k)) = true from ht), if_neg (show ¬ hd (t :: k).tail = [40] from hk)]
    rfl
  · rw [if_neg h]
    show pF (t :: [40] :: (commas args ++ [[41]] ++ k)) = _
    unfold pF
    rw [if_pos (show isKd (hd (t :: _)) = true from ht), if_pos (show hd (t :: [40] :: _).tail = [40] from rfl)]
    show (pA (commas args ++ [[41]] ++ k)).map _ = _
    rw [List.append_assoc]
    show (pA (commas args ++ ([41] :: k))).map _ = _
    match args, ha with
    | [], _ => rfl
    | a :: r, ha =>
      have h1 := ha a (List.mem_cons_self ..)
      unfold pA
      rw [if_neg (show ¬ hd (commas (a :: r) ++ ([41] :: k)) = [41] from isNm_ne h1 (by decide +kernel)), pA1_commas r a [] h1 fun x hx => ha x (List.mem_cons_of_mem _ hx)]
      rfl
/-- a fact's text -/
def ftext (t : Tx) (args : List Tx) : Tx := if args = [] then t else t ++ [40] ++ joinL [44] args ++ [41]
theorem ftext_flat (t : Tx) (args : List Tx) : ftext t args = (toks t args false).flatten := by
  unfold ftext toks
  match args with
  | [] => simp
  | a :: r =>
    rw [if_neg (fun z => by cases z), if_neg (fun z => by cases z.1), commas_join]
    simp
theorem commas_len : ∀ xs : List Tx, (commas xs).length ≤ 2 * xs.length
  | [] => Nat.le_refl _
  | a :: r => by
    have : (r.flatMap fun x => [[44], x]).length = 2 * r.length := by
      induction r with
      | nil => rfl
      | cons x r ih => simp only [List.flatMap_cons, List.length_append, ih, List.length_cons, List.length_nil]; omega
    show (r.flatMap fun x => [[44], x]).length + 1 ≤ _
    rw [this, List.length_cons]; omega
theorem commas_mem {P : Tx → Prop} (hc : P [44]) : ∀ {xs : List Tx}, (∀ x ∈ xs, P x) → ∀ x ∈ commas xs, P x
  | [], _, x, hx => by cases hx
  | a :: r, h, x, hx => by
    rcases List.mem_cons.mp hx with e | hx
    · rw [e]; exact h a (List.mem_cons_self ..)
    · obtain ⟨y, hy, hx⟩ := List.mem_flatMap.mp hx
      rcases List.mem_cons.mp hx with e | hx
      · rw [e]; exact hc
      · rw [List.mem_singleton.mp hx]; exact h y (List.mem_cons_of_mem _ hy)
theorem toks_mem {P : Tx → Prop} {t : Tx} {args : List Tx} {br : Bool} (h1 : P t) (h2 : P [40]) (h3 : P [41]) (h4 : P [44]) (ha : ∀ x ∈ args, P x) : ∀ x ∈ toks t args br, P x := by
  intro x hx
  unfold toks at hx
  by_cases h : args = [] ∧ br = false
  · rw [if_pos h] at hx; rw [List.mem_singleton.mp hx]; exact h1
  · rw [if_neg h] at hx
    rcases List.mem_cons.mp hx with e | hx
    · rw [e]; exact h1
    · rcases List.mem_cons.mp hx with e | hx
      · rw [e]; exact h2
      · rcases List.mem_append.mp hx with hx | hx
        · exact commas_mem h4 ha x hx
        · rw [List.mem_singleton.mp hx]; exact h3
theorem toks_len (t : Tx) (args : List Tx) (br : Bool) : (toks t args br).length ≤ 2 * args.length + 3 := by
  unfold toks
  by_cases h : args = [] ∧ br = false
  · rw [if_pos h, List.length_singleton]; omega
  · rw [if_neg h, List.length_cons, List.length_cons, List.length_append, List.length_singleton]
    have := commas_len args
    omega
theorem isNm_len {x : Tx} (h : isNm x = true) : x.length ≤ 12 := by
  unfold isNm at h
  simp only [Bool.and_eq_true, decide_eq_true_eq] at h
  exact h.1.2
theorem isKd_nm {x : Tx} (h : isKd x = true) : isNm x = true := by
  unfold isKd at h
  simp only [Bool.and_eq_true] at h
  exact h.1
theorem flatten_len {n : Nat} : ∀ {xs : List Tx}, (∀ x ∈ xs, x.length ≤ n) → xs.flatten.length ≤ n * xs.length
  | [], _ => Nat.zero_le _
  | x :: xs, h => by
    have := flatten_len (xs := xs) fun y hy => h y (List.mem_cons_of_mem _ hy)
    have := h x (List.mem_cons_self ..)
    rw [List.flatten_cons, List.length_append, List.length_cons, Nat.mul_add]; omega
theorem forP_inv {S : Type} {f : S → Int → M S} (I : Nat → S → Prop) : ∀ (n lo : Nat) (s : S), (∀ (k : Nat) (s : S), lo ≤ k → k < lo + n → I k s → Okp (f s (k : Int)) (I (k + 1))) → I lo s → Okp (forP f s (rangeL (lo : Int) n)) (I (lo + n))
  | 0, lo, s, _, h => ⟨s, rfl, h⟩
  | n + 1, lo, s, hf, h => by
    have e : rangeL (lo : Int) (n + 1) = (lo : Int) :: rangeL ((lo + 1 : Nat) : Int) n := by
      unfold rangeL
      rw [List.range_succ_eq_map, List.map_cons, List.map_map]
      refine congr (congrArg _ (by simp)) (List.map_congr_left fun i _ => ?_)
      show (lo : Int) + ((i + 1 : Nat) : Int) = ((lo + 1 : Nat) : Int) + (i : Int)
      omega
    rw [e]
    refine Okp.bind (hf lo s (Nat.le_refl _) (by omega) h) fun s' h' => ?_
    have := forP_inv I n (lo + 1) s' (fun k s h1 h2 => hf k s (by omega) (by omega)) h'
    rw [show lo + 1 + n = lo + (n + 1) by omega] at this
    exact this
theorem small_sign : ∀ c ∈ small, isSign c = true := by decide +kernel
theorem great_sign : ∀ c ∈ great, isSign c = true := by decide +kernel
theorem words_sign : ∀ c ∈ tx "abcdefghijklmnopqrstuvwxyz0123456789", isSign c = true := by decide +kernel
theorem Nm.kind {y : Tx} (h : Nm small y) : isKd y = true := by
  unfold isKd
  rw [h.name small_sign]
  obtain ⟨c, r, rfl, hc, _⟩ := h
  exact decide_eq_true hc
theorem ftext_len {t : Tx} {args : List Tx} (ht : t.length ≤ 12) (ha : ∀ x ∈ args, x.length ≤ 12) (hl : args.length ≤ 100) : (ftext t args).length ≤ 3000 := by
  rw [ftext_flat]
  have := flatten_len (n := 12) (toks_mem (P := fun x => x.length ≤ 12) (br := false) ht (by decide) (by decide) (by decide) ha)
  have := toks_len t args false
  omega
theorem join_bound {args : List Tx} (ha : ∀ x ∈ args, x.length ≤ 12) (hl : args.length ≤ 100) : (args.map (·.length)).sum + args.length * ([44] : Tx).length ≤ 1300 := by
  have := sum_le ha
  rw [List.length_singleton]
  omega
theorem fact_text_core {t : Tx} {args : List Tx} (ht : t.length ≤ 12) (ha : ∀ x ∈ args, x.length ≤ 12) (hl : args.length ≤ 100) :
    (if decide ((args.length : Int) = 0) = true then (pure t : M Tx) else ((addT t [40] >>= fun x => joinM [44] args >>= fun y => addT x y) >>= fun x => addT x [41])) = .ok (ftext t args) := by
  have j1 := join_bound ha hl
  have j2 := joinL_len [44] args
  unfold ftext
  by_cases h : args = []
  · subst h; rfl
  · have h0 : ¬ ((args.length : Int) = 0) := fun z => h (List.length_eq_zero_iff.mp (by omega))
    rw [decide_eq_false h0, if_neg Bool.false_ne_true, if_neg h, addT_ok (by rw [SZ_val, List.length_singleton]; omega), pure_bind, joinM_ok (by omega), okb,
      addT_ok (by rw [SZ_val, List.length_append, List.length_singleton]; omega), pure_bind, addT_ok (by rw [SZ_val, List.length_append, List.length_append, List.length_singleton, List.length_singleton]; omega)]
    rfl
theorem fact_text_eq {t : Tx} {args : List Tx} (ht : t.length ≤ 12) (ha : ∀ x ∈ args, x.length ≤ 12) (hl : args.length ≤ 100) : m_fact_text (t, args) = .ok (ftext t args) := by
  rw [← fact_text_core ht ha hl]
  unfold m_fact_text
  simp only [pure_bind, tup_b, tx_open, tx_close, tx_comma, bind_assoc]
theorem law_fact_text_eq {t : Tx} {args : List Tx} (ht : t.length ≤ 12) (ha : ∀ x ∈ args, x.length ≤ 12) (hl : args.length ≤ 100) : m__law_fact_text (t, args) = .ok (ftext t args) := by
  rw [← fact_text_core ht ha hl]
  unfold m__law_fact_text
  simp only [pure_bind, tup_b, tx_open, tx_close, tx_comma, bind_assoc]
theorem read_fact_eq {x t : Tx} {args : List Tx} {br : Bool} (hz : x.length < SZ) (hp : pcs x = some (toks t args br)) (ht : isKd t = true) (ha : ∀ x ∈ args, isNm x = true) (hl : args.length ≤ 100) : m_read_fact x = .ok (t, args) := by
  unfold m_read_fact
  have e := toks_len t args br
  have tk : tks (toks t args br) := ⟨by rw [SZ_val]; omega, toks_mem (P := fun x => x.length ≤ SZ) (by have := isNm_len (isKd_nm ht); rw [SZ_val]; omega) (by rw [SZ_val]; decide) (by rw [SZ_val]; decide) (by rw [SZ_val]; decide) fun x hx => by have := isNm_len (ha x hx); rw [SZ_val]; omega⟩
  have g := take_fact_eq tk (i := 0) (Nat.zero_le _)
  have p := pF_toks (br := br) (k := []) (by decide) ht ha
  rw [List.append_nil] at p
  rw [List.drop_zero, p] at g
  have g' : m_take_fact (toks t args br) 0 = .ok ((t, args), ((toks t args br).length : Int)) := g
  simp only [pure_bind, pieces_eq hz, hp, okb, g', decide_true, Bool.not_true, Bool.false_eq_true, if_false]
  rfl
theorem alike_eq {x : Tx × Tup Tx} : m__law_alike x x = .ok true := by
  unfold m__law_alike
  simp only [pure_bind, if_true, decide_true]
  rfl
theorem pieces_row {t : Tx} {args : List Tx} {br : Bool} (hl : args.length ≤ 100) : m__law_pieces (t, args) br = .ok (toks t args br) := by
  unfold m__law_pieces toks
  simp only [pure_bind, tx_open, tx_close, tx_comma]
  have e0 : decide ((args.length : Int) = 0) = decide (args = []) := by
    by_cases h : args = []
    · subst h; rfl
    · rw [decide_eq_false h, decide_eq_false fun z => h (List.length_eq_zero_iff.mp (by omega))]
  show (if decide ((args.length : Int) = 0) = true then pure (!br) else pure false) >>= _ = _
  rw [e0]
  have main : (range1 (args.length : Int) >>= fun l26 => forP (fun (s24 : List Tx) (e25 : Int) => (if decide (0 < e25) = true then chk (s24.length < SZ) >>= fun _u36 => pure ([44] : Tx) else pure []) >>= fun _ => (pure s24 : M (List Tx))) [] l26) = (range1 (args.length : Int) >>= fun l26 => forP (fun (s24 : List Tx) (e25 : Int) => (if decide (0 < e25) = true then chk (s24.length < SZ) >>= fun _u36 => pure ([44] : Tx) else pure []) >>= fun _ => (pure s24 : M (List Tx))) [] l26) := rfl
  have loop : Okp (forP (fun (s24 : List Tx) (e25 : Int) => (if decide (0 < e25) = true then (chk (s24.length < SZ) >>= fun _u36 => pure ([44] : Tx)) >>= fun a34 => (pure (s24 ++ [a34]) : M (List Tx)) else (pure s24 : M (List Tx))) >>= fun s33 => (atL (α := Tx) args e25 >>= fun a42 => chk (s33.length < SZ) >>= fun _u43 => pure a42) >>= fun a37 => (pure (s33 ++ [a37]) : M (List Tx))) [t, [40]] (rangeL ((0 : Nat) : Int) args.length))
      fun s => s = t :: [40] :: commas (args.take (0 + args.length)) := by
    refine forP_inv (fun k s => s = t :: [40] :: commas (args.take k)) args.length 0 _ (fun k s _ h1 hs => ?_) rfl
    subst hs
    have hk : k < args.length := by omega
    have cl := commas_len (args.take k)
    rw [List.length_take] at cl
    have l0 : (t :: [40] :: commas (args.take k)).length ≤ 300 := by rw [List.length_cons, List.length_cons]; omega
    have at1 : atL args (k : Int) = .ok args[k] := by
      unfold atL atI
      rw [ixN_nat (by omega) (by omega), Int.toNat_natCast]
      show ofO args[k]? = _
      rw [List.getElem?_eq_getElem hk]
      rfl
    have st : commas (args.take (k + 1)) = commas (args.take k) ++ (if args.take k = [] then [args[k]] else [[44], args[k]]) := by
      rw [List.take_succ_eq_append_getElem hk, commas_snoc]
    show Okp _ fun s => s = t :: [40] :: commas (args.take (k + 1))
    rw [st]
    by_cases h0 : k = 0
    · subst h0
      rw [decide_eq_false (by decide), if_neg Bool.false_ne_true, pure_bind, at1, okb, chk_b (by rw [SZ_val]; omega)]
      exact ⟨_, rfl, rfl⟩
    · have hn : ¬ args.take k = [] := fun z => by
        have := congrArg List.length z
        rw [List.length_take, List.length_nil] at this; omega
      rw [decide_eq_true (by omega), if_pos rfl, chk_b (by rw [SZ_val]; omega), if_neg hn, pure_bind, pure_bind, at1, okb, chk_b (by rw [SZ_val, List.length_append, List.length_singleton]; omega)]
      exact ⟨_, rfl, by simp⟩
  have rest : br = true ∨ args ≠ [] → (range1 (args.length : Int) >>= fun l26 => forP (fun (s24 : List Tx) (e25 : Int) => (if decide (0 < e25) = true then (chk (s24.length < SZ) >>= fun _u36 => pure ([44] : Tx)) >>= fun a34 => (pure (s24 ++ [a34]) : M (List Tx)) else (pure s24 : M (List Tx))) >>= fun s33 => (atL (α := Tx) args e25 >>= fun a42 => chk (s33.length < SZ) >>= fun _u43 => pure a42) >>= fun a37 => (pure (s33 ++ [a37]) : M (List Tx))) [t, [40]] l26) >>= (fun s24 => (chk (s24.length < SZ) >>= fun _u46 => pure ([41] : Tx)) >>= fun a44 => (pure (s24 ++ [a44]) : M (List Tx))) = .ok (t :: [40] :: (commas args ++ [[41]])) := fun _ => by
    obtain ⟨s, e, hs⟩ := loop
    rw [Nat.zero_add, List.take_length] at hs
    rw [range1_ok (by omega) (by omega), okb, Int.toNat_natCast]
    have e' := e
    rw [show ((0 : Nat) : Int) = 0 from rfl] at e'
    rw [e', okb, hs, chk_b (by have := commas_len args; rw [SZ_val, List.length_cons, List.length_cons]; omega)]
    simp
    rfl
  by_cases h : args = []
  · cases br with
    | false => simp [h]; rfl
    | true =>
      rw [decide_eq_true h, if_pos rfl]
      simp only [Bool.not_true, pure_bind, tup_b, Bool.false_eq_true, if_false]
      rw [if_neg (by simp)]
      exact rest (.inl rfl)
  · rw [decide_eq_false h, if_neg Bool.false_ne_true, if_neg (by simp [h])]
    simp only [pure_bind, tup_b, Bool.false_eq_true, if_false]
    exact rest (.inr h)
theorem spaces_sp {hi : Option Int} : sp (cut (tx "   ") none hi) := fun c hc => by
  have := cut_mem hc
  revert this
  rw [show tx "   " = [32, 32, 32] from rfl]
  simp
theorem spaces_len {hi : Option Int} : (cut (tx "   ") none hi).length ≤ 3 := cut_len _ _ _
theorem blank_len : (tx "   ").length ≤ SZ := by rw [SZ_val, show (tx "   ").length = 3 from rfl]; omega
theorem law_ok (ns : List Int) (hn : ns.length ≤ 63) : m_law ns = pure true := by
  obtain ⟨c1, e1, _⟩ := cell_ok ns 1 (by decide)
  obtain ⟨c0, e0, _⟩ := cell_ok ns 0 (by decide)
  obtain ⟨c2, e2, _⟩ := cell_ok ns 2 (by decide)
  obtain ⟨c3, e3, _⟩ := cell_ok ns 3 (by decide)
  obtain ⟨ts, et, tl, th⟩ := names_ok c0 9 small (by decide) (by decide) (by decide +kernel) (by decide +kernel)
  obtain ⟨os, eo, ol, oh⟩ := names_ok c2 5 great (by decide) (by decide) (by decide +kernel) (by decide +kernel)
  obtain ⟨ws, ew, wl, wh⟩ := names_ok c3 5 (tx "abcdefghijklmnopqrstuvwxyz0123456789") (by decide) (by decide) (by decide +kernel) (by decide +kernel)
  have tl' : ts.length = 9 := tl
  have ol' : os.length = 5 := ol
  have wl' : ws.length = 5 := wl
  unfold m_law
  simp only [pure_bind, e0, e1, e2, e3, okb, modI_ok (show (0 : Int) < 1000000007 by decide), modI_ok (show (0 : Int) < 9 by decide)]
  obtain ⟨t, eT, hT⟩ := atL_ok (xs := ts) (i := c1 % 1000000007 % 9) (by omega) (by omega)
  have kT := (th t hT).kind
  have et' : m__law_titles c0 9 = .ok ts := by
    unfold m__law_titles
    simp only [pure_bind]
    exact et
  have eo' : m__law_opens c2 5 = .ok os := by
    unfold m__law_opens
    simp only [pure_bind]
    exact eo
  have ew' : m__law_words c3 5 = .ok ws := by
    unfold m__law_words
    simp only [pure_bind]
    exact ew
  have ec : catM os ws = .ok (os ++ ws) := by unfold catM; rw [chk_b (by rw [SZ_val]; omega)]; rfl
  simp only [et', eT, okb, pure_bind, eo', ew', ec, divI_ok (show (0 : Int) < 9 by decide) (show (9 : Int) < 1073741824 by decide), modI_ok (show (0 : Int) < 5 by decide), divI_ok (show (0 : Int) < 45 by decide) (show (45 : Int) < 1073741824 by decide), modI_ok (show (0 : Int) < 2 by decide)]
  rw [range1_ok (by omega) (by omega), okb]
  obtain ⟨args, ea, al, ah⟩ := lc_ok (f := fun e32 => (m__law_cell_at ns (4 + e32) >>= fun x39 => m__law_mix x39 e32) >>= fun x41 => modI x41 10 >>= fun y34 => atL (os ++ ws) y34) (xs := rangeL 0 (c1 % 1000000007 / 9 % 5).toNat) (Q := fun y => isNm y = true) (by rw [rangeL_len, SZ_val]; omega) fun e he => by
    have hb := mem_rangeL he
    refine Okp.bind (Okp.bind (cell_ok ns (4 + e) (by omega)) fun x _ => mix_ok x e (by omega) (by omega)) fun x _ => ?_
    rw [modI_ok (by decide), pure_bind]
    obtain ⟨a, e4, h4⟩ := atL_ok (xs := os ++ ws) (i := x % 10) (by omega) (by rw [List.length_append]; omega)
    refine ⟨a, e4, ?_⟩
    rcases List.mem_append.mp h4 with h | h
    · exact (oh a h).name great_sign
    · exact (wh a h).name words_sign
  rw [rangeL_len] at al
  have al' : args.length ≤ 4 := by omega
  have tN := isKd_nm kT
  have ah12 : ∀ x ∈ args, x.length ≤ 12 := fun x hx => isNm_len (ah x hx)
  have ea' : lc (fun e32 => (m__law_cell_at ns (4 + e32) >>= fun x39 => m__law_mix x39 e32) >>= fun x41 => modI x41 10 >>= fun y34 => atL (os ++ ws) y34) (rangeL 0 (c1 % 1000000007 / 9 % 5).toNat) = .ok args := ea
  simp only [bind_assoc] at ea' ⊢
  rw [ea', okb]
  simp only [tup_b, bind_pure, pure_bind]
  have fl := ftext_len (isNm_len tN) ah12 (by omega)
  have rd : m_read_fact (ftext t args) = .ok (t, args) := read_fact_eq (br := false) (by rw [SZ_val]; omega) (by rw [ftext_flat]; exact pcs_flat (alt_toks (nmT_of tN) fun x hx => nmT_of (ah x hx))) kT ah (by omega)
  rw [law_fact_text_eq (isNm_len tN) ah12 (by omega), okb, fact_text_eq (isNm_len tN) ah12 (by omega), okb, decide_eq_true (Eq.refl (ftext t args))]
  simp only [pure_bind, Bool.not_true, Bool.false_eq_true, if_false]
  rw [rd, okb, alike_eq, okb]
  simp only [pure_bind, Bool.not_true, Bool.false_eq_true, if_false]
  rw [pieces_row (by omega), okb, tx_nil]
  generalize hb : decide (c1 % 1000000007 / 45 % 2 = 1) = br
  have tkl := toks_len t args br
  have tkm : ∀ x ∈ toks t args br, x.length ≤ 12 := toks_mem (P := fun x => x.length ≤ 12) (isNm_len tN) (by decide) (by decide) (by decide) ah12
  rw [range1_ok (by omega) (by omega), okb, Int.toNat_natCast]
  have loop := forP_inv (f := fun (s78 : Tx) (e79 : Int) => (m__law_cell_at ns (8 + e79) >>= fun x89 => m__law_mix x89 e79 >>= fun x91 => modI x91 4 >>= fun x93 => cutT (tx "   ") none (some x93) >>= fun y98 => addT s78 y98 >>= fun x101 => atL (toks t args br) e79 >>= fun y102 => addT x101 y102))
    (fun k s => ∃ ps : List (Tx × Tx), s = weave ps ∧ ps.map (·.2) = (toks t args br).take k ∧ (∀ p ∈ ps, sp p.1) ∧ s.length ≤ 15 * k) (toks t args br).length 0 [] (fun k s _ hk ⟨ps, p1, p2, p3, p4⟩ => by
      refine Okp.bind (cell_ok ns (8 + k) (by omega)) fun x _ => Okp.bind (mix_ok x k (by omega) (by omega)) fun y _ => ?_
      have hk' : k < (toks t args br).length := by omega
      have at1 : atL (toks t args br) (k : Int) = .ok (toks t args br)[k] := by
        unfold atL atI
        rw [ixN_nat (by omega) (by omega), Int.toNat_natCast]
        show ofO (toks t args br)[k]? = _
        rw [List.getElem?_eq_getElem hk']
        rfl
      have l1 : (cut (tx "   ") none (some (y % 4))).length ≤ 3 := spaces_len
      have l2 := tkm _ (List.getElem_mem hk')
      rw [modI_ok (by decide), pure_bind, cutT_ok blank_len, okb, addT_ok (by rw [SZ_val]; omega), pure_bind, at1, okb, addT_ok (by rw [SZ_val, List.length_append]; omega)]
      refine ⟨_, rfl, ps ++ [(cut (tx "   ") none (some (y % 4)), (toks t args br)[k])], ?_, ?_, ?_, ?_⟩
      · rw [weave_app, p1, List.append_assoc]
        show _ = weave ps ++ (_ ++ (_ ++ []))
        rw [List.append_nil]
      · rw [List.map_append, p2, List.take_succ_eq_append_getElem hk']
        rfl
      · intro p hp
        rcases List.mem_append.mp hp with h | h
        · exact p3 p h
        · rw [List.mem_singleton.mp h]; exact spaces_sp
      · rw [List.length_append, List.length_append]; omega) ⟨[], rfl, rfl, fun p hp => (by cases hp), Nat.zero_le _⟩
  obtain ⟨s, es, ps, p1, p2, p3, p4⟩ := loop
  rw [show ((0 : Nat) : Int) = 0 from rfl] at es
  rw [Nat.zero_add] at p2 p4
  rw [List.take_length] at p2
  rw [es, okb]
  obtain ⟨x, ex, _⟩ := cell_ok ns (8 + ((toks t args br).length : Int)) (by omega)
  obtain ⟨y, ey, _⟩ := mix_ok x 5 (by decide) (by decide)
  have l1 : (cut (tx "   ") none (some (y % 4))).length ≤ 3 := spaces_len
  simp only [ex, ey, okb, modI_ok (show (0 : Int) < 4 by decide), pure_bind]
  rw [cutT_ok blank_len, okb, addT_ok (by rw [SZ_val]; omega), pure_bind]
  have rd2 : m_read_fact (s ++ cut (tx "   ") none (some (y % 4))) = .ok (t, args) := read_fact_eq (br := br) (by rw [SZ_val, List.length_append]; omega) (by
    rw [p1, pcs_weave p3 (by rw [p2]; exact alt_toks (nmT_of tN) fun x hx => nmT_of (ah x hx)) spaces_sp, p2]) kT ah (by omega)
  rw [rd2, okb, alike_eq]
  rfl
end Q

set_option Elab.async false
set_option linter.all false
set_option maxRecDepth 100000
set_option maxHeartbeats 0
namespace Q
open PySem L2 G
/-! the head -/
def fn : List He.DefD := [⟨("is_name", none), "is_name", "is_name", defArgs (top 8), defBody (top 8), defScope (top 8), [], []⟩,
  ⟨("is_kind", none), "is_kind", "is_kind", defArgs (top 9), defBody (top 9), defScope (top 9), [], []⟩,
  ⟨("pieces", none), "pieces", "pieces", defArgs (top 10), defBody (top 10), defScope (top 10), [], []⟩,
  ⟨("piece_at", none), "piece_at", "piece_at", defArgs (top 11), defBody (top 11), defScope (top 11), [], []⟩,
  ⟨("take_arguments", none), "take_arguments", "take_arguments", defArgs (top 12), defBody (top 12), defScope (top 12), [], []⟩,
  ⟨("take_fact", none), "take_fact", "take_fact", defArgs (top 13), defBody (top 13), defScope (top 13), [], []⟩,
  ⟨("fact_text", none), "fact_text", "fact_text", defArgs (top 14), defBody (top 14), defScope (top 14), [], []⟩,
  ⟨("read_fact", none), "read_fact", "read_fact", defArgs (top 15), defBody (top 15), defScope (top 15), [], []⟩,
  ⟨("_law_cell_at", none), "_law_cell_at", "_law_cell_at", defArgs (top 17), defBody (top 17), defScope (top 17), [], []⟩,
  ⟨("_law_mix", none), "_law_mix", "_law_mix", defArgs (top 18), defBody (top 18), defScope (top 18), [], []⟩,
  ⟨("_law_names", none), "_law_names", "_law_names", defArgs (top 19), defBody (top 19), defScope (top 19), [], []⟩,
  ⟨("_law_titles", none), "_law_titles", "_law_titles", defArgs (top 20), defBody (top 20), defScope (top 20), [], []⟩,
  ⟨("_law_opens", none), "_law_opens", "_law_opens", defArgs (top 21), defBody (top 21), defScope (top 21), [], []⟩,
  ⟨("_law_words", none), "_law_words", "_law_words", defArgs (top 22), defBody (top 22), defScope (top 22), [], []⟩,
  ⟨("_law_fact_text", none), "_law_fact_text", "_law_fact_text", defArgs (top 23), defBody (top 23), defScope (top 23), [], []⟩,
  ⟨("_law_pieces", none), "_law_pieces", "_law_pieces", defArgs (top 24), defBody (top 24), defScope (top 24), [], []⟩,
  ⟨("_law_alike", none), "_law_alike", "_law_alike", defArgs (top 25), defBody (top 25), defScope (top 25), [], []⟩,
  ⟨("law", none), "law", "law", defArgs (top 26), defBody (top 26), defScope (top 26), [], []⟩]
def fa : List He.Fa := [.glo "is_name",
  .glo "is_kind",
  .glo "pieces",
  .glo "piece_at",
  .glo "take_arguments",
  .glo "take_fact",
  .glo "fact_text",
  .glo "read_fact",
  .glo "_law_cell_at",
  .glo "_law_mix",
  .glo "_law_names",
  .glo "_law_titles",
  .glo "_law_opens",
  .glo "_law_words",
  .glo "_law_fact_text",
  .glo "_law_pieces",
  .glo "_law_alike",
  .glo "law",
  .free "isinstance",
  .free "len",
  .free "range",
  .free "str",
  .free "tuple",
  .str "FIGURES" "0123456789",
  .str "GREAT" "ABCDEFGHIJKLMNOPQRSTUVWXYZ",
  .str "SIGNS" "(),;:=-",
  .str "SMALL" "abcdefghijklmnopqrstuvwxyz",
  .glo "NoLine",
  .exc "NoLine"]
abbrev R : PySem.W.OpenRow := PySem.W.OpenLaw.row PySem.Challenge.rw_poolrules_k02_a_fact_written_and_read
abbrev hk : PySem.W.Hook := He.hookD 5 fa fn
def ob (s : PySem.W.SharedT) : He.AlD := He.obsDG 5 fa fn (HandSHeadRun.getT s)
theorem ob_eq (s : PySem.W.SharedT) : ob s = hk.obs s.abs := He.obsDG_eq (HandSHeadRun.getT_eq s)
def loose : List PySem.Str := ["PoolError", "NoLine", "SMALL", "GREAT", "FIGURES", "SIGNS", "is_name", "is_kind", "pieces", "piece_at", "take_arguments", "take_fact", "fact_text", "read_fact", "_law_cell_at", "_law_mix", "_law_names", "_law_titles", "_law_opens", "_law_words", "_law_fact_text", "_law_pieces", "_law_alike"]
theorem run (w : World) : HandSHeadRun.RunEq R (PySem.W.view R.prog [26]) hk ob 4000 loose w := by
  intro os
  kernel_rfl
theorem facts {K : Fg} {h : Heap} {mg : Str → Option Value} (X : K.In h) (G : h.Ns mainGlobals mg) (c : He.SaysD fa fn K) : Fx K mg where
  f_is_name := c.def_ 0 (d := ⟨("is_name", none), "is_name", "is_name", defArgs (top 8), defBody (top 8), defScope (top 8), [], []⟩) rfl
  g_is_name := He.glo_ok X G (c.fact 0 (f := .glo "is_name") rfl)
  f_is_kind := c.def_ 1 (d := ⟨("is_kind", none), "is_kind", "is_kind", defArgs (top 9), defBody (top 9), defScope (top 9), [], []⟩) rfl
  g_is_kind := He.glo_ok X G (c.fact 1 (f := .glo "is_kind") rfl)
  f_pieces := c.def_ 2 (d := ⟨("pieces", none), "pieces", "pieces", defArgs (top 10), defBody (top 10), defScope (top 10), [], []⟩) rfl
  g_pieces := He.glo_ok X G (c.fact 2 (f := .glo "pieces") rfl)
  f_piece_at := c.def_ 3 (d := ⟨("piece_at", none), "piece_at", "piece_at", defArgs (top 11), defBody (top 11), defScope (top 11), [], []⟩) rfl
  g_piece_at := He.glo_ok X G (c.fact 3 (f := .glo "piece_at") rfl)
  f_take_arguments := c.def_ 4 (d := ⟨("take_arguments", none), "take_arguments", "take_arguments", defArgs (top 12), defBody (top 12), defScope (top 12), [], []⟩) rfl
  g_take_arguments := He.glo_ok X G (c.fact 4 (f := .glo "take_arguments") rfl)
  f_take_fact := c.def_ 5 (d := ⟨("take_fact", none), "take_fact", "take_fact", defArgs (top 13), defBody (top 13), defScope (top 13), [], []⟩) rfl
  g_take_fact := He.glo_ok X G (c.fact 5 (f := .glo "take_fact") rfl)
  f_fact_text := c.def_ 6 (d := ⟨("fact_text", none), "fact_text", "fact_text", defArgs (top 14), defBody (top 14), defScope (top 14), [], []⟩) rfl
  g_fact_text := He.glo_ok X G (c.fact 6 (f := .glo "fact_text") rfl)
  f_read_fact := c.def_ 7 (d := ⟨("read_fact", none), "read_fact", "read_fact", defArgs (top 15), defBody (top 15), defScope (top 15), [], []⟩) rfl
  g_read_fact := He.glo_ok X G (c.fact 7 (f := .glo "read_fact") rfl)
  f__law_cell_at := c.def_ 8 (d := ⟨("_law_cell_at", none), "_law_cell_at", "_law_cell_at", defArgs (top 17), defBody (top 17), defScope (top 17), [], []⟩) rfl
  g__law_cell_at := He.glo_ok X G (c.fact 8 (f := .glo "_law_cell_at") rfl)
  f__law_mix := c.def_ 9 (d := ⟨("_law_mix", none), "_law_mix", "_law_mix", defArgs (top 18), defBody (top 18), defScope (top 18), [], []⟩) rfl
  g__law_mix := He.glo_ok X G (c.fact 9 (f := .glo "_law_mix") rfl)
  f__law_names := c.def_ 10 (d := ⟨("_law_names", none), "_law_names", "_law_names", defArgs (top 19), defBody (top 19), defScope (top 19), [], []⟩) rfl
  g__law_names := He.glo_ok X G (c.fact 10 (f := .glo "_law_names") rfl)
  f__law_titles := c.def_ 11 (d := ⟨("_law_titles", none), "_law_titles", "_law_titles", defArgs (top 20), defBody (top 20), defScope (top 20), [], []⟩) rfl
  g__law_titles := He.glo_ok X G (c.fact 11 (f := .glo "_law_titles") rfl)
  f__law_opens := c.def_ 12 (d := ⟨("_law_opens", none), "_law_opens", "_law_opens", defArgs (top 21), defBody (top 21), defScope (top 21), [], []⟩) rfl
  g__law_opens := He.glo_ok X G (c.fact 12 (f := .glo "_law_opens") rfl)
  f__law_words := c.def_ 13 (d := ⟨("_law_words", none), "_law_words", "_law_words", defArgs (top 22), defBody (top 22), defScope (top 22), [], []⟩) rfl
  g__law_words := He.glo_ok X G (c.fact 13 (f := .glo "_law_words") rfl)
  f__law_fact_text := c.def_ 14 (d := ⟨("_law_fact_text", none), "_law_fact_text", "_law_fact_text", defArgs (top 23), defBody (top 23), defScope (top 23), [], []⟩) rfl
  g__law_fact_text := He.glo_ok X G (c.fact 14 (f := .glo "_law_fact_text") rfl)
  f__law_pieces := c.def_ 15 (d := ⟨("_law_pieces", none), "_law_pieces", "_law_pieces", defArgs (top 24), defBody (top 24), defScope (top 24), [], []⟩) rfl
  g__law_pieces := He.glo_ok X G (c.fact 15 (f := .glo "_law_pieces") rfl)
  f__law_alike := c.def_ 16 (d := ⟨("_law_alike", none), "_law_alike", "_law_alike", defArgs (top 25), defBody (top 25), defScope (top 25), [], []⟩) rfl
  g__law_alike := He.glo_ok X G (c.fact 16 (f := .glo "_law_alike") rfl)
  f_law := c.def_ 17 (d := ⟨("law", none), "law", "law", defArgs (top 26), defBody (top 26), defScope (top 26), [], []⟩) rfl
  g_law := He.glo_ok X G (c.fact 17 (f := .glo "law") rfl)
  n_isinstance := He.free_ok X G (c.fact 18 (f := .free "isinstance") rfl)
  n_len := He.free_ok X G (c.fact 19 (f := .free "len") rfl)
  n_range := He.free_ok X G (c.fact 20 (f := .free "range") rfl)
  n_str := He.free_ok X G (c.fact 21 (f := .free "str") rfl)
  n_tuple := He.free_ok X G (c.fact 22 (f := .free "tuple") rfl)
  s_FIGURES := He.str_ok X G (c.fact 23 (f := .str "FIGURES" "0123456789") rfl)
  s_GREAT := He.str_ok X G (c.fact 24 (f := .str "GREAT" "ABCDEFGHIJKLMNOPQRSTUVWXYZ") rfl)
  s_SIGNS := He.str_ok X G (c.fact 25 (f := .str "SIGNS" "(),;:=-") rfl)
  s_SMALL := He.str_ok X G (c.fact 26 (f := .str "SMALL" "abcdefghijklmnopqrstuvwxyz") rfl)
  g_NoLine := He.glo_ok X G (c.fact 27 (f := .glo "NoLine") rfl)
  x_NoLine := c.fact 28 (f := .exc "NoLine") rfl
theorem atlaw {l : PySem.W.OpenLaw} {w : World} {K : Fg} {h : Heap} {mg : Str → Option Value} {f : Addr} (X : K.In h) (G : h.Ns mainGlobals mg) (hfa : mg ("law" : Str) = some (.ref f)) (c : He.SaysD fa fn K) :
    ∃ fd : FuncData, (∀ (s : Shared) (v : Value), BindsTo s fd ⟨[v], []⟩ [("_law_script", v)]) ∧ ∀ base : Heap, K.In base → base.Ns mainGlobals mg → FnOk l.prog w K mg base (L2.CX l.prog w) 5 f fd ["_law_script"] (sp1 K m_law) := by
  have T := facts X G c
  obtain ⟨fd, F⟩ := T.f_law
  have e := hfa.symm.trans T.g_law
  cases e
  have b := FunD.bindsA (ps := ["_law_script"]) F fun _ _ _ _ _ _ us hl => match us, hl with | [_], _ => rfl
  exact ⟨fd, fun s v => b s [v] rfl, fun base _ _ => ok_law T F⟩
theorem ends {K : Fg} (hl : ∀ ns : List Int, ns.length ≤ 63 → m_law ns = pure true) (H : Hp) (a : Addr) (ns : List Int) (hn : ns.length ≤ 63) (hS : SqL K H a (ns.map V.int)) : sp1 K m_law [.ref a] H (fun v _ => v = .bl true) fun _ _ _ => False :=
  ⟨ns, .ref a, H, rfl, Same.refl _, ⟨a, _, rfl, hS, rl_ints ns⟩, by rw [hl ns hn]; exact fun _ _ _ v r => r⟩
end Q
open PySem PySem.W PySem.Calls PyProof.Rows
theorem Q.done (hl : ∀ ns : List Int, ns.length ≤ 63 → Q.m_law ns = pure true) : PySem.Challenge.rw_poolrules_k02_a_fact_written_and_read.Holds := by
  w_on; o_law
  refine HandSHeadRun.head_any (r := OpenLaw.row PySem.Challenge.rw_poolrules_k02_a_fact_written_and_read) (q := view (OpenLaw.row PySem.Challenge.rw_poolrules_k02_a_fact_written_and_read).prog [26]) (H := Q.hk) (ob := Q.ob) (M := 4000) (loose := Q.loose) (d := HandSHeadRun.topDef (OpenLaw.row PySem.Challenge.rw_poolrules_k02_a_fact_written_and_read).prog 26) (kwd := []) Q.ob_eq
    (by kernel_rfl) (fun s => by kernel_rfl) Q.run (by kernel_rfl) (by kernel_rfl) (by kernel_rfl) (by rfl) (by first | assumption | decide +kernel) (by decide +kernel) ⟨rfl, rfl, rfl, rfl, rfl, by decide +kernel⟩ ?hw ?hc
  case hw => w_witness2
  case hc =>
    refine G.walkE (l := PySem.Challenge.rw_poolrules_k02_a_fact_written_and_read) (n := 63) (k := 5) (x := "_law_script") (CX := fun w => L2.CX (PySem.Challenge.rw_poolrules_k02_a_fact_written_and_read).prog w) rfl (by decide) (by kernel_rfl) ⟨rfl, by decide, by decide⟩ ?F (fun _ _ _ _ _ z => G.cx_false z)
    intro w mg fa h Y Gg hmg0
    obtain ⟨K, KX, c⟩ := Y
    have hmg : mg ("law" : PySem.Str) = some (.ref fa) := by
      have e : (HandSHeadRun.topDef (OpenLaw.row PySem.Challenge.rw_poolrules_k02_a_fact_written_and_read).prog 26).name = ("law" : PySem.Str) := by kernel_rfl
      rw [← e]
      exact hmg0
    obtain ⟨fd, hb, hF⟩ := Q.atlaw (l := PySem.Challenge.rw_poolrules_k02_a_fact_written_and_read) (w := w) KX Gg hmg c
    exact ⟨K, fd, G.sp1 K Q.m_law, KX, hb, fun H a ns hl0 _ hS => Q.ends hl H a ns hl0 hS, hF⟩

set_option maxHeartbeats 4000000
theorem PySem.Challenge.cw_poolrules_k02_a_fact_written_and_read_holds : PySem.Challenge.rw_poolrules_k02_a_fact_written_and_read.Holds := by
  exact Q.done Q.law_ok
#print axioms PySem.Challenge.cw_poolrules_k02_a_fact_written_and_read_holds
