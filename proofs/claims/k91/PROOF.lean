import PyProof.Rows.All
import Wide.All
import OpenK.AllK
import Wide.FinOn
import HandS.ForMost
import HandS.Exc
import HandS.Evl
import HandS.HeadHook1
import HandS.ExcInit
import HandS.Lambda
import HandS.Deep
import HandS.TupAny
import HandS.Style
import HandS.FStr
import HandS.Conv
import HandS.RaiseMore
import HandS.Zip
import HandS.DictComp
import HandS.ExcOwn
import HandS.WordsExc
import KE.KExcSuper
import KE.KExcIs
import HandS.Nested
import HandS.IsInst
import HandS.Head0
import HandS.Head1
import HandS.Head2
import HandS.HeadEnd
import HandS.HeadHook2
import PyProof.StrLawsRepr
import HandS.Defaults
import KE.KIntText
import PySem.Challenge.RW_farscale_k91_errors
import PyProof.P3Eq
set_option Elab.async false
set_option linter.all false
set_option maxRecDepth 100000
set_option maxHeartbeats 0
section
/-! DL1: values as trees, the store of mutable cells, how they lie in the heap. Own work for this claim. -/
namespace DL
open PySem PySem.Spec PyProof.Rows L2 Evl

/-- a value as a tree -/
inductive D where
  | non | bl (b : Bool) | int (i : Int) | str (s : Str)
  | lst (xs : List D) | tup (xs : List D)
  | dct (kvs : List (D × D))
  | dtt (kvs : List (D × D))
  | ins (c : Str) (fs : List (Str × D))
  | exc (c : Str) (fs : List (Str × D))
  | lam (k : Nat) (cap : List D)
  | cell (i : Nat)
  | scr (xs : List Int)
  | raw (v : V)

/-- a result: a shared tree, or a root that nobody else holds -/
inductive DV where
  | sh (d : D) | ow (d : D)
@[reducible] def DV.d : DV → D
  | .sh d => d
  | .ow d => d
/-- a local name's slot -/
inductive Slot where
  | un | sh (d : D) | ow (d : D)
abbrev G := List Slot
abbrev Store := List D

/-- an error: its class, its attributes -/
structure Er where
  cls : Str
  fs : List (Str × D)

inductive Res (α : Type) where
  | ok (a : α) (S : Store) | err (e : Er) (S : Store) | stuck
abbrev M (α : Type) := Store → Res α
def Res.post {α : Type} (r : Res α) (Q : α → Store → Prop) (E : Er → Store → Prop) : Prop := match r with
  | .ok a S => Q a S
  | .err e S => E e S
  | .stuck => False
def ret {α : Type} (a : α) : M α := fun S => .ok a S
def fail {α : Type} (e : Er) : M α := fun S => .err e S
def stuck {α : Type} : M α := fun _ => .stuck
def bind {α β : Type} (m : M α) (k : α → M β) : M β := fun S => match m S with
  | .ok a S' => k a S'
  | .err e S' => .err e S'
  | .stuck => .stuck
theorem post_bind {α β : Type} {m : M α} {k : α → M β} {S : Store} {Q : β → Store → Prop} {E : Er → Store → Prop} :
    (bind m k S).post Q E ↔ (m S).post (fun a S' => (k a S').post Q E) E := by
  unfold bind
  cases m S <;> exact Iff.rfl
theorem post_mono {α : Type} {r : Res α} {Q Q' : α → Store → Prop} {E E' : Er → Store → Prop} (h : r.post Q E) (hq : ∀ a S, Q a S → Q' a S) (he : ∀ e S, E e S → E' e S) : r.post Q' E' := by
  cases r with
  | ok a S => exact hq _ _ h
  | err e S => exact he _ _ h
  | stuck => exact h

/-! ### how trees lie -/
/-- what a tree leans on stays: dicts up to their being locked -/
structure Sm (H H' : Hp) : Prop where
  l : ∀ a xs, H a = some (.lst xs) → H' a = some (.lst xs)
  s : ∀ a xs, Rd H a (.lst xs) → Rd H' a (.lst xs)
  t : ∀ a xs, H a = some (.tup xs) → H' a = some (.tup xs)
  k : ∀ a us, Rd H a (.dK us) → Rd H' a (.dK us)
  T : ∀ a us, Rd H a (.dT us) → Rd H' a (.dT us)
  i : ∀ a c dx us, H a = some (.ins c dx us) → H' a = some (.ins c dx us)
  x : ∀ a p, H a = some (.ext p) → H' a = some (.ext p)
theorem Sm.of {H H' : Hp} (e : Ex H H') : Sm H H' :=
  ⟨fun a xs h => e a _ h, fun a xs h => ex_rd e h, fun a xs h => e a _ h, fun a xs h => ex_rd e h, fun a xs h => ex_rd e h, fun a c dx us h => e a _ h, fun a p h => e a _ h⟩
theorem Sm.sl {K : PySem.W.Frag} {H H' : Hp} (e : Sm H H') {a : Addr} {xs : List V} (h : SqL K H a xs) : SqL K H' a xs := h.elim (fun h => .inl (e.s a xs h)) .inr
/-- a text that may be compared, of no great length -/
def sOk (s : Str) : Prop := PyData.strOk s = true ∧ s.length ≤ 1000000
instance (s : Str) : Decidable (sOk s) := inferInstanceAs (Decidable (_ ∧ _))
/-- a key as a tree -/
def kD : Key → D
  | .inl i => .int i
  | .inr s => .str s
def keyOk : Key → Prop
  | .inl _ => True
  | .inr s => sOk s
/-- what is fixed: the written part; what a lambda is -/
structure LC where
  K : PySem.W.Frag
  T : List (Addr × Str) := []
  lamR : Hp → Nat → Addr → List V → Prop := fun _ _ _ _ => False
  lamM : ∀ {H H' : Hp} {k : Nat} {f : Addr} {vs : List V}, Sm H H' → lamR H k f vs → lamR H' k f vs

mutual
def Rep (C : LC) (mu : List Addr) (H : Hp) : D → V → Prop
  | .non, v => v = .non
  | .bl b, v => v = .bl b
  | .int i, v => v = .int i
  | .str s, v => v = .str s ∧ sOk s
  | .lst xs, v => ∃ a vs, v = .ref a ∧ H a = some (.lst vs) ∧ RepL C mu H xs vs
  | .tup xs, v => ∃ a vs, v = .ref a ∧ H a = some (.tup vs) ∧ RepL C mu H xs vs
  | .dct kvs, v => ∃ a us, v = .ref a ∧ Rd H a (.dK us) ∧ RepK C mu H kvs us
  | .dtt kvs, v => ∃ a us, v = .ref a ∧ Rd H a (.dT us) ∧ RepT C mu H kvs us
  | .ins c fs, v => ∃ a dx us, v = .ref a ∧ H a = some (.ins (He.ga C.K c) dx us) ∧ RepF C mu H fs us
  | .exc c fs, v => ∃ a, v = .ref a ∧ ((fs = [] ∧ H a = some (exo a (He.ga C.K c) none)) ∨ ∃ d us, H a = some (exo a (He.ga C.K c) (some d)) ∧ H d = some (exd d us) ∧ RepF C mu H fs us)
  | .lam k cap, v => ∃ f vs, v = .ref f ∧ C.lamR H k f vs ∧ RepL C mu H cap vs
  | .cell i, v => ∃ a, v = .ref a ∧ mu[i]? = some a
  | .scr xs, v => ∃ a, v = .ref a ∧ SqL C.K H a (xs.map V.int)
  | .raw w, v => v = w
def RepL (C : LC) (mu : List Addr) (H : Hp) : List D → List V → Prop
  | [], vs => vs = []
  | d :: ds, vs => ∃ v vs', vs = v :: vs' ∧ Rep C mu H d v ∧ RepL C mu H ds vs'
def RepK (C : LC) (mu : List Addr) (H : Hp) : List (D × D) → List (Key × V) → Prop
  | [], us => us = []
  | (k, d) :: ds, us => ∃ k' v us', us = (k', v) :: us' ∧ k = kD k' ∧ keyOk k' ∧ Rep C mu H d v ∧ RepK C mu H ds us'
def RepT (C : LC) (mu : List Addr) (H : Hp) : List (D × D) → List (List Key × V) → Prop
  | [], us => us = []
  | (k, d) :: ds, us => ∃ k' v us', us = (k', v) :: us' ∧ k = .tup (k'.map kD) ∧ (∀ x ∈ k', keyOk x) ∧ Rep C mu H d v ∧ RepT C mu H ds us'
def RepF (C : LC) (mu : List Addr) (H : Hp) : List (Str × D) → List (Str × V) → Prop
  | [], us => us = []
  | (x, d) :: ds, us => ∃ v us', us = (x, v) :: us' ∧ Rep C mu H d v ∧ RepF C mu H ds us'
end

section
variable {C : LC} {mu mu' : List Addr} {H H' : Hp}
mutual
theorem Rep.mono (e : Sm H H') (hm : mu <+: mu') : ∀ {d : D} {v : V}, Rep C mu H d v → Rep C mu' H' d v
  | .non, v, h => by simp only [Rep] at h ⊢; exact h
  | .bl b, v, h => by simp only [Rep] at h ⊢; exact h
  | .int i, v, h => by simp only [Rep] at h ⊢; exact h
  | .str s, v, h => by simp only [Rep] at h ⊢; exact h
  | .lst xs, v, h => by
    simp only [Rep] at h ⊢
    obtain ⟨a, vs, e1, e2, e3⟩ := h
    exact ⟨a, vs, e1, e.l _ _ e2, RepL.mono e hm e3⟩
  | .tup xs, v, h => by
    simp only [Rep] at h ⊢
    obtain ⟨a, vs, e1, e2, e3⟩ := h
    exact ⟨a, vs, e1, e.t _ _ e2, RepL.mono e hm e3⟩
  | .dct kvs, v, h => by
    simp only [Rep] at h ⊢
    obtain ⟨a, us, e1, e2, e3⟩ := h
    exact ⟨a, us, e1, e.k _ _ e2, RepK.mono e hm e3⟩
  | .dtt kvs, v, h => by
    simp only [Rep] at h ⊢
    obtain ⟨a, us, e1, e2, e3⟩ := h
    exact ⟨a, us, e1, e.T _ _ e2, RepT.mono e hm e3⟩
  | .ins c fs, v, h => by
    simp only [Rep] at h ⊢
    obtain ⟨a, dx, us, e1, e2, e3⟩ := h
    exact ⟨a, dx, us, e1, e.i _ _ _ _ e2, RepF.mono e hm e3⟩
  | .exc c fs, v, h => by
    simp only [Rep] at h ⊢
    obtain ⟨a, e1, h⟩ := h
    rcases h with ⟨e2, e3⟩ | ⟨d, us, e2, e3, e4⟩
    · exact ⟨a, e1, .inl ⟨e2, e.x _ _ e3⟩⟩
    · exact ⟨a, e1, .inr ⟨d, us, e.x _ _ e2, e.x _ _ e3, RepF.mono e hm e4⟩⟩
  | .lam k cap, v, h => by
    simp only [Rep] at h ⊢
    obtain ⟨f, vs, e1, e2, e3⟩ := h
    exact ⟨f, vs, e1, C.lamM e e2, RepL.mono e hm e3⟩
  | .cell i, v, h => by
    simp only [Rep] at h ⊢
    obtain ⟨a, e1, e2⟩ := h
    obtain ⟨t, rfl⟩ := hm
    exact ⟨a, e1, by rw [List.getElem?_append_left (List.getElem?_eq_some_iff.mp e2).1]; exact e2⟩
  | .scr xs, v, h => by
    simp only [Rep] at h ⊢
    obtain ⟨a, e1, e2⟩ := h
    exact ⟨a, e1, e.sl e2⟩
  | .raw w, v, h => by simp only [Rep] at h ⊢; exact h
theorem RepL.mono (e : Sm H H') (hm : mu <+: mu') : ∀ {ds : List D} {vs : List V}, RepL C mu H ds vs → RepL C mu' H' ds vs
  | [], vs, h => by simp only [RepL] at h ⊢; exact h
  | d :: ds, vs, h => by
    simp only [RepL] at h ⊢
    obtain ⟨v, vs', e1, e2, e3⟩ := h
    exact ⟨v, vs', e1, Rep.mono e hm e2, RepL.mono e hm e3⟩
theorem RepK.mono (e : Sm H H') (hm : mu <+: mu') : ∀ {ds : List (D × D)} {us : List (Key × V)}, RepK C mu H ds us → RepK C mu' H' ds us
  | [], vs, h => by simp only [RepK] at h ⊢; exact h
  | (k, d) :: ds, vs, h => by
    simp only [RepK] at h ⊢
    obtain ⟨k', v, us', e1, e2, e2', e3, e4⟩ := h
    exact ⟨k', v, us', e1, e2, e2', Rep.mono e hm e3, RepK.mono e hm e4⟩
theorem RepT.mono (e : Sm H H') (hm : mu <+: mu') : ∀ {ds : List (D × D)} {us : List (List Key × V)}, RepT C mu H ds us → RepT C mu' H' ds us
  | [], vs, h => by simp only [RepT] at h ⊢; exact h
  | (k, d) :: ds, vs, h => by
    simp only [RepT] at h ⊢
    obtain ⟨k', v, us', e1, e2, e2', e3, e4⟩ := h
    exact ⟨k', v, us', e1, e2, e2', Rep.mono e hm e3, RepT.mono e hm e4⟩
theorem RepF.mono (e : Sm H H') (hm : mu <+: mu') : ∀ {ds : List (Str × D)} {us : List (Str × V)}, RepF C mu H ds us → RepF C mu' H' ds us
  | [], vs, h => by simp only [RepF] at h ⊢; exact h
  | (x, d) :: ds, vs, h => by
    simp only [RepF] at h ⊢
    obtain ⟨v, us', e1, e2, e3⟩ := h
    exact ⟨v, us', e1, Rep.mono e hm e2, RepF.mono e hm e3⟩
end
theorem RepL.length : ∀ {ds : List D} {vs : List V}, RepL C mu H ds vs → ds.length = vs.length
  | [], vs, h => by simp only [RepL] at h; subst h; rfl
  | d :: ds, vs, h => by
    simp only [RepL] at h
    obtain ⟨v, vs', rfl, _, h⟩ := h
    simp only [List.length_cons, RepL.length h]
theorem RepL.append : ∀ {ds es : List D} {vs us : List V}, RepL C mu H ds vs → RepL C mu H es us → RepL C mu H (ds ++ es) (vs ++ us)
  | [], es, vs, us, h, k => by simp only [RepL] at h; subst h; exact k
  | d :: ds, es, vs, us, h, k => by
    simp only [RepL] at h
    obtain ⟨v, vs', rfl, h1, h2⟩ := h
    simp only [List.cons_append, RepL]
    exact ⟨v, vs' ++ us, rfl, h1, RepL.append h2 k⟩
theorem RepL.get : ∀ {ds : List D} {vs : List V} {i : Nat} {d : D}, RepL C mu H ds vs → ds[i]? = some d → ∃ v, vs[i]? = some v ∧ Rep C mu H d v
  | [], vs, i, d, h, e => by simp at e
  | x :: ds, vs, 0, d, h, e => by
    simp only [RepL] at h
    obtain ⟨v, vs', rfl, h1, _⟩ := h
    simp at e; subst e
    exact ⟨v, rfl, h1⟩
  | x :: ds, vs, i + 1, d, h, e => by
    simp only [RepL] at h
    obtain ⟨v, vs', rfl, _, h2⟩ := h
    obtain ⟨u, h3, h4⟩ := RepL.get (i := i) h2 (by simpa using e)
    exact ⟨u, by simpa using h3, h4⟩
theorem RepL.get' {ds : List D} {vs : List V} {i : Nat} {v : V} (h : RepL C mu H ds vs) (e : vs[i]? = some v) : ∃ d, ds[i]? = some d ∧ Rep C mu H d v := by
  have hi : i < ds.length := by rw [h.length]; exact (List.getElem?_eq_some_iff.mp e).1
  obtain ⟨u, h1, h2⟩ := h.get (List.getElem?_eq_getElem hi)
  rw [e] at h1; cases h1
  exact ⟨_, List.getElem?_eq_getElem hi, h2⟩
theorem RepL.drop : ∀ (n : Nat) {ds : List D} {vs : List V}, RepL C mu H ds vs → RepL C mu H (ds.drop n) (vs.drop n)
  | 0, ds, vs, h => h
  | n + 1, [], vs, h => by simp only [RepL] at h; subst h; simp only [List.drop_nil, RepL]
  | n + 1, d :: ds, vs, h => by
    simp only [RepL] at h
    obtain ⟨v, vs', rfl, _, h2⟩ := h
    exact RepL.drop n h2
theorem RepL.take : ∀ (n : Nat) {ds : List D} {vs : List V}, RepL C mu H ds vs → RepL C mu H (ds.take n) (vs.take n)
  | 0, ds, vs, h => by simp only [List.take_zero, RepL]
  | n + 1, [], vs, h => by simp only [RepL] at h; subst h; simp only [List.take_nil, RepL]
  | n + 1, d :: ds, vs, h => by
    simp only [RepL] at h
    obtain ⟨v, vs', rfl, h1, h2⟩ := h
    simp only [List.take_succ_cons, RepL]
    exact ⟨v, vs'.take n, rfl, h1, RepL.take n h2⟩
end
end DL
end

section
namespace DL
open PySem PySem.Spec PyProof.Rows L2 Evl

/-- the heap parted: the cells' addresses, what never changes, the whole -/
structure Wd where
  mu : List Addr
  H0 : Hp
  H : Hp

/-- what stands at a mutable root -/
def CRep (C : LC) (mu : List Addr) (H0 : Hp) (o : Option HO) : D → Prop
  | .lst ds => ∃ vs, o = some (.lst vs) ∧ RepL C mu H0 ds vs
  | .dct kvs => ∃ us, o = some (.dK us) ∧ RepK C mu H0 kvs us
  | .dtt kvs => ∃ us, o = some (.dT us) ∧ RepT C mu H0 kvs us
  | .ins c fs => ∃ dx us, o = some (.ins (He.ga C.K c) dx us) ∧ RepF C mu H0 fs us
  | _ => False
theorem CRep.mono {C : LC} {mu mu' : List Addr} {H H' : Hp} {o : Option HO} (e : Sm H H') (hm : mu <+: mu') : ∀ {d : D}, CRep C mu H o d → CRep C mu' H' o d
  | .lst _, ⟨vs, e1, e2⟩ => ⟨vs, e1, RepL.mono e hm e2⟩
  | .dct _, ⟨us, e1, e2⟩ => ⟨us, e1, RepK.mono e hm e2⟩
  | .dtt _, ⟨us, e1, e2⟩ => ⟨us, e1, RepT.mono e hm e2⟩
  | .ins _ _, ⟨dx, us, e1, e2⟩ => ⟨dx, us, e1, RepF.mono e hm e2⟩
theorem CRep.some {C : LC} {mu : List Addr} {H : Hp} {o : Option HO} : ∀ {d : D}, CRep C mu H o d → ∃ u, o = some u ∧ (∀ ps, u ≠ .tbl ps)
  | .lst _, ⟨vs, e1, _⟩ => ⟨_, e1, fun _ z => by cases z⟩
  | .dct _, ⟨us, e1, _⟩ => ⟨_, e1, fun _ z => by cases z⟩
  | .dtt _, ⟨us, e1, _⟩ => ⟨_, e1, fun _ z => by cases z⟩
  | .ins _ _, ⟨dx, us, e1, _⟩ => ⟨_, e1, fun _ z => by cases z⟩

structure Wd.ok (C : LC) (S : Store) (w : Wd) : Prop where
  ex : Ex w.H0 w.H
  out : ∀ a ∈ w.mu, w.H0 a = none
  nd : w.mu.Nodup
  len : S.length = w.mu.length
  cel : ∀ (i : Nat) c a, S[i]? = some c → w.mu[i]? = some a → CRep C w.mu w.H0 (w.H a) c
  tab : LamX.Tabs C.T w.H

/-- from one state to a later one: what never changes stays, the cells stay, foreign things stay -/
structure From (e w : Wd) : Prop where
  ex0 : Ex e.H0 w.H0
  pre : e.mu <+: w.mu
  all : ∀ a, e.H a ≠ none → w.H a ≠ none
  fr : ∀ a o, e.H a = some o → e.H0 a = none → a ∉ e.mu → (∀ ps, o ≠ .tbl ps) → w.H a = some o ∧ w.H0 a = none ∧ a ∉ w.mu
theorem From.refl (w : Wd) : From w w := ⟨Ex.refl _, List.prefix_refl _, fun _ h => h, fun _ _ h1 h2 h3 _ => ⟨h1, h2, h3⟩⟩
theorem From.trans {a b c : Wd} (x : From a b) (y : From b c) : From a c :=
  ⟨x.ex0.trans y.ex0, x.pre.trans y.pre, fun p h => y.all p (x.all p h), fun p o h1 h2 h3 h4 => let ⟨k1, k2, k3⟩ := x.fr p o h1 h2 h3 h4; y.fr p o k1 k2 k3 h4⟩
section
variable {C : LC} {e w w' : Wd} {d : D} {v : V}
theorem Rep.to (h : From w w') (r : Rep C w.mu w.H0 d v) : Rep C w'.mu w'.H0 d v := r.mono (Sm.of h.ex0) h.pre
theorem RepL.to (h : From w w') {ds : List D} {vs : List V} (r : RepL C w.mu w.H0 ds vs) : RepL C w'.mu w'.H0 ds vs := r.mono (Sm.of h.ex0) h.pre
theorem fresh_from (h : From e w) {p : Addr} (n : w.H p = none) : e.H p = none := by
  cases q : e.H p with
  | none => rfl
  | some o => exact absurd n (h.all p (by rw [q]; exact fun z => nomatch z))
end

/-- a slot's value -/
def SlotR (C : LC) (e w : Wd) (o : Option V) : Slot → Prop
  | .un => True
  | .sh d => ∃ v, o = some v ∧ Rep C w.mu w.H0 d v
  | .ow d => ∃ p, o = some (.ref p) ∧ e.H p = none ∧ w.H0 p = none ∧ p ∉ w.mu ∧ CRep C w.mu w.H0 (w.H p) d
structure RepG (C : LC) (e w : Wd) (s : L2.St) (g : G) : Prop where
  len : s.length = g.length
  at_ : ∀ (i : Nat) x, g[i]? = some x → ∃ o, s[i]? = some o ∧ SlotR C e w o x
  sep : ∀ (i j : Nat) (p : Addr) di dj, i ≠ j → g[i]? = some (.ow di) → g[j]? = some (.ow dj) → s[i]? = some (some (.ref p)) → s[j]? = some (some (.ref p)) → False
theorem SlotR.to {C : LC} {e w w' : Wd} {o : Option V} (h : From w w') : ∀ {x : Slot}, SlotR C e w o x → SlotR C e w' o x
  | .un, _ => trivial
  | .sh d, ⟨v, e1, r⟩ => ⟨v, e1, r.to h⟩
  | .ow d, ⟨p, e1, e2, e3, e4, r⟩ => by
    obtain ⟨u, hu, ht⟩ := r.some
    obtain ⟨k1, k2, k3⟩ := h.fr p u hu e3 e4 ht
    refine ⟨p, e1, e2, k2, k3, ?_⟩
    rw [k1, ← hu]
    exact r.mono (Sm.of h.ex0) h.pre
theorem RepG.to {C : LC} {e w w' : Wd} {s : L2.St} {g : G} (h : From w w') (r : RepG C e w s g) : RepG C e w' s g :=
  ⟨r.len, fun i x hx => let ⟨o, h1, h2⟩ := r.at_ i x hx; ⟨o, h1, h2.to h⟩, r.sep⟩

/-- a result's value, worked out from w to w' -/
def RV (C : LC) (w w' : Wd) : DV → V → Prop
  | .sh d, v => Rep C w'.mu w'.H0 d v
  | .ow d, v => ∃ p, v = .ref p ∧ w.H p = none ∧ w'.H0 p = none ∧ p ∉ w'.mu ∧ CRep C w'.mu w'.H0 (w'.H p) d

/-- a mutable root is held fast from now on -/
theorem freeze {C : LC} {w w' : Wd} {S : Store} {p : Addr} {d : D} (f : From w w') (k : w'.ok C S) (n : w.H p = none) (n0 : w'.H0 p = none) (nm : p ∉ w'.mu) (r : CRep C w'.mu w'.H0 (w'.H p) d) :
    ∃ H0', From w ⟨w'.mu, H0', w'.H⟩ ∧ Wd.ok C S ⟨w'.mu, H0', w'.H⟩ ∧ Rep C w'.mu H0' d (.ref p) ∧ Ex w'.H0 H0' ∧ (∀ a, a ≠ p → H0' a = w'.H0 a) := by
  obtain ⟨u, hu, ht⟩ := r.some
  have e1 : Ex w'.H0 (upd w'.H0 p u) := Ex.new n0
  have e2 : ∀ a, a ≠ p → upd w'.H0 p u a = w'.H0 a := fun a h => upd_ne h
  refine ⟨upd w'.H0 p u, ⟨f.ex0.trans e1, f.pre, f.all, fun a o h1 h2 h3 h4 => ?_⟩, ⟨fun a o h => ?_, fun a h => ?_, k.nd, k.len, fun i c a h1 h2 => (k.cel i c a h1 h2).mono (Sm.of e1) (List.prefix_refl _), k.tab⟩, ?_, e1, e2⟩
  · obtain ⟨k1, k2, k3⟩ := f.fr a o h1 h2 h3 h4
    have : a ≠ p := fun z => by rw [z, n] at h1; cases h1
    exact ⟨k1, (e2 a this).trans k2, k3⟩
  · show w'.H a = some o
    have h : upd w'.H0 p u a = some o := h
    by_cases q : a = p
    · subst q; rw [upd_same] at h; cases h; exact hu
    · rw [e2 a q] at h; exact k.ex a o h
  · show upd w'.H0 p u a = none
    rw [e2 a (fun z => nm (z ▸ h))]
    exact k.out a h
  · have r' := r.mono (Sm.of e1) (List.prefix_refl _) (mu' := w'.mu)
    cases d with
    | lst ds =>
      obtain ⟨vs, h1, h2⟩ := r'
      rw [hu] at h1; cases h1
      simp only [Rep]
      exact ⟨p, vs, rfl, upd_same, h2⟩
    | dct kvs =>
      obtain ⟨us, h1, h2⟩ := r'
      rw [hu] at h1; cases h1
      simp only [Rep]
      exact ⟨p, us, rfl, .inl upd_same, h2⟩
    | dtt kvs =>
      obtain ⟨us, h1, h2⟩ := r'
      rw [hu] at h1; cases h1
      simp only [Rep]
      exact ⟨p, us, rfl, .inl upd_same, h2⟩
    | ins c fs =>
      obtain ⟨dx, us, h1, h2⟩ := r'
      rw [hu] at h1; cases h1
      simp only [Rep]
      exact ⟨p, dx, us, rfl, upd_same, h2⟩
    | _ => exact r'.elim
theorem RV.shared {C : LC} {w w' : Wd} {S : Store} {v : V} : ∀ {dv : DV}, From w w' → w'.ok C S → RV C w w' dv v → ∃ H0', From w ⟨w'.mu, H0', w'.H⟩ ∧ Wd.ok C S ⟨w'.mu, H0', w'.H⟩ ∧ Rep C w'.mu H0' dv.d v
  | .sh d, f, k, r => ⟨w'.H0, f, k, r⟩
  | .ow d, f, k, ⟨p, e, n, n0, nm, r⟩ => by
    obtain ⟨H0', a, b, c, _, _⟩ := freeze f k n n0 nm r
    subst e
    exact ⟨H0', a, b, c⟩

/-- a new object, tracked and held by nobody else -/
theorem From.new {w : Wd} {p : Addr} {o : HO} (n : w.H p = none) : From w ⟨w.mu, w.H0, upd w.H p o⟩ :=
  ⟨Ex.refl _, List.prefix_refl _, fun a h => by
    show upd w.H p o a ≠ none
    by_cases q : a = p
    · subst q; rw [upd_same]; exact fun z => nomatch z
    · rw [upd_ne q]; exact h, fun a u h1 h2 h3 _ => ⟨by show upd w.H p o a = _; rw [upd_ne (ne_of_none h1 n)]; exact h1, h2, h3⟩⟩
theorem Wd.ok.new {C : LC} {S : Store} {w : Wd} {p : Addr} {o : HO} (k : w.ok C S) (n : w.H p = none) : Wd.ok C S ⟨w.mu, w.H0, upd w.H p o⟩ :=
  ⟨fun a u h => by show upd w.H p o a = _; rw [upd_ne (ne_of_none (k.ex a u h) n)]; exact k.ex a u h, k.out, k.nd, k.len, fun i c a h1 h2 => by
    have r := k.cel i c a h1 h2
    obtain ⟨u, hu, _⟩ := r.some
    show CRep C w.mu w.H0 (upd w.H p o a) c
    rw [upd_ne (ne_of_none hu n)]
    exact r, k.tab.ext (Ex.new n)⟩
theorem Wd.ok.none0 {C : LC} {S : Store} {w : Wd} {p : Addr} (k : w.ok C S) (n : w.H p = none) : w.H0 p = none := by
  cases q : w.H0 p with
  | none => rfl
  | some o => rw [k.ex p o q] at n; cases n
theorem Wd.ok.nmu {C : LC} {S : Store} {w : Wd} {p : Addr} (k : w.ok C S) (n : w.H p = none) : p ∉ w.mu := fun h => by
  obtain ⟨i, hi, e⟩ := List.getElem_of_mem h
  have h2 : w.mu[i]? = some p := by rw [List.getElem?_eq_getElem hi, e]
  have h3 : i < S.length := by rw [k.len]; exact hi
  have h1 : S[i]? = some S[i] := List.getElem?_eq_getElem h3
  obtain ⟨u, hu, _⟩ := (k.cel i _ p h1 h2).some
  rw [n] at hu; cases hu

/-! ### what a reading computes -/
/-- how an error lies: its class, its own dict -/
def ErR (C : LC) (w : Wd) (er : Er) (cls : Value) (d : Option Addr) : Prop :=
  cls = .ref (He.ga C.K er.cls) ∧ (er.fs = [] ∨ ∃ dx us, d = some dx ∧ w.H dx = some (.xd us) ∧ RepF C w.mu w.H0 er.fs us)
abbrev KO (C : LC) (w : Wd) (Q : VK) : DV → Store → Prop := fun dv S' => ∀ v w', From w w' → w'.ok C S' → RV C w w' dv v → Q v w'.H
abbrev KD (C : LC) (w : Wd) (Q : VK) : D → Store → Prop := fun d S' => ∀ v w', From w w' → w'.ok C S' → Rep C w'.mu w'.H0 d v → Q v w'.H
abbrev KL (C : LC) (w : Wd) (Q : List V → Hp → Prop) : List D → Store → Prop := fun ds S' => ∀ vs w', From w w' → w'.ok C S' → RepL C w'.mu w'.H0 ds vs → Q vs w'.H
abbrev KT (C : LC) (w : Wd) (Q : Bool → Hp → Prop) : Bool → Store → Prop := fun b S' => ∀ w', From w w' → w'.ok C S' → Q b w'.H
abbrev KE (C : LC) (w : Wd) (W : WX) (s : L2.St) : Er → Store → Prop := fun er S' => ∀ cls d w', From w w' → w'.ok C S' → ErR C w' er cls d → W cls d s w'.H
def EvO (C : LC) (W : WX) (te : TE) (m : G → M DV) : Prop :=
  ∀ e g s w S Q, Wd.ok C S w → From e w → RepG C e w s g → (m g S).post (KO C w Q) (KE C w W s) → te s w.H Q
def EvD (C : LC) (W : WX) (te : TE) (m : G → M D) : Prop :=
  ∀ e g s w S Q, Wd.ok C S w → From e w → RepG C e w s g → (m g S).post (KD C w Q) (KE C w W s) → te s w.H Q
def EvL (C : LC) (W : WX) (ta : TA) (m : G → M (List D)) : Prop :=
  ∀ e g s w S Q, Wd.ok C S w → From e w → RepG C e w s g → (m g S).post (KL C w Q) (KE C w W s) → ta s w.H Q
def EvT (C : LC) (W : WX) (tt : TT) (m : G → M Bool) : Prop :=
  ∀ e g s w S Q, Wd.ok C S w → From e w → RepG C e w s g → (m g S).post (KT C w Q) (KE C w W s) → tt s w.H Q
theorem KE.to {C : LC} {w w' : Wd} {W : WX} {s : L2.St} (f : From w w') {er : Er} {S : Store} (h : KE C w W s er S) : KE C w' W s er S := fun cls d w2 f2 k r => h cls d w2 (f.trans f2) k r

/-- the result shared -/
def dm (m : M DV) : M D := bind m fun dv => ret dv.d
theorem EvO.d {C : LC} {W : WX} {te : TE} {m : G → M DV} (h : EvO C W te m) : EvD C W te (fun g => dm (m g)) := fun e g s w S Q k f r p => by
  refine h e g s w S Q k f r (post_mono (post_bind.mp p) (fun dv S' q v w' f' k' rv => ?_) fun _ _ x => x)
  obtain ⟨H0', f2, k2, r2⟩ := rv.shared f' k'
  exact q v ⟨w'.mu, H0', w'.H⟩ f2 k2 r2
def om (m : M D) : M DV := bind m fun d => ret (.sh d)
theorem EvD.o {C : LC} {W : WX} {te : TE} {m : G → M D} (h : EvD C W te m) : EvO C W te (fun g => om (m g)) := fun e g s w S Q k f r p =>
  h e g s w S Q k f r (post_mono (post_bind.mp p) (fun d S' q v w' f' k' rv => q v w' f' k' rv) fun _ _ x => x)

/-! ### judgements -/
def DO {ι : Type} (C : LC) (X : ι → Cx) (W : WX) (e : Expr) (m : G → M DV) : Prop := ∃ te, (∀ i, PE (X i) e te) ∧ EvO C W te m
def DE {ι : Type} (C : LC) (X : ι → Cx) (W : WX) (e : Expr) (m : G → M D) : Prop := ∃ te, (∀ i, PE (X i) e te) ∧ EvD C W te m
def DA {ι : Type} (C : LC) (X : ι → Cx) (W : WX) (es : List Expr) (m : G → M (List D)) : Prop := ∃ ta, (∀ i, PA (X i) es ta) ∧ EvL C W ta m
def DT {ι : Type} (C : LC) (X : ι → Cx) (W : WX) (e : Expr) (m : G → M Bool) : Prop := ∃ tt, (∀ i, PT (X i) e tt) ∧ EvT C W tt m
section
variable {ι : Type} {C : LC} {X : ι → Cx} {W : WX} {e a b : Expr} {es : List Expr}
theorem DO.d {m : G → M DV} : DO C X W e m → DE C X W e (fun g => dm (m g)) := fun ⟨te, p, h⟩ => ⟨te, p, h.d⟩
theorem DE.o {m : G → M D} : DE C X W e m → DO C X W e (fun g => om (m g)) := fun ⟨te, p, h⟩ => ⟨te, p, h.o⟩
/-- names -/
def gv (i : Nat) : G → M D := fun g => match g[i]? with
  | some (.sh d) => ret d
  | _ => stuck
theorem ed_var {i : Nat} : EvD C W (tVar i) (gv i) := fun e g s w S Q k f r p => by
  unfold gv at p
  cases hg : g[i]? with
  | none => rw [hg] at p; exact p.elim
  | some x =>
    rw [hg] at p
    cases x with
    | sh d =>
      obtain ⟨o, h1, v, e1, h2⟩ := r.at_ i _ hg
      subst e1
      exact ⟨v, h1, p v w (From.refl w) k h2⟩
    | un => exact p.elim
    | ow d => exact p.elim
theorem de_v {i : Nat} (h : ∀ j, PE (X j) e (tVar i)) : DE C X W e (gv i) := ⟨_, h, ed_var⟩
theorem ed_c {v : V} {d : D} (h : ∀ w : Wd, Rep C w.mu w.H0 d v) : EvD C W (tC v) (fun _ => ret d) := fun e g s w S Q k f r p => p v w (From.refl w) k (h w)
theorem de_int {i j pos} : DE C X W (.Constant (.int i) j pos) (fun _ => ret (.int i)) := ⟨_, fun _ => pe_int, ed_c fun w => by simp only [Rep]⟩
theorem de_bl {b j pos} : DE C X W (.Constant (.bool b) j pos) (fun _ => ret (.bl b)) := ⟨_, fun _ => pe_bl, ed_c fun w => by simp only [Rep]⟩
theorem de_str {x j pos} (h : sOk x := by decide +kernel) : DE C X W (.Constant (.str x) j pos) (fun _ => ret (.str x)) := ⟨_, fun _ => pe_str, ed_c fun w => by simp only [Rep]; exact ⟨trivial, h⟩⟩
theorem de_non {j pos} : DE C X W (.Constant .none j pos) (fun _ => ret .non) := ⟨_, fun _ => pe_non, ed_c fun w => by simp only [Rep]⟩

/-! ### one operand, two operands -/
abbrev K0 : Er → Store → Prop := fun _ _ => False
def O1 (C : LC) (r : V → Hp → VK → Prop) (f : D → M DV) : Prop := ∀ w S x dx (Q : VK), Wd.ok C S w → Rep C w.mu w.H0 dx x → (f dx S).post (KO C w Q) K0 → r x w.H Q
def O2 (C : LC) (r : R2) (f : D → D → M DV) : Prop := ∀ w S x y dx dy (Q : VK), Wd.ok C S w → Rep C w.mu w.H0 dx x → Rep C w.mu w.H0 dy y → (f dx dy S).post (KO C w Q) K0 → r x y w.H Q
/-- errors of an operation are no way out: it does not raise -/
def nox {α : Type} (m : M α) : M α := fun S => match m S with
  | .ok a S' => .ok a S'
  | _ => .stuck
theorem post_nox {α : Type} {m : M α} {S : Store} {Q : α → Store → Prop} {E : Er → Store → Prop} (h : (nox m S).post Q E) : (m S).post Q K0 := by
  unfold nox at h
  cases e : m S with
  | ok a S' => rw [e] at h; exact h
  | err _ _ => rw [e] at h; exact h.elim
  | stuck => rw [e] at h; exact h.elim
theorem RV.from {w w1 w2 : Wd} (f : From w w1) {v : V} : ∀ {dv : DV}, RV C w1 w2 dv v → RV C w w2 dv v
  | .sh _, h => h
  | .ow _, ⟨p, e, n, n0, nm, r⟩ => ⟨p, e, fresh_from f n, n0, nm, r⟩
theorem KO.to {w w' : Wd} {Q : VK} (f : From w w') {dv : DV} {S : Store} (h : KO C w Q dv S) : KO C w' Q dv S := fun v w2 f2 k r => h v w2 (f.trans f2) k (r.from f)
theorem ev1 {ta : TE} {ma : G → M D} {r : V → Hp → VK → Prop} {f : D → M DV} (ha : EvD C W ta ma) (hr : O1 C r f) : EvO C W (fun s H Q => ta s H fun x H1 => r x H1 Q) (fun g => bind (ma g) fun x => nox (f x)) := fun e g s w S Q k fr rg p => by
  refine ha e g s w S _ k fr rg (post_mono (post_bind.mp p) (fun dx S1 q x w1 f1 k1 rx => ?_) fun _ _ z => z)
  exact hr w1 S1 x dx Q k1 rx (post_mono (post_nox q) (fun dv S2 q2 => q2.to f1) fun _ _ z => z)
theorem ev2 {ta tb : TE} {ma mb : G → M D} {r : R2} {f : D → D → M DV} (ha : EvD C W ta ma) (hb : EvD C W tb mb) (hr : O2 C r f) : EvO C W (tOp r ta tb) (fun g => bind (ma g) fun x => bind (mb g) fun y => nox (f x y)) := fun e g s w S Q k fr rg p => by
  refine ha e g s w S _ k fr rg (post_mono (post_bind.mp p) (fun dx S1 q x w1 f1 k1 rx => ?_) fun _ _ z => z)
  refine hb e g s w1 S1 _ k1 (fr.trans f1) (rg.to f1) (post_mono (post_bind.mp q) (fun dy S2 q2 y w2 f2 k2 ry => ?_) fun _ _ z => z.to f1)
  exact hr w2 S2 x y dx dy Q k2 (rx.to f2) ry (post_mono (post_nox q2) (fun dv S3 q3 => (q3.to f1).to f2) fun _ _ z => z)
def m2 (f : D → D → M DV) (ma mb : G → M D) : G → M DV := fun g => bind (ma g) fun x => bind (mb g) fun y => nox (f x y)
def m1 (f : D → M DV) (ma : G → M D) : G → M DV := fun g => bind (ma g) fun x => nox (f x)

/-! ### lists of arguments -/
theorem da_nil : DA C X W [] (fun _ => ret []) := ⟨_, fun _ => pa_nil, fun e g s w S Q k f r p => p [] w (From.refl w) k (by simp only [RepL])⟩
def mcons (ma : G → M D) (mr : G → M (List D)) : G → M (List D) := fun g => bind (ma g) fun x => bind (mr g) fun xs => ret (x :: xs)
theorem el_cons {ta : TE} {tr : TA} {ma : G → M D} {mr : G → M (List D)} (ha : EvD C W ta ma) (hr : EvL C W tr mr) : EvL C W (tCons ta tr) (mcons ma mr) := fun e g s w S Q k fr rg p => by
  refine ha e g s w S _ k fr rg (post_mono (post_bind.mp p) (fun dx S1 q x w1 f1 k1 rx => ?_) fun _ _ z => z)
  refine hr e g s w1 S1 _ k1 (fr.trans f1) (rg.to f1) (post_mono (post_bind.mp q) (fun dy S2 q2 y w2 f2 k2 ry => ?_) fun _ _ z => z.to f1)
  exact q2 (x :: y) w2 (f1.trans f2) k2 (by simp only [RepL]; exact ⟨x, y, rfl, rx.to f2, ry⟩)
theorem da_cons {ma : G → M D} {mr : G → M (List D)} (ha : DE C X W e ma) (hr : DA C X W es mr) (hs : ∀ i, starEach (e :: es) (X i).env = (false, eval e (X i).env) :: starEach es (X i).env := by exact fun _ => rfl) : DA C X W (e :: es) (mcons ma mr) := by
  obtain ⟨te, p, h⟩ := ha
  obtain ⟨ta, q, h2⟩ := hr
  exact ⟨_, fun i => pa_cons (p i) (q i) (hs i), el_cons h h2⟩
end

/-! ### peeking: the value may be a root that a slot holds -/
def PRep (C : LC) (w : Wd) (d : D) (v : V) : Prop := Rep C w.mu w.H0 d v ∨ ∃ p, v = .ref p ∧ w.H0 p = none ∧ p ∉ w.mu ∧ CRep C w.mu w.H0 (w.H p) d
section
variable {ι : Type} {C : LC} {X : ι → Cx} {W : WX} {e a b : Expr} {es : List Expr}
theorem PRep.to {w w' : Wd} {d : D} {v : V} (h : From w w') : PRep C w d v → PRep C w' d v
  | .inl r => .inl (r.to h)
  | .inr ⟨p, e1, e3, e4, r⟩ => by
    obtain ⟨u, hu, ht⟩ := r.some
    obtain ⟨k1, k2, k3⟩ := h.fr p u hu e3 e4 ht
    refine .inr ⟨p, e1, k2, k3, ?_⟩
    rw [k1, ← hu]
    exact r.mono (Sm.of h.ex0) h.pre
theorem CRep.rep {mu : List Addr} {H0 H : Hp} {p : Addr} : ∀ {d : D}, Ex H0 H → CRep C mu H0 (H p) d → Rep C mu H d (.ref p)
  | .lst ds, e, ⟨vs, h1, h2⟩ => by simp only [Rep]; exact ⟨p, vs, rfl, h1, h2.mono (Sm.of e) (List.prefix_refl _)⟩
  | .dct kvs, e, ⟨us, h1, h2⟩ => by simp only [Rep]; exact ⟨p, us, rfl, .inl h1, h2.mono (Sm.of e) (List.prefix_refl _)⟩
  | .dtt kvs, e, ⟨us, h1, h2⟩ => by simp only [Rep]; exact ⟨p, us, rfl, .inl h1, h2.mono (Sm.of e) (List.prefix_refl _)⟩
  | .ins c fs, e, ⟨dx, us, h1, h2⟩ => by simp only [Rep]; exact ⟨p, dx, us, rfl, h1, h2.mono (Sm.of e) (List.prefix_refl _)⟩
theorem PRep.rep {S : Store} {w : Wd} {d : D} {v : V} (k : w.ok C S) : PRep C w d v → Rep C w.mu w.H d v
  | .inl r => r.mono (Sm.of k.ex) (List.prefix_refl _)
  | .inr ⟨p, e1, _, _, r⟩ => by subst e1; exact r.rep k.ex
abbrev KP (C : LC) (w : Wd) (Q : VK) : D → Store → Prop := fun d S' => ∀ v w', From w w' → w'.ok C S' → PRep C w' d v → Q v w'.H
def EvP (C : LC) (W : WX) (te : TE) (m : G → M D) : Prop :=
  ∀ e g s w S Q, Wd.ok C S w → From e w → RepG C e w s g → (m g S).post (KP C w Q) (KE C w W s) → te s w.H Q
def DP {ι : Type} (C : LC) (X : ι → Cx) (W : WX) (e : Expr) (m : G → M D) : Prop := ∃ te, (∀ i, PE (X i) e te) ∧ EvP C W te m
theorem DE.p {m : G → M D} : DE C X W e m → DP C X W e m := fun ⟨te, p, h⟩ => ⟨te, p, fun e g s w S Q k f r q => h e g s w S Q k f r (post_mono q (fun d S' h v w' f' k' r' => h v w' f' k' (.inl r')) fun _ _ x => x)⟩
def gp (i : Nat) : G → M D := fun g => match g[i]? with
  | some (.sh d) => ret d
  | some (.ow d) => ret d
  | _ => stuck
theorem dp_v {i : Nat} (h : ∀ j, PE (X j) e (tVar i)) : DP C X W e (gp i) := ⟨_, h, fun e g s w S Q k f r p => by
  unfold gp at p
  cases hg : g[i]? with
  | none => rw [hg] at p; exact p.elim
  | some x =>
    rw [hg] at p
    cases x with
    | sh d =>
      obtain ⟨o, h1, v, e1, h2⟩ := r.at_ i _ hg
      subst e1
      exact ⟨v, h1, p v w (From.refl w) k (.inl h2)⟩
    | un => exact p.elim
    | ow d =>
      obtain ⟨o, h1, v, e1, _, e3, e4, h2⟩ := r.at_ i _ hg
      subst e1
      exact ⟨.ref v, h1, p _ w (From.refl w) k (.inr ⟨v, rfl, e3, e4, h2⟩)⟩⟩
def Q1 (C : LC) (r : V → Hp → VK → Prop) (f : D → M D) : Prop := ∀ w S x dx (Q : VK), Wd.ok C S w → PRep C w dx x → (f dx S).post (KD C w Q) K0 → r x w.H Q
def Q2 (C : LC) (r : R2) (f : D → D → M D) : Prop := ∀ w S x y dx dy (Q : VK), Wd.ok C S w → PRep C w dx x → PRep C w dy y → (f dx dy S).post (KD C w Q) K0 → r x y w.H Q
theorem KD.to {w w' : Wd} {Q : VK} (f : From w w') {d : D} {S : Store} (h : KD C w Q d S) : KD C w' Q d S := fun v w2 f2 k r => h v w2 (f.trans f2) k r
def n2 (f : D → D → M D) (ma mb : G → M D) : G → M D := fun g => bind (ma g) fun x => bind (mb g) fun y => nox (f x y)
def n1 (f : D → M D) (ma : G → M D) : G → M D := fun g => bind (ma g) fun x => nox (f x)
theorem evq1 {ta : TE} {ma : G → M D} {r : V → Hp → VK → Prop} {f : D → M D} (ha : EvP C W ta ma) (hr : Q1 C r f) : EvD C W (fun s H Q => ta s H fun x H1 => r x H1 Q) (n1 f ma) := fun e g s w S Q k fr rg p => by
  refine ha e g s w S _ k fr rg (post_mono (post_bind.mp p) (fun dx S1 q x w1 f1 k1 rx => ?_) fun _ _ z => z)
  exact hr w1 S1 x dx Q k1 rx (post_mono (post_nox q) (fun dv S2 q2 => q2.to f1) fun _ _ z => z)
theorem evq2 {ta tb : TE} {ma mb : G → M D} {r : R2} {f : D → D → M D} (ha : EvP C W ta ma) (hb : EvP C W tb mb) (hr : Q2 C r f) : EvD C W (tOp r ta tb) (n2 f ma mb) := fun e g s w S Q k fr rg p => by
  refine ha e g s w S _ k fr rg (post_mono (post_bind.mp p) (fun dx S1 q x w1 f1 k1 rx => ?_) fun _ _ z => z)
  refine hb e g s w1 S1 _ k1 (fr.trans f1) (rg.to f1) (post_mono (post_bind.mp q) (fun dy S2 q2 y w2 f2 k2 ry => ?_) fun _ _ z => z.to f1)
  exact hr w2 S2 x y dx dy Q k2 (rx.to f2) ry (post_mono (post_nox q2) (fun dv S3 q3 => (q3.to f1).to f2) fun _ _ z => z)
end
end DL
end

section
namespace DL
open PySem PySem.Spec PyProof.Rows L2 Evl

/-! ### pure data, and as the model compares it -/
mutual
def D.pur : D → Nat → Bool
  | .non, _ => true
  | .bl _, _ => true
  | .int _, _ => true
  | .str _, _ => true
  | .lst xs, n + 1 => purAll xs n
  | .tup xs, n + 1 => purAll xs n
  | _, _ => false
def purAll : List D → Nat → Bool
  | [], _ => true
  | x :: xs, n => x.pur n && purAll xs n
end
mutual
def D.pd : D → PyData
  | .bl b => .bool b
  | .int i => .int i
  | .str s => .str s
  | .lst xs => .list (pdAll xs)
  | .tup xs => .tuple (pdAll xs)
  | _ => .none
def pdAll : List D → List PyData
  | [] => []
  | x :: xs => x.pd :: pdAll xs
end
theorem pdAll_map : ∀ xs : List D, pdAll xs = xs.map D.pd
  | [] => by simp only [pdAll, List.map_nil]
  | x :: xs => by simp only [pdAll, List.map_cons, pdAll_map xs]
theorem purAll_all : ∀ (xs : List D) (n : Nat), purAll xs n = xs.all fun x => x.pur n
  | [], n => by simp only [purAll, List.all_nil]
  | x :: xs, n => by simp only [purAll, List.all_cons, purAll_all xs n]
section
variable {C : LC} {mu : List Addr} {H : Hp}
mutual
theorem pur_dp : ∀ {d : D} {n : Nat} {v : V}, d.pur n = true → Rep C mu H d v → Dp C.K H v d.pd ∧ d.pd.canLay0 = true ∧ d.pd.depth ≤ n
  | .non, n, v, _, r => by
    simp only [Rep] at r; subst r
    simp only [D.pd, PyData.canLay0, PyData.depth]
    exact ⟨.non, trivial, Nat.zero_le _⟩
  | .bl b, n, v, _, r => by
    simp only [Rep] at r; subst r
    simp only [D.pd, PyData.canLay0, PyData.depth]
    exact ⟨.bl b, trivial, Nat.zero_le _⟩
  | .int i, n, v, _, r => by
    simp only [Rep] at r; subst r
    simp only [D.pd, PyData.canLay0, PyData.depth]
    exact ⟨.int i, trivial, Nat.zero_le _⟩
  | .str s, n, v, _, r => by
    simp only [Rep] at r
    obtain ⟨rfl, h, _⟩ := r
    simp only [D.pd, PyData.canLay0, PyData.depth]
    exact ⟨.str s, h, Nat.zero_le _⟩
  | .lst xs, 0, v, h, _ => by simp [D.pur] at h
  | .lst xs, n + 1, v, h, r => by
    simp only [D.pur] at h
    simp only [Rep] at r
    obtain ⟨a, vs, rfl, e, r⟩ := r
    obtain ⟨h1, h2, h3⟩ := pur_dps h r
    simp only [D.pd, PyData.canLay0, PyData.depth]
    exact ⟨.lst (.inl (.inl e)) h1, h2, Nat.succ_le_succ h3⟩
  | .tup xs, 0, v, h, _ => by simp [D.pur] at h
  | .tup xs, n + 1, v, h, r => by
    simp only [D.pur] at h
    simp only [Rep] at r
    obtain ⟨a, vs, rfl, e, r⟩ := r
    obtain ⟨h1, h2, h3⟩ := pur_dps h r
    simp only [D.pd, PyData.canLay0, PyData.depth]
    exact ⟨.tup (.inl (.inl e)) h1, h2, Nat.succ_le_succ h3⟩
  | .dct _, n, v, h, _ => by simp [D.pur] at h
  | .dtt _, n, v, h, _ => by simp [D.pur] at h
  | .ins _ _, n, v, h, _ => by simp [D.pur] at h
  | .lam _ _, n, v, h, _ => by simp [D.pur] at h
  | .cell _, n, v, h, _ => by simp [D.pur] at h
  | .scr _, n, v, h, _ => by simp [D.pur] at h
  | .raw _, n, v, h, _ => by simp [D.pur] at h
theorem pur_dps : ∀ {ds : List D} {n : Nat} {vs : List V}, purAll ds n = true → RepL C mu H ds vs → DpAll C.K H vs (pdAll ds) ∧ PyData.canLayAll0 (pdAll ds) = true ∧ PyData.depthAll (pdAll ds) ≤ n
  | [], n, vs, _, r => by
    simp only [RepL] at r; subst r
    simp only [pdAll, PyData.canLayAll0, PyData.depthAll]
    exact ⟨.nil, trivial, Nat.zero_le _⟩
  | d :: ds, n, vs, h, r => by
    simp only [purAll, Bool.and_eq_true] at h
    simp only [RepL] at r
    obtain ⟨v, vs', rfl, r1, r2⟩ := r
    obtain ⟨a1, a2, a3⟩ := pur_dp h.1 r1
    obtain ⟨b1, b2, b3⟩ := pur_dps h.2 r2
    simp only [pdAll, PyData.canLayAll0, PyData.depthAll, a2, b2, Bool.and_self]
    exact ⟨.cons a1 b1, trivial, Nat.max_le.mpr ⟨a3, b3⟩⟩
end
theorem pur_shaped {d : D} {v : V} (h : d.pur 60 = true) (r : Rep C mu H d v) : Dp C.K H v d.pd ∧ SeqAt.shaped d.pd = true := by
  obtain ⟨h1, h2, h3⟩ := pur_dp h r
  refine ⟨h1, ?_⟩
  show (d.pd.canLay0 && decide (d.pd.depth ≤ 64)) = true
  rw [h2, Bool.true_and]
  exact decide_eq_true (by omega)
end
def D.eqv (a b : D) : Bool := PyData.eqv a.pd b.pd

/-! ### operators by values -/
def vI (f : Int → Int → Int) : D → D → M D
  | .int i, .int j => ret (.int (f i j))
  | _, _ => stuck
def vB (f : Int → Int → Bool) : D → D → M D
  | .int i, .int j => ret (.bl (f i j))
  | _, _ => stuck
def vC (c : Int → Int → Bool) (f : Int → Int → Int) : D → D → M D
  | .int i, .int j => if c i j = true then ret (.int (f i j)) else stuck
  | _, _ => stuck
section
variable {C : LC} {X : Cx} {W : WX} {a b : Expr}
theorem PRep.int {w : Wd} {i : Int} {v : V} (r : PRep C w (.int i) v) : v = .int i := by
  rcases r with r | ⟨_, _, _, _, r⟩
  · simpa only [Rep] using r
  · exact r.elim
theorem PRep.bl {w : Wd} {i : Bool} {v : V} (r : PRep C w (.bl i) v) : v = .bl i := by
  rcases r with r | ⟨_, _, _, _, r⟩
  · simpa only [Rep] using r
  · exact r.elim
theorem PRep.non {w : Wd} {v : V} (r : PRep C w .non v) : v = .non := by
  rcases r with r | ⟨_, _, _, _, r⟩
  · simpa only [Rep] using r
  · exact r.elim
theorem PRep.str {w : Wd} {i : Str} {v : V} (r : PRep C w (.str i) v) : v = .str i ∧ sOk i := by
  rcases r with r | ⟨_, _, _, _, r⟩
  · simpa only [Rep] using r
  · exact r.elim
theorem PRep.lst {w : Wd} {S : Store} {ds : List D} {v : V} (k : w.ok C S) (r : PRep C w (.lst ds) v) : ∃ p vs, v = .ref p ∧ w.H p = some (.lst vs) ∧ RepL C w.mu w.H0 ds vs := by
  rcases r with r | ⟨p, e1, _, _, vs, h1, h2⟩
  · simp only [Rep] at r
    obtain ⟨a, vs, e1, e2, e3⟩ := r
    exact ⟨a, vs, e1, k.ex _ _ e2, e3⟩
  · exact ⟨p, vs, e1, h1, h2⟩
theorem PRep.tup {w : Wd} {S : Store} {ds : List D} {v : V} (k : w.ok C S) (r : PRep C w (.tup ds) v) : ∃ p vs, v = .ref p ∧ w.H p = some (.tup vs) ∧ RepL C w.mu w.H0 ds vs := by
  rcases r with r | ⟨p, e1, _, _, r⟩
  · simp only [Rep] at r
    obtain ⟨a, vs, e1, e2, e3⟩ := r
    exact ⟨a, vs, e1, k.ex _ _ e2, e3⟩
  · exact r.elim
theorem kint {w : Wd} {S : Store} {Q : VK} {i : Int} (k : w.ok C S) (p : KD C w Q (.int i) S) : Q (.int i) w.H := p _ w (From.refl w) k (by simp only [Rep])
theorem kbl {w : Wd} {S : Store} {Q : VK} {i : Bool} (k : w.ok C S) (p : KD C w Q (.bl i) S) : Q (.bl i) w.H := p _ w (From.refl w) k (by simp only [Rep])
theorem kstr {w : Wd} {S : Store} {Q : VK} {i : Str} (k : w.ok C S) (h : sOk i) (p : KD C w Q (.str i) S) : Q (.str i) w.H := p _ w (From.refl w) k (by simp only [Rep]; exact ⟨trivial, h⟩)
theorem q2_I {f : Int → Int → Int} : Q2 C (rI0 fun i j => .int (f i j)) (vI f) := fun w S x y dx dy Q k rx ry p => by
  unfold vI at p
  split at p
  · obtain rfl := rx.int; obtain rfl := ry.int
    exact ⟨_, _, rfl, rfl, kint k p⟩
  · exact p.elim
theorem q2_B {f : Int → Int → Bool} : Q2 C (rI0 fun i j => .bl (f i j)) (vB f) := fun w S x y dx dy Q k rx ry p => by
  unfold vB at p
  split at p
  · obtain rfl := rx.int; obtain rfl := ry.int
    exact ⟨_, _, rfl, rfl, kbl k p⟩
  · exact p.elim
theorem q2_C {c : Int → Int → Bool} {R : Int → Int → Prop} {f : Int → Int → Int} (h : ∀ i j, c i j = true → R i j) : Q2 C (rI R fun i j => .int (f i j)) (vC c f) := fun w S x y dx dy Q k rx ry p => by
  unfold vC at p
  split at p
  · obtain rfl := rx.int; obtain rfl := ry.int
    split at p
    · rename_i hc
      exact ⟨_, _, rfl, rfl, h _ _ hc, kint k p⟩
    · exact p.elim
  · exact p.elim
/-- + of ints, texts, lists, tuples -/
def vAdd : D → D → M DV
  | .int i, .int j => ret (.sh (.int (i + j)))
  | .str a, .str b => if a.length + b.length ≤ 1000000 then ret (.sh (.str (a ++ b))) else stuck
  | .lst xs, .lst ys => if xs.length + ys.length ≤ 1000000 then ret (.ow (.lst (xs ++ ys))) else stuck
  | .tup xs, .tup ys => if xs.length + ys.length ≤ 1000000 then ret (.sh (.tup (xs ++ ys))) else stuck
  | _, _ => stuck
theorem sOk_append {a b : Str} (h1 : sOk a) (h2 : sOk b) (h : a.length + b.length ≤ 1000000) : sOk (a ++ b) := by
  refine ⟨?_, ?_⟩
  · have e : (a ++ b).cps = a.cps ++ b.cps := rfl
    have q1 : a.cps.all (· < 0x110000) = true := h1.1
    have q2 : b.cps.all (· < 0x110000) = true := h2.1
    show (a ++ b).cps.all (· < 0x110000) = true
    rw [e, Array.all_append, q1, q2]; rfl
  · show (a.cps ++ b.cps).size ≤ 1000000
    rw [Array.size_append]; exact h
theorem line_of {n : Nat} (h : n ≤ 1000000) : n ≤ sizeLine := Nat.le_trans h (by decide)
/-- a new list, a new tuple -/
theorem new_lst {w : Wd} {S : Store} {ds : List D} {vs : List V} {Q : VK} {Q' : DV → Store → Prop} (k : w.ok C S) (r : RepL C w.mu w.H0 ds vs) (p : KO C w Q (.ow (.lst ds)) S) {a : Addr} (n : w.H a = none) : Q (.ref a) (upd w.H a (.lst vs)) := by
  refine p (.ref a) ⟨w.mu, w.H0, upd w.H a (.lst vs)⟩ (From.new n) (k.new n) ⟨a, rfl, n, k.none0 n, k.nmu n, vs, upd_same, r⟩
theorem new_tup {w : Wd} {S : Store} {ds : List D} {vs : List V} {Q : VK} (k : w.ok C S) (r : RepL C w.mu w.H0 ds vs) (p : KO C w Q (.sh (.tup ds)) S) {a : Addr} (n : w.H a = none) : Q (.ref a) (upd w.H a (.tup vs)) := by
  have n0 := k.none0 n
  have e1 : Ex w.H0 (upd w.H0 a (.tup vs)) := Ex.new n0
  have f := From.new (o := .tup vs) n
  have k2 := k.new (o := .tup vs) n
  refine p (.ref a) ⟨w.mu, upd w.H0 a (.tup vs), upd w.H a (.tup vs)⟩ ⟨f.ex0.trans e1, f.pre, f.all, fun b o h1 h2 h3 h4 => ?_⟩ ⟨fun b o h => ?_, fun b h => ?_, k2.nd, k2.len, fun i c b h1 h2 => (k2.cel i c b h1 h2).mono (Sm.of e1) (List.prefix_refl _), k2.tab⟩ ?_
  · obtain ⟨q1, q2, q3⟩ := f.fr b o h1 h2 h3 h4
    exact ⟨q1, by show upd w.H0 a (.tup vs) b = none; rw [upd_ne (ne_of_none h1 n)]; exact q2, q3⟩
  · have h : upd w.H0 a (.tup vs) b = some o := h
    show upd w.H a (.tup vs) b = some o
    by_cases q : b = a
    · subst q; rw [upd_same] at h ⊢; exact h
    · rw [upd_ne q] at h ⊢; exact k.ex b o h
  · show upd w.H0 a (.tup vs) b = none
    rw [upd_ne (fun z : b = a => k.nmu n (by rw [← z]; exact h))]
    exact k.out b h
  · simp only [RV, Rep]
    exact ⟨a, vs, rfl, upd_same, r.mono (Sm.of e1) (List.prefix_refl _)⟩
theorem o2_add : O2 C (fun x y H Q => (rI0 fun i j => .int (i + j)) x y H Q ∨ (fun x y H Q => ∃ i j, x = .str i ∧ y = .str j ∧ i.length + j.length ≤ sizeLine ∧ Q (.str (i ++ j)) H) x y H Q ∨ rCat x y H Q ∨ rCatA C.K x y H Q) vAdd := fun w S x y dx dy Q k rx ry p => by
  unfold vAdd at p
  split at p
  · simp only [Rep] at rx ry
    subst rx; subst ry
    exact .inl ⟨_, _, rfl, rfl, p _ w (From.refl w) k (by simp only [RV, Rep])⟩
  · simp only [Rep] at rx ry
    obtain ⟨rfl, s1⟩ := rx
    obtain ⟨rfl, s2⟩ := ry
    split at p
    · rename_i hl
      exact .inr (.inl ⟨_, _, rfl, rfl, line_of hl, p _ w (From.refl w) k (by simp only [RV, Rep]; exact ⟨trivial, sOk_append s1 s2 hl⟩)⟩)
    · exact p.elim
  · simp only [Rep] at rx ry
    obtain ⟨a, us, rfl, e1, r1⟩ := rx
    obtain ⟨b, vs, rfl, e2, r2⟩ := ry
    split at p
    · rename_i hl
      refine .inr (.inr (.inl ⟨a, b, us, vs, rfl, rfl, k.ex _ _ e1, k.ex _ _ e2, line_of (by rw [← r1.length, ← r2.length]; exact hl), fun q n => ?_⟩))
      exact new_lst (Q' := fun _ _ => True) k (r1.append r2) p n
    · exact p.elim
  · simp only [Rep] at rx ry
    obtain ⟨a, us, rfl, e1, r1⟩ := rx
    obtain ⟨b, vs, rfl, e2, r2⟩ := ry
    split at p
    · rename_i hl
      refine .inr (.inr (.inr ⟨a, b, us, vs, rfl, rfl, .inl (.inl (k.ex _ _ e1)), .inl (.inl (k.ex _ _ e2)), line_of (by rw [← r1.length, ← r2.length]; exact hl), fun z => ?_, fun z1 z2 => ?_, fun z1 z2 q n => ?_⟩))
      · subst z
        have := r1.length; simp at this; subst this
        exact p _ w (From.refl w) k (by simp only [RV, Rep, List.nil_append]; exact ⟨b, vs, rfl, e2, r2⟩)
      · subst z2
        have := r2.length; simp at this; subst this
        exact p _ w (From.refl w) k (by simp only [RV, Rep, List.append_nil]; exact ⟨a, us, rfl, e1, r1⟩)
      · exact new_tup k (r1.append r2) p n
    · exact p.elim
  · exact p.elim
theorem op_addA : OpR X (binaryOp .Add) (fun x y H Q => (rI0 fun i j => .int (i + j)) x y H Q ∨ (fun x y H Q => ∃ i j, x = .str i ∧ y = .str j ∧ i.length + j.length ≤ sizeLine ∧ Q (.str (i ++ j)) H) x y H Q ∨ rCat x y H Q ∨ rCatA X.K x y H Q) :=
  op_add.or (op_add_str.or (op_cat.or op_catA))
/-- == and != of data -/
def vEq : D → D → M D := fun a b => if (a.pur 60 && b.pur 60) = true then ret (.bl (a.eqv b)) else stuck
def vNe : D → D → M D := fun a b => if (a.pur 60 && b.pur 60) = true then ret (.bl (!a.eqv b)) else stuck
theorem q2_eq : Q2 C (rEqD C.K) vEq := fun w S x y dx dy Q k rx ry p => by
  unfold vEq at p
  split at p
  · rename_i h
    rw [Bool.and_eq_true] at h
    obtain ⟨a1, a2⟩ := pur_shaped h.1 (rx.rep k)
    obtain ⟨b1, b2⟩ := pur_shaped h.2 (ry.rep k)
    exact ⟨_, _, a1, b1, a2, b2, kbl k p⟩
  · exact p.elim
theorem q2_ne : Q2 C (rNeD C.K) vNe := fun w S x y dx dy Q k rx ry p => by
  unfold vNe at p
  split at p
  · rename_i h
    rw [Bool.and_eq_true] at h
    obtain ⟨a1, a2⟩ := pur_shaped h.1 (rx.rep k)
    obtain ⟨b1, b2⟩ := pur_shaped h.2 (ry.rep k)
    exact ⟨_, _, a1, b1, a2, b2, kbl k p⟩
  · exact p.elim
end
end DL
end

section
namespace DL
open PySem PySem.Spec PyProof.Rows L2 Evl
instance decMul (i j : Int) : Decidable (CMul i j) := inferInstanceAs (Decidable (_ ∨ _))
instance decDiv (i j : Int) : Decidable (CDiv i j) := inferInstanceAs (Decidable (_ ∧ _))
instance decPow (i j : Int) : Decidable (CPow i j) := inferInstanceAs (Decidable (_ ∧ _))
section
variable {ι : Type} {C : LC} {X : ι → Cx} {Y : Cx} {W : WX} {a b c e : Expr} {es : List Expr} {pos : Pos}
/-! ### arithmetic, comparisons -/
theorem de_bin {op : Operator} {r : R2} {f : D → D → M D} {ma mb : G → M D} (ho : ∀ i, OpR (X i) (binaryOp op) r) (hq : Q2 C r f) (ha : DP C X W a ma) (hb : DP C X W b mb) : DE C X W (.BinOp a op b pos) (n2 f ma mb) := by
  obtain ⟨ta, pa, ea⟩ := ha; obtain ⟨tb, pb, eb⟩ := hb
  exact ⟨_, fun i => pe_op (ho i) (pa i) (pb i), evq2 ea eb hq⟩
theorem do_bin {op : Operator} {r : R2} {f : D → D → M DV} {ma mb : G → M D} (ho : ∀ i, OpR (X i) (binaryOp op) r) (hq : O2 C r f) (ha : DE C X W a ma) (hb : DE C X W b mb) : DO C X W (.BinOp a op b pos) (m2 f ma mb) := by
  obtain ⟨ta, pa, ea⟩ := ha; obtain ⟨tb, pb, eb⟩ := hb
  exact ⟨_, fun i => pe_op (ho i) (pa i) (pb i), ev2 ea eb hq⟩
def vSub := vI fun i j => i - j
def vFdiv := vC (fun i j => decide (CDiv i j)) fun i j => i / j
def vMod := vC (fun _ j => decide (0 < j)) fun i j => i % j
def vPow := vC (fun i j => decide (CPow i j)) fun i j => i ^ j.toNat
def vShr := vC (fun _ j => decide (0 ≤ j)) fun i j => i / 2 ^ j.toNat
def vLt := vB fun i j => decide (i < j)
def vLe := vB fun i j => decide (i ≤ j)
def vGt := vB fun i j => decide (j < i)
def vGe := vB fun i j => decide (j ≤ i)
variable {ma mb mc : G → M D}
theorem de_sub (ha : DP C X W a ma) (hb : DP C X W b mb) : DE C X W (.BinOp a .Sub b pos) (n2 vSub ma mb) := de_bin (fun _ => op_sub) q2_I ha hb
theorem de_fdiv (ha : DP C X W a ma) (hb : DP C X W b mb) : DE C X W (.BinOp a .FloorDiv b pos) (n2 vFdiv ma mb) := de_bin (fun _ => op_fdiv) (q2_C fun _ _ h => of_decide_eq_true h) ha hb
theorem de_mod (ha : DP C X W a ma) (hb : DP C X W b mb) : DE C X W (.BinOp a .Mod b pos) (n2 vMod ma mb) := de_bin (fun _ => op_mod) (q2_C fun _ _ h => of_decide_eq_true h) ha hb
theorem de_pow (ha : DP C X W a ma) (hb : DP C X W b mb) : DE C X W (.BinOp a .Pow b pos) (n2 vPow ma mb) := de_bin (fun _ => op_pow) (q2_C fun _ _ h => of_decide_eq_true h) ha hb
theorem de_shr (ha : DP C X W a ma) (hb : DP C X W b mb) : DE C X W (.BinOp a .RShift b pos) (n2 vShr ma mb) := de_bin (fun _ => op_shr) (q2_C fun _ _ h => of_decide_eq_true h) ha hb
theorem do_add (ha : DE C X W a ma) (hb : DE C X W b mb) (hK : ∀ i, (X i).K = C.K := by exact fun _ => rfl) : DO C X W (.BinOp a .Add b pos) (m2 vAdd ma mb) :=
  do_bin (fun i => by have h := op_addA (X := X i); rw [hK i] at h; exact h) o2_add ha hb
/-- * of ints, of a list and an int -/
def vMul : D → D → M DV
  | .int i, .int j => if CMul i j then ret (.sh (.int (i * j))) else stuck
  | .lst xs, .int k => if -(2 ^ 63) ≤ k ∧ k < 2 ^ 63 ∧ xs.length * k.toNat ≤ 1000000 then ret (.ow (.lst (List.replicate k.toNat xs).flatten)) else stuck
  | _, _ => stuck
theorem RepL.rep {mu : List Addr} {H : Hp} {ds : List D} {vs : List V} (h : RepL C mu H ds vs) : ∀ n : Nat, RepL C mu H (List.replicate n ds).flatten (List.replicate n vs).flatten
  | 0 => by simp only [List.replicate_zero, List.flatten_nil, RepL]
  | n + 1 => by
    rw [List.replicate_succ, List.replicate_succ, List.flatten_cons, List.flatten_cons]
    exact h.append (RepL.rep h n)
theorem o2_mul : O2 C (fun x y H Q => (rI CMul fun i j => .int (i * j)) x y H Q ∨ rRep x y H Q) vMul := fun w S x y dx dy Q k rx ry p => by
  unfold vMul at p
  split at p
  · simp only [Rep] at rx ry
    subst rx; subst ry
    split at p
    · rename_i hc
      exact .inl ⟨_, _, rfl, rfl, hc, p _ w (From.refl w) k (by simp only [RV, Rep])⟩
    · exact p.elim
  · simp only [Rep] at rx ry
    obtain ⟨a, us, rfl, e1, r1⟩ := rx
    subst ry
    split at p
    · rename_i hc
      obtain ⟨h1, h2, h3⟩ := hc
      exact .inr ⟨a, _, us, rfl, rfl, k.ex _ _ e1, h1, h2, line_of (by rw [← r1.length]; exact h3), fun q n => new_lst (Q' := fun _ _ => True) k (r1.rep _) p n⟩
    · exact p.elim
  · exact p.elim
theorem do_mul (ha : DE C X W a ma) (hb : DE C X W b mb) : DO C X W (.BinOp a .Mult b pos) (m2 vMul ma mb) := do_bin (fun _ => op_mul.or op_rep) o2_mul ha hb
def vNeg : D → M D
  | .int i => ret (.int (-i))
  | _ => stuck
theorem de_neg (ha : DP C X W a ma) : DE C X W (.UnaryOp .USub a pos) (n1 vNeg ma) := by
  obtain ⟨ta, pa, ea⟩ := ha
  refine ⟨_, fun i => pe_un un_neg (pa i), evq1 (ta := ta) (r := rU fun i => .int (-i)) (f := vNeg) ea fun w S x dx Q k rx p => ?_⟩
  unfold vNeg at p
  split at p
  · obtain rfl := rx.int
    exact ⟨_, rfl, kint k p⟩
  · exact p.elim

/-- what a comparison computes -/
structure Cm {ι : Type} (C : LC) (X : ι → Cx) (op : CmpOp) (f : D → D → M D) : Prop where
  ex : ∃ r, (∀ i, OpR (X i) (compareOp op) r) ∧ Q2 C r f
theorem cm_lt : Cm C X .Lt vLt := ⟨_, fun _ => op_lt, q2_B⟩
theorem cm_le : Cm C X .LtE vLe := ⟨_, fun _ => op_le, q2_B⟩
theorem cm_gt : Cm C X .Gt vGt := ⟨_, fun _ => op_gt, q2_B⟩
theorem cm_ge : Cm C X .GtE vGe := ⟨_, fun _ => op_ge, q2_B⟩
theorem cm_eq (hu : ∀ i, (X i).A.units + 64 < cLine) (hK : ∀ i, (X i).K = C.K := by exact fun _ => rfl) : Cm C X .Eq vEq := ⟨rEqD C.K, fun i => by rw [← hK i]; exact op_eqD (hu i), q2_eq⟩
theorem cm_ne (hu : ∀ i, (X i).A.units + 64 < cLine) (hK : ∀ i, (X i).K = C.K := by exact fun _ => rfl) : Cm C X .NotEq vNe := ⟨rNeD C.K, fun i => by rw [← hK i]; exact op_neD (hu i), q2_ne⟩
/-- is None, is True .. -/
def isNonD : D → Option Bool
  | .non => some true
  | .cell _ => some false
  | .raw _ => none
  | _ => some false
def vIs : D → D → M D
  | a, .non => match isNonD a with
    | some b => ret (.bl b)
    | none => stuck
  | .bl a, .bl b => ret (.bl (decide (a = b)))
  | _, _ => stuck
def vIsNot : D → D → M D
  | a, .non => match isNonD a with
    | some b => ret (.bl (!b))
    | none => stuck
  | .bl a, .bl b => ret (.bl (!decide (a = b)))
  | _, _ => stuck
theorem isNon_ok {w : Wd} {S : Store} {d : D} {v : V} {b : Bool} (k : w.ok C S) (r : PRep C w d v) (h : isNonD d = some b) : decide (v = .non) = b := by
  have r' := r.rep k
  cases d <;> simp only [isNonD, Option.some.injEq] at h <;> simp only [Rep] at r'
  case non => subst r'; subst h; rfl
  case bl => subst r'; subst h; rfl
  case int => subst r'; subst h; rfl
  case str => obtain ⟨rfl, _⟩ := r'; subst h; rfl
  case lst => obtain ⟨_, _, rfl, _⟩ := r'; subst h; rfl
  case tup => obtain ⟨_, _, rfl, _⟩ := r'; subst h; rfl
  case dct => obtain ⟨_, _, rfl, _⟩ := r'; subst h; rfl
  case dtt => obtain ⟨_, _, rfl, _⟩ := r'; subst h; rfl
  case ins => obtain ⟨_, _, _, rfl, _⟩ := r'; subst h; rfl
  case exc => obtain ⟨_, rfl, _⟩ := r'; subst h; rfl
  case lam => obtain ⟨_, _, rfl, _⟩ := r'; subst h; rfl
  case cell => obtain ⟨_, rfl, _⟩ := r'; subst h; rfl
  case scr => obtain ⟨_, rfl, _⟩ := r'; subst h; rfl
  case raw => cases h
theorem cm_is : Cm C X .Is vIs := ⟨_, fun _ => op_isN.or op_isBl, fun w S x y dx dy Q k rx ry p => by
  unfold vIs at p
  split at p
  · rename_i a
    obtain rfl := ry.non
    cases h : isNonD dx with
    | none => rw [h] at p; exact p.elim
    | some b =>
      rw [h] at p
      refine .inl ⟨rfl, ?_⟩
      rw [isNon_ok k rx h]
      exact kbl k p
  · obtain rfl := rx.bl; obtain rfl := ry.bl
    exact .inr ⟨_, _, rfl, rfl, kbl k p⟩
  · exact p.elim⟩
theorem cm_isnot : Cm C X .IsNot vIsNot := ⟨_, fun _ => op_notN.or op_notBl, fun w S x y dx dy Q k rx ry p => by
  unfold vIsNot at p
  split at p
  · rename_i a
    obtain rfl := ry.non
    cases h : isNonD dx with
    | none => rw [h] at p; exact p.elim
    | some b =>
      rw [h] at p
      refine .inl ⟨rfl, ?_⟩
      rw [isNon_ok k rx h]
      exact kbl k p
  · obtain rfl := rx.bl; obtain rfl := ry.bl
    exact .inr ⟨_, _, rfl, rfl, kbl k p⟩
  · exact p.elim⟩

/-! ### tests -/
def tob : M D → M Bool := fun m => bind m fun
  | .bl b => ret b
  | _ => stuck
theorem evT_of {te : TE} {m : G → M D} (h : EvP C W te m) : EvT C W (tTest te) (fun g => tob (m g)) := fun e g s w S Q k f r p => by
  refine h e g s w S _ k f r (post_mono (post_bind.mp p) (fun d S' q v w' f' k' rv => ?_) fun _ _ x => x)
  cases d with
  | bl b =>
    obtain rfl := rv.bl
    exact ⟨b, rfl, q w' f' k'⟩
  | _ => exact q.elim
theorem dt_val {m : G → M D} (h : DP C X W e m) (he : ∀ i whole, isTrue e (X i).env whole = (do let v ← whole; standAt e.pos; holding [v] (truthy v)) := by intro _ _; rfl) : DT C X W e (fun g => tob (m g)) := by
  obtain ⟨te, pe, ev⟩ := h
  exact ⟨_, fun i => pt_val (pe i) (he i), evT_of ev⟩
theorem de_cmp {op : CmpOp} {f : D → D → M D} (hc : Cm C X op f) (ha : DP C X W a ma) (hb : DP C X W b mb) (hm : behindInMarks op b = false := by rfl) : DE C X W (.Compare a [op] [b] pos) (n2 f ma mb) := by
  obtain ⟨ta, pa, ea⟩ := ha; obtain ⟨tb, pb, eb⟩ := hb; obtain ⟨r, ho, hq⟩ := hc.ex
  exact ⟨_, fun i => pe_cmpR (ho i) (pa i) (pb i) hm, evq2 ea eb hq⟩
theorem EvD.p {te : TE} {m : G → M D} (h : EvD C W te m) : EvP C W te m := fun e g s w S Q k f r q => h e g s w S Q k f r (post_mono q (fun d S' h v w' f' k' r' => h v w' f' k' (.inl r')) fun _ _ x => x)
theorem dt_cmp {op : CmpOp} {f : D → D → M D} (hc : Cm C X op f) (ha : DP C X W a ma) (hb : DP C X W b mb) (hm : behindInMarks op b = false := by rfl) : DT C X W (.Compare a [op] [b] pos) (fun g => tob (n2 f ma mb g)) := by
  obtain ⟨ta, pa, ea⟩ := ha; obtain ⟨tb, pb, eb⟩ := hb; obtain ⟨r, ho, hq⟩ := hc.ex
  exact ⟨_, fun i => pt_cmpR (ho i) (pa i) (pb i) hm, evT_of (evq2 ea eb hq).p⟩
/-- a op b op' c -/
def n3 (f f' : D → D → M D) (ma mb mc : G → M D) : G → M D := fun g => bind (ma g) fun x => bind (mb g) fun y => bind (nox (f x y)) fun
  | .bl true => bind (mc g) fun z => nox (f' y z)
  | .bl false => ret (.bl false)
  | _ => stuck
theorem evq3 {ta tb tc : TE} {r r' : R2} {f f' : D → D → M D} (ha : EvP C W ta ma) (hb : EvP C W tb mb) (hc : EvP C W tc mc) (hr : Q2 C r f) (hr' : Q2 C r' f') : EvD C W (tChain r r' ta tb tc) (n3 f f' ma mb mc) := fun e g s w S Q k fr rg p => by
  refine ha e g s w S _ k fr rg (post_mono (post_bind.mp p) (fun dx S1 q x w1 f1 k1 rx => ?_) fun _ _ z => z)
  refine hb e g s w1 S1 _ k1 (fr.trans f1) (rg.to f1) (post_mono (post_bind.mp q) (fun dy S2 q2 y w2 f2 k2 ry => ?_) fun _ _ z => z.to f1)
  refine hr w2 S2 x y dx dy _ k2 (rx.to f2) ry (post_mono (post_nox (post_bind.mp q2 |> fun z => post_nox' z)) (fun d S3 q3 v w3 f3 k3 rv => ?_) fun _ _ z => z)
  cases d with
  | bl b =>
    simp only [Rep] at rv
    subst rv
    refine ⟨b, rfl, ?_⟩
    cases b with
    | true =>
      show tc s w3.H _
      have fa := (f1.trans f2).trans f3
      refine hc e g s w3 S3 _ k3 (fr.trans fa) (rg.to fa) (post_mono (post_bind.mp q3) (fun dz S4 q4 z w4 f4 k4 rz => ?_) fun _ _ z => z.to fa)
      exact hr' w4 S4 y z dy dz Q k4 ((ry.to f3).to f4) rz (post_mono (post_nox q4) (fun dv S5 q5 => (q5.to fa).to f4) fun _ _ z => z)
    | false =>
      show Q (.bl false) w3.H
      exact q3 _ w3 ((f1.trans f2).trans f3) k3 (by simp only [Rep])
  | _ => exact q3.elim
where
  post_nox' {m : M D} {S : Store} {Q : D → Store → Prop} {E : Er → Store → Prop} (h : (nox m S).post Q E) : (nox m S).post Q E := h
theorem de_chain {op op' : CmpOp} {f f' : D → D → M D} (hc : Cm C X op f) (hc' : Cm C X op' f') (h1 : DP C X W a ma) (h2 : DP C X W b mb) (h3 : DP C X W c mc) (hm : lastMarks [op, op'] [b, c] = false := by with_unfolding_all rfl) :
    DE C X W (.Compare a [op, op'] [b, c] pos) (n3 f f' ma mb mc) := by
  obtain ⟨ta, pa, ea⟩ := h1; obtain ⟨tb, pb, eb⟩ := h2; obtain ⟨tc, pc, ec⟩ := h3; obtain ⟨r, ho, hq⟩ := hc.ex; obtain ⟨r', ho', hq'⟩ := hc'.ex
  exact ⟨_, fun i => pe_chain (ho i) (ho' i) (pa i) (pb i) (pc i) hm, evq3 ea eb ec hq hq'⟩
theorem dt_chain {op op' : CmpOp} {f f' : D → D → M D} (hc : Cm C X op f) (hc' : Cm C X op' f') (h1 : DP C X W a ma) (h2 : DP C X W b mb) (h3 : DP C X W c mc) (hm : lastMarks [op, op'] [b, c] = false := by with_unfolding_all rfl) :
    DT C X W (.Compare a [op, op'] [b, c] pos) (fun g => tob (n3 f f' ma mb mc g)) := by
  obtain ⟨ta, pa, ea⟩ := h1; obtain ⟨tb, pb, eb⟩ := h2; obtain ⟨tc, pc, ec⟩ := h3; obtain ⟨r, ho, hq⟩ := hc.ex; obtain ⟨r', ho', hq'⟩ := hc'.ex
  exact ⟨_, fun i => pt_chain (ho i) (ho' i) (pa i) (pb i) (pc i) hm, evT_of (evq3 ea eb ec hq hq').p⟩
/-- and, or, not in tests -/
def DW {ι : Type} (C : LC) (X : ι → Cx) (W : WX) (e : Expr) (m : G → M Bool) : Prop := ∃ tt, (∀ i, PW (X i) e tt) ∧ EvT C W tt m
theorem DW.t {m : G → M Bool} : DW C X W e m → DT C X W e m := fun ⟨tt, p, h⟩ => ⟨tt, fun i => (p i).pt, h⟩
variable {na nb : G → M Bool} {rest : List Expr}
def tand (m n : G → M Bool) : G → M Bool := fun g => bind (m g) fun x => if x = true then n g else ret false
def tor (m n : G → M Bool) : G → M Bool := fun g => bind (m g) fun x => if x = true then ret true else n g
def tnot (m : G → M Bool) : G → M Bool := fun g => bind (m g) fun x => ret (!x)
theorem dw_and1 (h : DT C X W a na) : DW C X W (.BoolOp .And [a] pos) na := by obtain ⟨t, p, q⟩ := h; exact ⟨_, fun i => pw_and1 (p i), q⟩
theorem dw_or1 (h : DT C X W a na) : DW C X W (.BoolOp .Or [a] pos) na := by obtain ⟨t, p, q⟩ := h; exact ⟨_, fun i => pw_or1 (p i), q⟩
theorem dw_and (h1 : DT C X W a na) (h2 : DW C X W (.BoolOp .And (b :: rest) pos) nb) : DW C X W (.BoolOp .And (a :: b :: rest) pos) (tand na nb) := by
  obtain ⟨t1, p1, q1⟩ := h1; obtain ⟨t2, p2, q2⟩ := h2
  refine ⟨_, fun i => pw_and (p1 i) (p2 i), fun e g s w S Q k f r p => ?_⟩
  refine q1 e g s w S _ k f r (post_mono (post_bind.mp p) (fun b S1 z w1 f1 k1 => ?_) fun _ _ x => x)
  cases b with
  | true => exact q2 e g s w1 S1 Q k1 (f.trans f1) (r.to f1) (post_mono z (fun b S2 y w2 f2 k2 => y w2 (f1.trans f2) k2) fun _ _ y => y.to f1)
  | false => exact z w1 f1 k1
theorem dw_or (h1 : DT C X W a na) (h2 : DW C X W (.BoolOp .Or (b :: rest) pos) nb) : DW C X W (.BoolOp .Or (a :: b :: rest) pos) (tor na nb) := by
  obtain ⟨t1, p1, q1⟩ := h1; obtain ⟨t2, p2, q2⟩ := h2
  refine ⟨_, fun i => pw_or (p1 i) (p2 i), fun e g s w S Q k f r p => ?_⟩
  refine q1 e g s w S _ k f r (post_mono (post_bind.mp p) (fun b S1 z w1 f1 k1 => ?_) fun _ _ x => x)
  cases b with
  | true => exact z w1 f1 k1
  | false => exact q2 e g s w1 S1 Q k1 (f.trans f1) (r.to f1) (post_mono z (fun b S2 y w2 f2 k2 => y w2 (f1.trans f2) k2) fun _ _ y => y.to f1)
theorem dt_not (h : DT C X W a na) : DT C X W (.UnaryOp .Not a pos) (tnot na) := by
  obtain ⟨t1, p1, q1⟩ := h
  refine ⟨_, fun i => pt_not (p1 i), fun e g s w S Q k f r p => ?_⟩
  exact q1 e g s w S _ k f r (post_mono (post_bind.mp p) (fun b S1 z w1 f1 k1 => z w1 f1 k1) fun _ _ x => x)
/-- .. as values -/
def tod : M Bool → M D := fun m => bind m fun b => ret (.bl b)
def DB {ι : Type} (C : LC) (X : ι → Cx) (W : WX) (e : Expr) (m : G → M Bool) : Prop := ∃ te, (∀ i, PE (X i) e te) ∧ EvD C W te (fun g => tod (m g))
theorem DB.de {m : G → M Bool} : DB C X W e m → DE C X W e (fun g => tod (m g)) := fun h => h
theorem vb_one (h : DE C X W a ma) {op} : DB C X W (.BoolOp op [a] pos) (fun g => tob (ma g)) := by
  obtain ⟨t, p, q⟩ := h
  refine ⟨_, fun i => pe_one (p i), fun e g s w S Q k f r z => q e g s w S Q k f r ?_⟩
  have z2 := post_bind.mp (post_bind.mp z)
  refine post_mono z2 (fun d S' y => ?_) fun _ _ x => x
  cases d with
  | bl b => exact y
  | _ => exact y.elim
theorem vb_and (h1 : DE C X W a ma) (h2 : DB C X W (.BoolOp .And (b :: rest) pos) nb) : DB C X W (.BoolOp .And (a :: b :: rest) pos) (tand (fun g => tob (ma g)) nb) := by
  obtain ⟨t1, p1, q1⟩ := h1; obtain ⟨t2, p2, q2⟩ := h2
  refine ⟨_, fun i => pe_and (p1 i) (p2 i), fun e g s w S Q k f r p => ?_⟩
  refine q1 e g s w S _ k f r (post_mono (post_bind.mp (post_bind.mp (post_bind.mp p))) (fun d S1 z v w1 f1 k1 rv => ?_) fun _ _ x => x)
  cases d with
  | bl b =>
    simp only [Rep] at rv; subst rv
    refine ⟨b, rfl, ?_⟩
    cases b with
    | true =>
      show t2 s w1.H Q
      exact q2 e g s w1 S1 Q k1 (f.trans f1) (r.to f1) (post_mono (post_bind.mpr z) (fun b S2 y => y.to f1) fun _ _ y => y.to f1)
    | false => exact z _ w1 f1 k1 (by simp only [Rep])
  | _ => exact z.elim
theorem vb_or (h1 : DE C X W a ma) (h2 : DB C X W (.BoolOp .Or (b :: rest) pos) nb) : DB C X W (.BoolOp .Or (a :: b :: rest) pos) (tor (fun g => tob (ma g)) nb) := by
  obtain ⟨t1, p1, q1⟩ := h1; obtain ⟨t2, p2, q2⟩ := h2
  refine ⟨_, fun i => pe_or (p1 i) (p2 i), fun e g s w S Q k f r p => ?_⟩
  refine q1 e g s w S _ k f r (post_mono (post_bind.mp (post_bind.mp (post_bind.mp p))) (fun d S1 z v w1 f1 k1 rv => ?_) fun _ _ x => x)
  cases d with
  | bl b =>
    simp only [Rep] at rv; subst rv
    refine ⟨b, rfl, ?_⟩
    cases b with
    | false =>
      show t2 s w1.H Q
      exact q2 e g s w1 S1 Q k1 (f.trans f1) (r.to f1) (post_mono (post_bind.mpr z) (fun b S2 y => y.to f1) fun _ _ y => y.to f1)
    | true => exact z _ w1 f1 k1 (by simp only [Rep])
  | _ => exact z.elim
theorem de_not (h : DE C X W a ma) : DE C X W (.UnaryOp .Not a pos) (fun g => tod (tnot (fun g => tob (ma g)) g)) := by
  obtain ⟨t1, p1, q1⟩ := h
  refine ⟨_, fun i => pe_not (p1 i), fun e g s w S Q k f r p => ?_⟩
  refine q1 e g s w S _ k f r (post_mono (post_bind.mp (post_bind.mp (post_bind.mp p))) (fun d S1 z v w1 f1 k1 rv => ?_) fun _ _ x => x)
  cases d with
  | bl b =>
    simp only [Rep] at rv; subst rv
    exact ⟨b, rfl, z _ w1 f1 k1 (by simp only [Rep])⟩
  | _ => exact z.elim
/-- a if c else b -/
def mif {α : Type} (t : G → M Bool) (x y : G → M α) : G → M α := fun g => bind (t g) fun b => if b = true then x g else y g
theorem do_if {xa xb : G → M DV} (hc : DT C X W c na) (ha : DO C X W a xa) (hb : DO C X W b xb) : DO C X W (.IfExp c a b pos) (mif na xa xb) := by
  obtain ⟨t, p, q⟩ := hc; obtain ⟨t1, p1, q1⟩ := ha; obtain ⟨t2, p2, q2⟩ := hb
  refine ⟨_, fun i => pe_ifExp (p i) (p1 i) (p2 i), fun e g s w S Q k f r z => ?_⟩
  refine q e g s w S _ k f r (post_mono (post_bind.mp z) (fun b S1 y w1 f1 k1 => ?_) fun _ _ x => x)
  cases b with
  | true => exact q1 e g s w1 S1 Q k1 (f.trans f1) (r.to f1) (post_mono y (fun b S2 y => y.to f1) fun _ _ y => y.to f1)
  | false => exact q2 e g s w1 S1 Q k1 (f.trans f1) (r.to f1) (post_mono y (fun b S2 y => y.to f1) fun _ _ y => y.to f1)
theorem de_if (hc : DT C X W c na) (ha : DE C X W a ma) (hb : DE C X W b mb) : DE C X W (.IfExp c a b pos) (mif na ma mb) := by
  obtain ⟨t, p, q⟩ := hc; obtain ⟨t1, p1, q1⟩ := ha; obtain ⟨t2, p2, q2⟩ := hb
  refine ⟨_, fun i => pe_ifExp (p i) (p1 i) (p2 i), fun e g s w S Q k f r z => ?_⟩
  refine q e g s w S _ k f r (post_mono (post_bind.mp z) (fun b S1 y w1 f1 k1 => ?_) fun _ _ x => x)
  cases b with
  | true => exact q1 e g s w1 S1 Q k1 (f.trans f1) (r.to f1) (post_mono y (fun b S2 y => y.to f1) fun _ _ y => y.to f1)
  | false => exact q2 e g s w1 S1 Q k1 (f.trans f1) (r.to f1) (post_mono y (fun b S2 y => y.to f1) fun _ _ y => y.to f1)

/-! ### displays -/
def mtup (m : G → M (List D)) : G → M D := fun g => bind (m g) fun xs => if xs.length ≤ 1000000 then ret (.tup xs) else stuck
def mlst (m : G → M (List D)) : G → M DV := fun g => bind (m g) fun xs => if xs.length ≤ 1000000 then ret (.ow (.lst xs)) else stuck
theorem de_tup {m : G → M (List D)} {x1} (h : DA C X W es m) : DE C X W (.Tuple es x1 pos) (mtup m) := by
  obtain ⟨t, p, q⟩ := h
  refine ⟨_, fun i => pe_tup (p i), fun e g s w S Q k f r z => ?_⟩
  refine q e g s w S _ k f r (post_mono (post_bind.mp z) (fun ds S1 y vs w1 f1 k1 rv => ?_) fun _ _ x => x)
  split at y
  · rename_i hl
    exact ⟨line_of (by rw [← rv.length]; exact hl), fun p n => new_tup k1 rv (fun v w2 f2 k2 r2 => y v w2 (f1.trans f2) k2 r2) n⟩
  · exact y.elim
theorem do_lst {m : G → M (List D)} (h : DA C X W es m) : DO C X W (.List es pos) (mlst m) := by
  obtain ⟨t, p, q⟩ := h
  refine ⟨_, fun i => pe_lst (p i), fun e g s w S Q k f r z => ?_⟩
  refine q e g s w S _ k f r (post_mono (post_bind.mp z) (fun ds S1 y vs w1 f1 k1 rv => ?_) fun _ _ x => x)
  split at y
  · rename_i hl
    exact ⟨line_of (by rw [← rv.length]; exact hl), fun p n => new_lst (Q' := fun _ _ => True) k1 rv (fun v w2 f2 k2 r2 => y v w2 (f1.trans f2) k2 (r2.from f1)) n⟩
  · exact y.elim
end
end DL
end

section
namespace DL
open PySem PySem.Spec PyProof.Rows L2 Evl
section
variable {ι : Type} {C : LC} {X : ι → Cx} {Y : Cx} {W : WX} {a b c e : Expr} {es : List Expr} {pos : Pos} {ma mb mc : G → M D}

/-! ### containers: what stands there, a cell's content too -/
def VRep (C : LC) (w : Wd) (d : D) (v : V) : Prop := Rep C w.mu w.H0 d v ∨ ∃ p, v = .ref p ∧ CRep C w.mu w.H0 (w.H p) d
theorem PRep.v {w : Wd} {d : D} {v : V} : PRep C w d v → VRep C w d v
  | .inl r => .inl r
  | .inr ⟨p, e1, _, _, r⟩ => .inr ⟨p, e1, r⟩
def un (d : D) : M D := fun S => match d with
  | .cell i => match S[i]? with
    | some c => .ok c S
    | none => .stuck
  | d => .ok d S
theorem un_ok {w : Wd} {S : Store} {d : D} {v : V} {Q : D → Store → Prop} {E : Er → Store → Prop} (k : w.ok C S) (r : PRep C w d v) (p : (un d S).post Q E) : ∃ d', Q d' S ∧ VRep C w d' v := by
  unfold un at p
  split at p
  · rename_i i
    cases h : S[i]? with
    | none => rw [h] at p; exact p.elim
    | some c =>
      rw [h] at p
      have r' := r.rep k
      simp only [Rep] at r'
      obtain ⟨a, rfl, ha⟩ := r'
      exact ⟨c, p, .inr ⟨a, rfl, k.cel i c a h ha⟩⟩
  · exact ⟨d, p, r.v⟩
theorem VRep.int {w : Wd} {i : Int} {v : V} (r : VRep C w (.int i) v) : v = .int i := by
  rcases r with r | ⟨_, _, r⟩
  · simpa only [Rep] using r
  · exact r.elim
theorem VRep.bl {w : Wd} {i : Bool} {v : V} (r : VRep C w (.bl i) v) : v = .bl i := by
  rcases r with r | ⟨_, _, r⟩
  · simpa only [Rep] using r
  · exact r.elim
theorem VRep.str {w : Wd} {i : Str} {v : V} (r : VRep C w (.str i) v) : v = .str i ∧ sOk i := by
  rcases r with r | ⟨_, _, r⟩
  · simpa only [Rep] using r
  · exact r.elim
theorem VRep.lst {w : Wd} {S : Store} {ds : List D} {v : V} (k : w.ok C S) (r : VRep C w (.lst ds) v) : ∃ p vs, v = .ref p ∧ w.H p = some (.lst vs) ∧ RepL C w.mu w.H0 ds vs := by
  rcases r with r | ⟨p, e1, vs, h1, h2⟩
  · simp only [Rep] at r
    obtain ⟨a, vs, e1, e2, e3⟩ := r
    exact ⟨a, vs, e1, k.ex _ _ e2, e3⟩
  · exact ⟨p, vs, e1, h1, h2⟩
theorem VRep.tup {w : Wd} {S : Store} {ds : List D} {v : V} (k : w.ok C S) (r : VRep C w (.tup ds) v) : ∃ p vs, v = .ref p ∧ w.H0 p = some (.tup vs) ∧ w.H p = some (.tup vs) ∧ RepL C w.mu w.H0 ds vs := by
  rcases r with r | ⟨p, e1, r⟩
  · simp only [Rep] at r
    obtain ⟨a, vs, e1, e2, e3⟩ := r
    exact ⟨a, vs, e1, e2, k.ex _ _ e2, e3⟩
  · exact r.elim
theorem VRep.dct {w : Wd} {S : Store} {kvs : List (D × D)} {v : V} (k : w.ok C S) (r : VRep C w (.dct kvs) v) : ∃ p us, v = .ref p ∧ Rd w.H p (.dK us) ∧ RepK C w.mu w.H0 kvs us := by
  rcases r with r | ⟨p, e1, us, h1, h2⟩
  · simp only [Rep] at r
    obtain ⟨a, us, e1, e2, e3⟩ := r
    exact ⟨a, us, e1, ex_rd k.ex e2, e3⟩
  · exact ⟨p, us, e1, .inl h1, h2⟩
theorem VRep.dtt {w : Wd} {S : Store} {kvs : List (D × D)} {v : V} (k : w.ok C S) (r : VRep C w (.dtt kvs) v) : ∃ p us, v = .ref p ∧ Rd w.H p (.dT us) ∧ RepT C w.mu w.H0 kvs us := by
  rcases r with r | ⟨p, e1, us, h1, h2⟩
  · simp only [Rep] at r
    obtain ⟨a, us, e1, e2, e3⟩ := r
    exact ⟨a, us, e1, ex_rd k.ex e2, e3⟩
  · exact ⟨p, us, e1, .inl h1, h2⟩
theorem VRep.scr {w : Wd} {S : Store} {xs : List Int} {v : V} (k : w.ok C S) (r : VRep C w (.scr xs) v) : ∃ p, v = .ref p ∧ SqL C.K w.H p (xs.map V.int) := by
  rcases r with r | ⟨p, e1, r⟩
  · simp only [Rep] at r
    obtain ⟨a, e1, e2⟩ := r
    exact ⟨a, e1, ex_l k.ex e2⟩
  · exact r.elim
/-- the containers of an operation uncelled -/
def u1 {α : Type} (f : D → M α) : D → M α := fun x => bind (un x) f
def u2 {α : Type} (f : D → D → M α) : D → D → M α := fun x y => bind (un x) fun x' => bind (un y) fun y' => f x' y'
def V1 (C : LC) (r : V → Hp → VK → Prop) (f : D → M D) : Prop := ∀ w S x dx (Q : VK), Wd.ok C S w → VRep C w dx x → (f dx S).post (KD C w Q) K0 → r x w.H Q
def V2 (C : LC) (r : R2) (f : D → D → M D) : Prop := ∀ w S x y dx dy (Q : VK), Wd.ok C S w → VRep C w dx x → VRep C w dy y → (f dx dy S).post (KD C w Q) K0 → r x y w.H Q
theorem V1.q {r : V → Hp → VK → Prop} {f : D → M D} (h : V1 C r f) : Q1 C r (u1 f) := fun w S x dx Q k rx p => by
  obtain ⟨d', q, r'⟩ := un_ok k rx (post_bind.mp p)
  exact h w S x d' Q k r' q
theorem V2.q {r : R2} {f : D → D → M D} (h : V2 C r f) : Q2 C r (u2 f) := fun w S x y dx dy Q k rx ry p => by
  obtain ⟨d', q, r'⟩ := un_ok k rx (post_bind.mp p)
  obtain ⟨d2, q2, r2⟩ := un_ok k ry (post_bind.mp q)
  exact h w S x y d' d2 Q k r' r2 q2

/-! ### keys -/
def skey : D → Option Key
  | .int i => some (.inl i)
  | .str s => some (.inr s)
  | _ => none
def skeys : List D → Option (List Key)
  | [] => some []
  | d :: ds => match skey d, skeys ds with
    | some k, some ks => some (k :: ks)
    | _, _ => none
theorem skey_ok {mu : List Addr} {H : Hp} {d : D} {v : V} {k : Key} (h : skey d = some k) (r : Rep C mu H d v) : v = kV k ∧ d = kD k ∧ keyOk k := by
  cases d <;> simp only [skey, Option.some.injEq, reduceCtorEq] at h
  · subst h; simp only [Rep] at r; exact ⟨r, rfl, trivial⟩
  · subst h; simp only [Rep] at r; exact ⟨r.1, rfl, r.2⟩
theorem skeys_ok {mu : List Addr} {H : Hp} : ∀ {ds : List D} {vs : List V} {ks : List Key}, skeys ds = some ks → RepL C mu H ds vs → vs = ks.map kV ∧ ds = ks.map kD ∧ ∀ x ∈ ks, keyOk x
  | [], vs, ks, h, r => by
    simp only [skeys, Option.some.injEq] at h; subst h
    simp only [RepL] at r; subst r
    exact ⟨rfl, rfl, fun x h => by cases h⟩
  | d :: ds, vs, ks, h, r => by
    simp only [skeys] at h
    cases h1 : skey d with
    | none => rw [h1] at h; cases h
    | some k =>
      cases h2 : skeys ds with
      | none => rw [h1, h2] at h; cases h
      | some ks' =>
        rw [h1, h2] at h
        cases h
        simp only [RepL] at r
        obtain ⟨v, vs', rfl, r1, r2⟩ := r
        obtain ⟨e1, e2, e3⟩ := skey_ok h1 r1
        obtain ⟨f1, f2, f3⟩ := skeys_ok h2 r2
        subst e1; subst f1
        refine ⟨rfl, by rw [List.map_cons, ← e2, ← f2], fun x hx => ?_⟩
        rcases List.mem_cons.mp hx with rfl | hx
        · exact e3
        · exact f3 x hx
theorem kD_inj : ∀ {a b : Key}, kD a = kD b → a = b
  | .inl _, .inl _, h => by simp only [kD, D.int.injEq] at h; rw [h]
  | .inr _, .inr _, h => by simp only [kD, D.str.injEq] at h; rw [h]
  | .inl _, .inr _, h => by simp only [kD, reduceCtorEq] at h
  | .inr _, .inl _, h => by simp only [kD, reduceCtorEq] at h
theorem kDs_inj : ∀ {a b : List Key}, a.map kD = b.map kD → a = b
  | [], [], _ => rfl
  | [], _ :: _, h => by simp at h
  | _ :: _, [], h => by simp at h
  | x :: xs, y :: ys, h => by
    simp only [List.map_cons, List.cons.injEq] at h
    rw [kD_inj h.1, kDs_inj h.2]
def sk : D → D → Bool
  | .int a, .int b => decide (a = b)
  | .str a, .str b => decide (a = b)
  | _, _ => false
def sks : List D → List D → Bool
  | [], [] => true
  | a :: as, b :: bs => sk a b && sks as bs
  | _, _ => false
/-- two keys are the same -/
def kq : D → D → Bool
  | .tup as, .tup bs => sks as bs
  | a, b => sk a b
theorem sk_kD : ∀ a b : Key, sk (kD a) (kD b) = decide (a = b)
  | .inl a, .inl b => by simp [kD, sk]
  | .inr a, .inr b => by simp [kD, sk]
  | .inl a, .inr b => by simp [kD, sk]
  | .inr a, .inl b => by simp [kD, sk]
theorem kq_kD (a b : Key) : kq (kD a) (kD b) = decide (a = b) := by
  rw [← sk_kD]
  cases a <;> cases b <;> rfl
theorem sks_kD : ∀ a b : List Key, sks (a.map kD) (b.map kD) = decide (a = b)
  | [], [] => rfl
  | [], _ :: _ => rfl
  | _ :: _, [] => rfl
  | x :: xs, y :: ys => by
    simp only [List.map_cons, sks, sk_kD, sks_kD xs ys, List.cons.injEq, Bool.decide_and]
def dget (kvs : List (D × D)) (k : D) : Option D := (kvs.find? fun p => kq p.1 k).map (·.2)
def dput (kvs : List (D × D)) (k v : D) : List (D × D) := if (kvs.any fun p => kq p.1 k) = true then kvs.map fun p => if kq p.1 k = true then (p.1, v) else p else kvs ++ [(k, v)]
def ddrop (kvs : List (D × D)) (k : D) : List (D × D) := kvs.filter fun p => !kq p.1 k
theorem dgetK {mu : List Addr} {H : Hp} {k : Key} : ∀ {kvs : List (D × D)} {us : List (Key × V)}, RepK C mu H kvs us → (∀ d, dget kvs (kD k) = some d → ∃ v, valV us k = some v ∧ Rep C mu H d v) ∧ (dget kvs (kD k) = none → valV us k = none)
  | [], us, h => by
    simp only [RepK] at h; subst h
    exact ⟨fun d e => by simp [dget] at e, fun _ => rfl⟩
  | (k1, d1) :: kvs, us, h => by
    simp only [RepK] at h
    obtain ⟨k', v, us', rfl, e2, _, r, h⟩ := h
    subst e2
    obtain ⟨i1, i2⟩ := dgetK (k := k) h
    unfold dget at i1 i2 ⊢
    rw [List.find?_cons, kq_kD]
    by_cases q : k' = k
    · subst q
      rw [decide_eq_true rfl]
      exact ⟨fun d e => by simp only [Option.map_some, Option.some.injEq] at e; subst e; exact ⟨v, valV_pos rfl, r⟩, fun e => by simp at e⟩
    · rw [decide_eq_false q]
      exact ⟨fun d e => by rw [valV_neg q]; exact i1 d e, fun e => by rw [valV_neg q]; exact i2 e⟩
theorem dgetT {mu : List Addr} {H : Hp} {k : List Key} : ∀ {kvs : List (D × D)} {us : List (List Key × V)}, RepT C mu H kvs us → (∀ d, dget kvs (.tup (k.map kD)) = some d → ∃ v, valV us k = some v ∧ Rep C mu H d v) ∧ (dget kvs (.tup (k.map kD)) = none → valV us k = none)
  | [], us, h => by
    simp only [RepT] at h; subst h
    exact ⟨fun d e => by simp [dget] at e, fun _ => rfl⟩
  | (k1, d1) :: kvs, us, h => by
    simp only [RepT] at h
    obtain ⟨k', v, us', rfl, e2, _, r, h⟩ := h
    subst e2
    obtain ⟨i1, i2⟩ := dgetT (k := k) h
    unfold dget at i1 i2 ⊢
    rw [List.find?_cons, show kq (D.tup (k'.map kD)) (.tup (k.map kD)) = decide (k' = k) from sks_kD k' k]
    by_cases q : k' = k
    · subst q
      rw [decide_eq_true rfl]
      exact ⟨fun d e => by simp only [Option.map_some, Option.some.injEq] at e; subst e; exact ⟨v, valV_pos rfl, r⟩, fun e => by simp at e⟩
    · rw [decide_eq_false q]
      exact ⟨fun d e => by rw [valV_neg q]; exact i1 d e, fun e => by rw [valV_neg q]; exact i2 e⟩
/-- what a dict holds -/
def dlook (kvs : List (D × D)) (k : D) : Option (Option D) := if (skey k).isSome = true then some (dget kvs k) else none
def dlookT (kvs : List (D × D)) : D → Option (Option D)
  | .tup ks => if (skeys ks).isSome = true then some (dget kvs (.tup ks)) else none
  | _ => none
def dat : D → D → Option (Option D)
  | .dct kvs, k => dlook kvs k
  | .dtt kvs, k => dlookT kvs k
  | _, _ => none
theorem dat_ok {w : Wd} {S : Store} {dd k : D} {v y : V} {o : Option D} (hk : w.ok C S) (r : VRep C w dd v) (ry : VRep C w k y) (h : dat dd k = some o) :
    ∃ a u, v = .ref a ∧ DGet w.H a y u ∧ (∀ d, o = some d → ∃ z, u = some z ∧ Rep C w.mu w.H0 d z) ∧ (o = none → u = none) := by
  cases dd <;> simp only [dat, reduceCtorEq] at h
  case dct kvs =>
    unfold dlook at h
    split at h
    · rename_i hs
      cases h
      obtain ⟨p, us, rfl, h1, h2⟩ := r.dct hk
      cases k <;> simp only [skey, Option.isSome_some, Option.isSome_none, Bool.false_eq_true] at hs
      case int i =>
        obtain rfl := ry.int
        obtain ⟨j1, j2⟩ := dgetK (k := .inl i) h2
        exact ⟨p, _, rfl, .inl ⟨us, .inl i, h1, rfl, rfl⟩, j1, j2⟩
      case str s =>
        obtain ⟨rfl, _⟩ := ry.str
        obtain ⟨j1, j2⟩ := dgetK (k := .inr s) h2
        exact ⟨p, _, rfl, .inl ⟨us, .inr s, h1, rfl, rfl⟩, j1, j2⟩
    · cases h
  case dtt kvs =>
    cases k <;> simp only [dlookT, reduceCtorEq] at h
    case tup ks =>
      split at h
      · rename_i hs
        cases h
        obtain ⟨p, us, rfl, h1, h2⟩ := r.dtt hk
        obtain ⟨b, vs, rfl, _, hb, r2⟩ := ry.tup hk
        cases e : skeys ks with
        | none => rw [e] at hs; cases hs
        | some k' =>
          obtain ⟨rfl, rfl, _⟩ := skeys_ok e r2
          obtain ⟨j1, j2⟩ := dgetT (k := k') h2
          exact ⟨p, _, rfl, .inr ⟨us, k', b, h1, rfl, hb, rfl⟩, j1, j2⟩
      · cases h

/-! ### subscripts -/
theorem atI_rep {mu : List Addr} {H : Hp} {ds : List D} {vs : List V} {i : Int} {d : D} (r : RepL C mu H ds vs) (h : atI ds i = some d) : ∃ v, atI vs i = some v ∧ Rep C mu H d v := by
  unfold atI at h ⊢
  rw [← r.length]
  cases q : ixN ds.length i with
  | none => rw [q] at h; cases h
  | some j =>
    rw [q] at h
    exact r.get h
def vIxS : D → D → M D
  | .lst xs, .int i => match atI xs i with
    | some d => ret d
    | none => stuck
  | .tup xs, .int i => match atI xs i with
    | some d => ret d
    | none => stuck
  | .str s, .int i => match atI s.cps.toList i with
    | some c => ret (.str ⟨#[c]⟩)
    | none => stuck
  | _, _ => stuck
def vIxD (dd k : D) : M D := match dat dd k with
  | some (some d) => ret d
  | _ => stuck
def isD : D → Bool
  | .dct _ => true
  | .dtt _ => true
  | _ => false
def vIx (x y : D) : M D := if isD x = true then vIxD x y else vIxS x y
theorem sOk_sign {s : Str} {i : Int} {c : Nat} (h : sOk s) (e : atI s.cps.toList i = some c) : sOk ⟨#[c]⟩ := by
  obtain ⟨j, _, h2, _⟩ := atI_get e
  have hm : c ∈ s.cps.toList := List.mem_of_getElem? h2
  have h1 : s.cps.all (· < 0x110000) = true := h.1
  rw [← Array.all_toList, List.all_eq_true] at h1
  refine ⟨?_, (by decide : 1 ≤ 1000000)⟩
  show (#[c] : Array Nat).all (· < 0x110000) = true
  have h3 := h1 c hm
  simp only [decide_eq_true_eq] at h3
  simp [h3]
/-- either rule -/
theorem pe_or2 {t1 t2 : TE} (h1 : PE Y e t1) (h2 : PE Y e t2) : PE Y e (fun s H Q => t1 s H Q ∨ t2 s H Q) := ⟨fun pins s st H Q I h => h.elim (h1.run pins s st H Q I) (h2.run pins s st H Q I)⟩
theorem v2_ixS : V2 C (rIx C.K) vIxS := fun w S x y dx dy Q k rx ry p => by
  unfold vIxS at p
  split at p
  · rename_i xs i
    obtain rfl := ry.int
    obtain ⟨a, vs, rfl, h1, h2⟩ := rx.lst k
    cases q : atI xs i with
    | none => rw [q] at p; exact p.elim
    | some d =>
      rw [q] at p
      obtain ⟨v, e, r⟩ := atI_rep h2 q
      exact .inl ⟨a, vs, i, v, rfl, rfl, .inl (.inl h1), e, p v w (From.refl w) k r⟩
  · rename_i xs i
    obtain rfl := ry.int
    obtain ⟨a, vs, rfl, _, h1, h2⟩ := rx.tup k
    cases q : atI xs i with
    | none => rw [q] at p; exact p.elim
    | some d =>
      rw [q] at p
      obtain ⟨v, e, r⟩ := atI_rep h2 q
      exact .inr (.inl ⟨a, vs, i, v, rfl, rfl, .inl (.inl h1), e, p v w (From.refl w) k r⟩)
  · rename_i s i
    obtain rfl := ry.int
    obtain ⟨rfl, hs⟩ := rx.str
    cases q : atI s.cps.toList i with
    | none => rw [q] at p; exact p.elim
    | some c =>
      rw [q] at p
      exact .inr (.inr ⟨s, i, c, rfl, rfl, line_of hs.2, q, kstr k (sOk_sign hs q) p⟩)
  · exact p.elim
def rDG : R2 := fun x y H Q => ∃ a v, x = .ref a ∧ DGet H a y (some v) ∧ Q v H
theorem v2_ixD : V2 C rDG vIxD := fun w S x y dx dy Q k rx ry p => by
  unfold vIxD at p
  cases q : dat dx dy with
  | none => rw [q] at p; exact p.elim
  | some o =>
    cases o with
    | none => rw [q] at p; exact p.elim
    | some d =>
      rw [q] at p
      obtain ⟨a, u, rfl, hg, h1, _⟩ := dat_ok k rx ry q
      obtain ⟨z, rfl, r⟩ := h1 d rfl
      exact ⟨a, z, rfl, hg, p z w (From.refl w) k r⟩
theorem ix_cases {f f1 f2 : D → D → M D} {T : D → D → Bool} (hf : ∀ x y, f x y = if T x y = true then f1 x y else f2 x y) {g : G} {S : Store} {Q : D → Store → Prop} {E : Er → Store → Prop} (h : (n2 (u2 f) ma mb g S).post Q E) :
    (n2 (u2 f1) ma mb g S).post Q E ∨ (n2 (u2 f2) ma mb g S).post Q E := by
  unfold n2 DL.bind at h ⊢
  cases h1 : ma g S with
  | stuck => rw [h1] at h; exact h.elim
  | err e' S' => rw [h1] at h; exact .inl h
  | ok dx S1 =>
    rw [h1] at h
    dsimp only at h ⊢
    cases h2 : mb g S1 with
    | stuck => rw [h2] at h; exact h.elim
    | err e' S' => rw [h2] at h; exact .inl h
    | ok dy S2 =>
      rw [h2] at h
      dsimp only at h ⊢
      unfold nox u2 DL.bind at h ⊢
      cases h3 : un dx S2 with
      | stuck => rw [h3] at h; exact h.elim
      | err e' S' => rw [h3] at h; exact h.elim
      | ok dx' S3 =>
        rw [h3] at h
        dsimp only at h ⊢
        cases h4 : un dy S3 with
        | stuck => rw [h4] at h; exact h.elim
        | err e' S' => rw [h4] at h; exact h.elim
        | ok dy' S4 =>
          rw [h4] at h
          dsimp only at h ⊢
          rw [hf] at h
          by_cases ht : T dx' dy' = true
          · rw [if_pos ht] at h; exact .inl h
          · rw [if_neg ht] at h; exact .inr h
theorem de_ix (hu : ∀ i, (X i).A.units + 1 < cLine) (ha : DP C X W a ma) (hb : DP C X W b mb) (hs : PlainIx b := by exact fun _ _ => rfl) (hK : ∀ i, (X i).K = C.K := by exact fun _ => rfl) : DE C X W (.Subscript a b pos) (n2 (u2 vIx) ma mb) := by
  obtain ⟨ta, pa, ea⟩ := ha; obtain ⟨tb, pb, eb⟩ := hb
  refine ⟨_, fun i => pe_or2 (pe_dget (hu i) (pa i) (pb i) fun x y => hs x y) (pe_ix (by have h := ix_seq (X := X i); rw [hK i] at h; exact h) (pa i) (pb i) hs), ?_⟩
  intro e g s w S Q k fr rg p
  rcases ix_cases (T := fun x _ => isD x) (fun _ _ => rfl) p with p | p
  · exact .inl (evq2 ea eb v2_ixD.q e g s w S Q k fr rg p)
  · exact .inr (evq2 ea eb v2_ixS.q e g s w S Q k fr rg p)
/-! ### in, not in -/
def flatD : D → Bool
  | .non => true
  | .bl _ => true
  | .int _ => true
  | .str _ => true
  | _ => false
def vInL : D → D → M D
  | d, .lst ds => if (d.pur 60 && D.pur (.lst ds) 60) = true then ret (.bl (ds.any fun z => z.eqv d)) else stuck
  | _, _ => stuck
def vInT : D → D → M D
  | d, .tup ds => if (flatD d && ds.all flatD) = true then ret (.bl (ds.any fun z => z.eqv d)) else stuck
  | _, _ => stuck
def vInS : D → D → M D
  | .str s, .str z => if s.cps.size = 1 then ret (.bl (decide (s.cps.getD 0 0 ∈ z.cps.toList))) else stuck
  | _, _ => stuck
def vInD (k dd : D) : M D := match dat dd k with
  | some o => ret (.bl o.isSome)
  | none => stuck
def vIn (x y : D) : M D := match y with
  | .lst _ => vInL x y
  | .tup _ => vInT x y
  | .str _ => vInS x y
  | _ => vInD x y
def vnot (m : M D) : M D := DL.bind m fun
  | .bl b => ret (.bl (!b))
  | _ => stuck
def vNotIn (x y : D) : M D := vnot (vIn x y)
theorem pd_any {ds : List D} {d : D} : (pdAll ds).any (fun z => PyData.eqv z d.pd) = ds.any fun z => z.eqv d := by
  rw [pdAll_map, List.any_map]
  rfl
theorem v2_inL (neg : Bool) : V2 C (fun x y H Q => ∃ d ds, Dp C.K H x d ∧ Dp C.K H y (.list ds) ∧ SeqAt.shaped d = true ∧ SeqAt.shaped (.list ds) = true ∧ Q (.bl (if neg = true then !(ds.any fun z => PyData.eqv z d) else ds.any fun z => PyData.eqv z d)) H) (fun x y => if neg = true then vnot (vInL x y) else vInL x y) := fun w S x y dx dy Q k rx ry p => by
  have key : (vInL dx dy S).post (fun d S' => KD C w Q (if neg = true then (match d with | .bl b => .bl (!b) | d => d) else d) S') K0 := by
    cases neg with
    | false => exact post_mono p (fun d S' h => h) fun _ _ h => h
    | true =>
      refine post_mono (post_bind.mp p) (fun d S' h => ?_) fun _ _ h => h
      cases d with
      | bl b => exact h
      | _ => exact h.elim
  unfold vInL at key
  split at key
  · split at key
    · rename_i ds hp
      rw [Bool.and_eq_true] at hp
      have rx' : Rep C w.mu w.H dx x := by
        rcases rx with r | ⟨p, e1, r⟩
        · exact r.mono (Sm.of k.ex) (List.prefix_refl _)
        · subst e1; exact r.rep k.ex
      have ry' : Rep C w.mu w.H (.lst ds) y := by
        rcases ry with r | ⟨p, e1, r⟩
        · exact r.mono (Sm.of k.ex) (List.prefix_refl _)
        · subst e1; exact r.rep k.ex
      obtain ⟨a1, a2⟩ := pur_shaped hp.1 rx'
      obtain ⟨b1, b2⟩ := pur_shaped hp.2 ry'
      simp only [D.pd] at b1 b2
      refine ⟨_, _, a1, b1, a2, b2, ?_⟩
      rw [pd_any]
      cases neg with
      | false => exact kbl k key
      | true => exact kbl k key
    · exact key.elim
  · exact key.elim
theorem flat_ok {w : Wd} {d : D} {v : V} (h : flatD d = true) (r : Rep C w.mu w.H0 d v) : flatV v = true := by
  cases d <;> simp only [flatD, Bool.false_eq_true] at h <;> simp only [Rep] at r
  · subst r; rfl
  · subst r; rfl
  · subst r; rfl
  · obtain ⟨rfl, _⟩ := r; rfl
theorem flat_eqv {w : Wd} {d e : D} {v u : V} (h : flatD d = true) (h' : flatD e = true) (r : Rep C w.mu w.H0 d v) (r' : Rep C w.mu w.H0 e u) : eqV v u = d.eqv e := by
  cases d <;> simp only [flatD, Bool.false_eq_true] at h <;> simp only [Rep] at r <;> cases e <;> simp only [flatD, Bool.false_eq_true] at h' <;> simp only [Rep] at r' <;>
    (first | subst r | (obtain ⟨rfl, _⟩ := r)) <;> (first | subst r' | (obtain ⟨rfl, _⟩ := r')) <;> simp only [eqV, D.eqv, D.pd, PyData.eqv]
theorem flat_any {w : Wd} {d : D} {v : V} (h : flatD d = true) (r : Rep C w.mu w.H0 d v) : ∀ {ds : List D} {vs : List V}, ds.all flatD = true → RepL C w.mu w.H0 ds vs → vs.all flatV = true ∧ inV v vs = ds.any fun z => z.eqv d
  | [], vs, _, q => by
    simp only [RepL] at q; subst q
    exact ⟨rfl, rfl⟩
  | x :: ds, vs, ha, q => by
    simp only [RepL] at q
    obtain ⟨u, us, rfl, q1, q2⟩ := q
    rw [List.all_cons, Bool.and_eq_true] at ha
    obtain ⟨i1, i2⟩ := flat_any h r ha.2 q2
    refine ⟨by rw [List.all_cons, flat_ok ha.1 q1, i1]; rfl, ?_⟩
    unfold inV at i2 ⊢
    rw [List.any_cons, List.any_cons, i2, flat_eqv ha.1 h q1 r]
def rInT (K : PySem.W.Frag) (neg : Bool) : R2 := rIn K neg
theorem v2_inT (neg : Bool) : V2 C (rIn C.K neg) (fun x y => if neg = true then vnot (vInT x y) else vInT x y) := fun w S x y dx dy Q k rx ry p => by
  have key : (vInT dx dy S).post (fun d S' => KD C w Q (if neg = true then (match d with | .bl b => .bl (!b) | d => d) else d) S') K0 := by
    cases neg with
    | false => exact post_mono p (fun d S' h => h) fun _ _ h => h
    | true =>
      refine post_mono (post_bind.mp p) (fun d S' h => ?_) fun _ _ h => h
      cases d with
      | bl b => exact h
      | _ => exact h.elim
  unfold vInT at key
  split at key
  · split at key
    · rename_i ds hp
      rw [Bool.and_eq_true] at hp
      obtain ⟨a, vs, rfl, _, h1, h2⟩ := ry.tup k
      have rx' : Rep C w.mu w.H0 dx x := by
        rcases rx with r | ⟨p, e1, r⟩
        · exact r
        · cases dx <;> simp only [flatD, Bool.false_eq_true, false_and] at hp <;> exact r.elim
      obtain ⟨i1, i2⟩ := flat_any hp.1 rx' hp.2 h2
      refine ⟨a, vs, rfl, .inr (.inl (.inl h1)), flat_ok hp.1 rx', i1, ?_⟩
      rw [i2]
      cases neg with
      | false => exact kbl k key
      | true => exact kbl k key
    · exact key.elim
  · exact key.elim
theorem sign_of {s : Str} (h : s.cps.size = 1) : s = ⟨#[s.cps.getD 0 0]⟩ := by
  obtain ⟨⟨l⟩⟩ := s
  simp only [List.size_toArray] at h
  match l, h with
  | [c], _ => rfl
theorem v2_inS (neg : Bool) : V2 C (fun x y H Q => ∃ (c : Nat) (z : Str), x = .str ⟨#[c]⟩ ∧ y = .str z ∧ Q (.bl (if neg = true then !decide (c ∈ z.cps.toList) else decide (c ∈ z.cps.toList))) H) (fun x y => if neg = true then vnot (vInS x y) else vInS x y) := fun w S x y dx dy Q k rx ry p => by
  have key : (vInS dx dy S).post (fun d S' => KD C w Q (if neg = true then (match d with | .bl b => .bl (!b) | d => d) else d) S') K0 := by
    cases neg with
    | false => exact post_mono p (fun d S' h => h) fun _ _ h => h
    | true =>
      refine post_mono (post_bind.mp p) (fun d S' h => ?_) fun _ _ h => h
      cases d with
      | bl b => exact h
      | _ => exact h.elim
  unfold vInS at key
  split at key
  · rename_i a b
    split at key
    · rename_i hs
      obtain ⟨rfl, _⟩ := rx.str
      obtain ⟨rfl, _⟩ := ry.str
      refine ⟨a.cps.getD 0 0, b, by rw [← sign_of hs], rfl, ?_⟩
      cases neg with
      | false => exact kbl k key
      | true => exact kbl k key
    · exact key.elim
  · exact key.elim
/-- in, not in, over lists, tuples, texts -/
def isL : D → D → Bool
  | _, .lst _ => true
  | _, _ => false
def isT : D → D → Bool
  | _, .tup _ => true
  | _, _ => false
def isS : D → D → Bool
  | _, .str _ => true
  | _, _ => false
def ng (neg : Bool) (f : D → D → M D) : D → D → M D := fun x y => if neg = true then vnot (f x y) else f x y
def vInA (x y : D) : M D := if isL x y = true then vInL x y else if isT x y = true then vInT x y else if isS x y = true then vInS x y else vInD x y
theorem v2_or {r r' : R2} {f1 f2 : D → D → M D} {T : D → D → Bool} (h1 : V2 C r f1) (h2 : V2 C r' f2) : V2 C (fun x y H Q => r x y H Q ∨ r' x y H Q) (fun x y => if T x y = true then f1 x y else f2 x y) := fun w S x y dx dy Q k rx ry p => by
  have p : ((if T dx dy = true then f1 dx dy else f2 dx dy) S).post (KD C w Q) K0 := p
  by_cases ht : T dx dy = true
  · rw [if_pos ht] at p; exact .inl (h1 w S x y dx dy Q k rx ry p)
  · rw [if_neg ht] at p; exact .inr (h2 w S x y dx dy Q k rx ry p)
def vInQ (neg : Bool) : D → D → M D := fun x y => if isL x y = true then ng neg vInL x y else if isT x y = true then ng neg vInT x y else ng neg vInS x y
def vInAll (neg : Bool) : D → D → M D := fun x y => if (isL x y || isT x y || isS x y) = true then vInQ neg x y else ng neg vInD x y
theorem ev_din {ta tb : TE} (neg : Bool) (ea : EvP C W ta ma) (eb : EvP C W tb mb) : EvD C W (fun s H Q => ta s H fun y H1 => tb s H1 fun x H2 => ∃ a o, x = .ref a ∧ DGet H2 a y o ∧ Q (.bl (if neg = true then !o.isSome else o.isSome)) H2) (n2 (u2 (ng neg vInD)) ma mb) := by
  have h : V2 C (fun y x H Q => ∃ a o, x = .ref a ∧ DGet H a y o ∧ Q (.bl (if neg = true then !o.isSome else o.isSome)) H) (ng neg vInD) := fun w S x y dx dy Q k rx ry p => by
    unfold ng vInD at p
    cases q : dat dy dx with
    | none =>
      rw [q] at p
      cases neg <;> exact p.elim
    | some o =>
      obtain ⟨a, u, rfl, hg, h1, h2⟩ := dat_ok k ry rx q
      rw [q] at p
      have e : u.isSome = o.isSome := by
        cases o with
        | none => rw [h2 rfl]; rfl
        | some d => obtain ⟨z, rfl, _⟩ := h1 d rfl; rfl
      refine ⟨a, u, rfl, hg, ?_⟩
      rw [e]
      cases neg with
      | false => exact kbl k p
      | true => exact kbl k p
  exact evq2 ea eb h.q
theorem pt_or2 {t1 t2 : TT} (h1 : PT Y e t1) (h2 : PT Y e t2) : PT Y e (fun s H Q => t1 s H Q ∨ t2 s H Q) := ⟨fun pins s st H Q I h => h.elim (h1.run pins s st H Q I) (h2.run pins s st H Q I)⟩
theorem in_hq (hu : Y.A.units + 65 < cLine) : OpR Y (compareOp .In) (fun x y H Q => (∃ d ds, Dp Y.K H x d ∧ Dp Y.K H y (.list ds) ∧ SeqAt.shaped d = true ∧ SeqAt.shaped (.list ds) = true ∧ Q (.bl (if false = true then !(ds.any fun z => PyData.eqv z d) else ds.any fun z => PyData.eqv z d)) H) ∨
    (rIn Y.K false x y H Q ∨ ∃ (c : Nat) (z : Str), x = .str ⟨#[c]⟩ ∧ y = .str z ∧ Q (.bl (if false = true then !decide (c ∈ z.cps.toList) else decide (c ∈ z.cps.toList))) H)) := (op_inD hu).or (op_in_seq.or op_in_sign)
theorem notin_hq (hu : Y.A.units + 65 < cLine) : OpR Y (compareOp .NotIn) (fun x y H Q => (∃ d ds, Dp Y.K H x d ∧ Dp Y.K H y (.list ds) ∧ SeqAt.shaped d = true ∧ SeqAt.shaped (.list ds) = true ∧ Q (.bl (if true = true then !(ds.any fun z => PyData.eqv z d) else ds.any fun z => PyData.eqv z d)) H) ∨
    (rIn Y.K true x y H Q ∨ ∃ (c : Nat) (z : Str), x = .str ⟨#[c]⟩ ∧ y = .str z ∧ Q (.bl (if true = true then !decide (c ∈ z.cps.toList) else decide (c ∈ z.cps.toList))) H)) := (op_notInD hu).or (op_notIn_seq.or op_notIn_sign)
theorem v2_inQ (neg : Bool) : V2 C (fun x y H Q => (∃ d ds, Dp C.K H x d ∧ Dp C.K H y (.list ds) ∧ SeqAt.shaped d = true ∧ SeqAt.shaped (.list ds) = true ∧ Q (.bl (if neg = true then !(ds.any fun z => PyData.eqv z d) else ds.any fun z => PyData.eqv z d)) H) ∨
    (rIn C.K neg x y H Q ∨ ∃ (c : Nat) (z : Str), x = .str ⟨#[c]⟩ ∧ y = .str z ∧ Q (.bl (if neg = true then !decide (c ∈ z.cps.toList) else decide (c ∈ z.cps.toList))) H)) (vInQ neg) :=
  v2_or (v2_inL neg) (v2_or (v2_inT neg) (v2_inS neg))
theorem de_in (hu : ∀ i, (X i).A.units + 65 < cLine) (ha : DP C X W a ma) (hb : DP C X W b mb) (hm : behindInMarks .In b = false := by rfl) (hK : ∀ i, (X i).K = C.K := by exact fun _ => rfl) : DE C X W (.Compare a [.In] [b] pos) (n2 (u2 (vInAll false)) ma mb) := by
  obtain ⟨ta, pa, ea⟩ := ha; obtain ⟨tb, pb, eb⟩ := hb
  refine ⟨_, fun i => pe_or2 (pe_cmpR (by have h := in_hq (hu i); rw [hK i] at h; exact h) (pa i) (pb i) hm) (pe_cmp (pc_din (by have := hu i; omega) (pa i) (pb i)) hm), ?_⟩
  intro e g s w S Q k fr rg p
  rcases ix_cases (T := fun x y => isL x y || isT x y || isS x y) (fun _ _ => rfl) p with p | p
  · exact .inl (evq2 ea eb (v2_inQ false).q e g s w S Q k fr rg p)
  · exact .inr (ev_din false ea eb e g s w S Q k fr rg p)
theorem de_notin (hu : ∀ i, (X i).A.units + 65 < cLine) (ha : DP C X W a ma) (hb : DP C X W b mb) (hm : behindInMarks .NotIn b = false := by rfl) (hK : ∀ i, (X i).K = C.K := by exact fun _ => rfl) : DE C X W (.Compare a [.NotIn] [b] pos) (n2 (u2 (vInAll true)) ma mb) := by
  obtain ⟨ta, pa, ea⟩ := ha; obtain ⟨tb, pb, eb⟩ := hb
  refine ⟨_, fun i => pe_or2 (pe_cmpR (by have h := notin_hq (hu i); rw [hK i] at h; exact h) (pa i) (pb i) hm) (pe_cmp (pc_dnotin (by have := hu i; omega) (pa i) (pb i)) hm), ?_⟩
  intro e g s w S Q k fr rg p
  rcases ix_cases (T := fun x y => isL x y || isT x y || isS x y) (fun _ _ => rfl) p with p | p
  · exact .inl (evq2 ea eb (v2_inQ true).q e g s w S Q k fr rg p)
  · exact .inr (ev_din true ea eb e g s w S Q k fr rg p)
theorem tob_cases {m m1 m2 : M D} {S : Store} (h : ∀ Q E, (m S).post Q E → (m1 S).post Q E ∨ (m2 S).post Q E) {Q : Bool → Store → Prop} {E : Er → Store → Prop} (p : (tob m S).post Q E) : (tob m1 S).post Q E ∨ (tob m2 S).post Q E := by
  rcases h _ _ (post_bind.mp p) with h | h
  · exact .inl (post_bind.mpr h)
  · exact .inr (post_bind.mpr h)
theorem dt_in (hu : ∀ i, (X i).A.units + 65 < cLine) (ha : DP C X W a ma) (hb : DP C X W b mb) (hm : behindInMarks .In b = false := by rfl) (hK : ∀ i, (X i).K = C.K := by exact fun _ => rfl) : DT C X W (.Compare a [.In] [b] pos) (fun g => tob (n2 (u2 (vInAll false)) ma mb g)) := by
  obtain ⟨ta, pa, ea⟩ := ha; obtain ⟨tb, pb, eb⟩ := hb
  refine ⟨_, fun i => pt_or2 (pt_cmpR (by have h := in_hq (hu i); rw [hK i] at h; exact h) (pa i) (pb i) hm) (pt_cmp (pc_din (by have := hu i; omega) (pa i) (pb i)) hm), ?_⟩
  intro e g s w S Q k fr rg p
  rcases tob_cases (fun Q E => ix_cases (T := fun x y => isL x y || isT x y || isS x y) (fun _ _ => rfl)) p with p | p
  · exact .inl (evT_of (evq2 ea eb (v2_inQ false).q).p e g s w S Q k fr rg p)
  · exact .inr (evT_of (ev_din false ea eb).p e g s w S Q k fr rg p)
theorem dt_notin (hu : ∀ i, (X i).A.units + 65 < cLine) (ha : DP C X W a ma) (hb : DP C X W b mb) (hm : behindInMarks .NotIn b = false := by rfl) (hK : ∀ i, (X i).K = C.K := by exact fun _ => rfl) : DT C X W (.Compare a [.NotIn] [b] pos) (fun g => tob (n2 (u2 (vInAll true)) ma mb g)) := by
  obtain ⟨ta, pa, ea⟩ := ha; obtain ⟨tb, pb, eb⟩ := hb
  refine ⟨_, fun i => pt_or2 (pt_cmpR (by have h := notin_hq (hu i); rw [hK i] at h; exact h) (pa i) (pb i) hm) (pt_cmp (pc_dnotin (by have := hu i; omega) (pa i) (pb i)) hm), ?_⟩
  intro e g s w S Q k fr rg p
  rcases tob_cases (fun Q E => ix_cases (T := fun x y => isL x y || isT x y || isS x y) (fun _ _ => rfl)) p with p | p
  · exact .inl (evT_of (evq2 ea eb (v2_inQ true).q).p e g s w S Q k fr rg p)
  · exact .inr (evT_of (ev_din true ea eb).p e g s w S Q k fr rg p)
end
end DL
end

section
namespace DL
open PySem PySem.Spec PyProof.Rows L2 Evl
section
variable {ι : Type} {C : LC} {X : ι → Cx} {Y : Cx} {W : WX} {a b c e : Expr} {es : List Expr} {pos : Pos} {ma mb mc : G → M D}

/-! ### slices -/
def EvI (C : LC) (W : WX) (to : TO) (m : G → M (Option Int)) : Prop :=
  ∀ e g s w S (Q : Option Int → Hp → Prop), Wd.ok C S w → From e w → RepG C e w s g → (m g S).post (fun o S' => ∀ w', From w w' → w'.ok C S' → Q o w'.H) (KE C w W s) → to s w.H Q
def DI {ι : Type} (C : LC) (X : ι → Cx) (W : WX) (e : Option Expr) (m : G → M (Option Int)) : Prop := ∃ to, (∀ i, PO (X i) e to) ∧ EvI C W to m
theorem di_none : DI C X W none (fun _ => ret none) := ⟨_, fun _ => po_none, fun e g s w S Q k f r p => p w (From.refl w) k⟩
def msome (m : G → M D) : G → M (Option Int) := fun g => DL.bind (m g) fun
  | .int i => ret (some i)
  | _ => stuck
theorem di_some (h : DP C X W a ma) : DI C X W (some a) (msome ma) := by
  obtain ⟨te, p, q⟩ := h
  refine ⟨_, fun i => po_some (p i), fun e g s w S Q k f r z => q e g s w S _ k f r (post_mono (post_bind.mp z) (fun d S1 y v w1 f1 k1 rv => ?_) fun _ _ x => x)⟩
  cases d with
  | int i =>
    obtain rfl := rv.int
    exact ⟨i, rfl, y w1 f1 k1⟩
  | _ => exact y.elim
def cutD {α : Type} (xs : List α) (lo hi : Option Int) : List α := (xs.drop (HT.sIx xs.length 0 lo)).take (HT.sIx xs.length xs.length hi - HT.sIx xs.length 0 lo)
theorem cut_rep {mu : List Addr} {H : Hp} {ds : List D} {vs : List V} (r : RepL C mu H ds vs) (lo hi : Option Int) : RepL C mu H (cutD ds lo hi) (cutV vs lo hi) := by
  unfold cutD cutV
  rw [← r.length]
  exact (r.drop _).take _
def vSl : D → Option Int → Option Int → M DV
  | .lst xs, lo, hi => ret (.ow (.lst (cutD xs lo hi)))
  | .tup xs, lo, hi => ret (.sh (.tup (cutD xs lo hi)))
  | .str s, lo, hi => ret (.sh (.str (cutS s lo hi)))
  | _, _, _ => stuck
theorem cutS_ok {s : Str} (h : sOk s) (lo hi : Option Int) : sOk (cutS s lo hi) := by
  refine ⟨?_, ?_⟩
  · have h1 : s.cps.all (· < 0x110000) = true := h.1
    rw [← Array.all_toList, List.all_eq_true] at h1
    show (cutS s lo hi).cps.all (· < 0x110000) = true
    rw [← Array.all_toList, List.all_eq_true]
    intro x hx
    have e : (cutS s lo hi).cps.toList = (s.cps.toList.drop (HT.sIx s.length 0 lo)).take (HT.sIx s.length s.length hi - HT.sIx s.length 0 lo) := by unfold cutS; rfl
    rw [e] at hx
    exact h1 x (List.mem_of_mem_drop (List.mem_of_mem_take hx))
  · have e : (cutS s lo hi).length = ((s.cps.toList.drop (HT.sIx s.length 0 lo)).take (HT.sIx s.length s.length hi - HT.sIx s.length 0 lo)).length := by unfold cutS Str.length; simp
    rw [e, List.length_take, List.length_drop]
    have : s.cps.toList.length = s.length := by simp [Str.length]
    have := h.2
    omega
def rSlQ (K : PySem.W.Frag) : V → Option Int → Option Int → Hp → VK → Prop := fun x lo hi H Q => rSlL K x lo hi H Q ∨ rSlA K x lo hi H Q ∨ rSlS x lo hi H Q
def msl (m : G → M D) (ml mh : G → M (Option Int)) : G → M DV := fun g => DL.bind (m g) fun x => DL.bind (ml g) fun l => DL.bind (mh g) fun h => nox (DL.bind (un x) fun x' => vSl x' l h)
theorem do_slice {lo hi : Option Expr} {p2 : Pos} {ml mh : G → M (Option Int)} (ha : DP C X W a ma) (hl : DI C X W lo ml) (hh : DI C X W hi mh) (hK : ∀ i, (X i).K = C.K := by exact fun _ => rfl) : DO C X W (.Subscript a (.Slice lo hi none p2) pos) (msl ma ml mh) := by
  obtain ⟨ta, pa, ea⟩ := ha; obtain ⟨tl, pl, el⟩ := hl; obtain ⟨th, ph, eh⟩ := hh
  refine ⟨_, fun i => pe_slice (by have h := (sl_list (X := X i)).or ((sl_tupA (X := X i)).or sl_str); rw [hK i] at h; exact h) (pa i) (pl i) (ph i), ?_⟩
  intro e g s w S Q k fr rg p
  refine ea e g s w S _ k fr rg (post_mono (post_bind.mp p) (fun dx S1 q x w1 f1 k1 rx => ?_) fun _ _ z => z)
  refine el e g s w1 S1 _ k1 (fr.trans f1) (rg.to f1) (post_mono (post_bind.mp q) (fun l S2 q2 w2 f2 k2 => ?_) fun _ _ z => z.to f1)
  have f12 := f1.trans f2
  refine eh e g s w2 S2 _ k2 (fr.trans f12) (rg.to f12) (post_mono (post_bind.mp q2) (fun h S3 q3 w3 f3 k3 => ?_) fun _ _ z => z.to f12)
  have fa := f12.trans f3
  obtain ⟨d', q4, r'⟩ := un_ok k3 ((rx.to f2).to f3) (post_bind.mp (post_nox q3))
  unfold vSl at q4
  split at q4
  · obtain ⟨p, vs, rfl, h1, h2⟩ := r'.lst k3
    exact .inl ⟨p, vs, rfl, .inl (.inl h1), fun z n => new_lst (Q' := fun _ _ => True) k3 (cut_rep h2 l h) (KO.to fa q4) n⟩
  · obtain ⟨p, vs, rfl, h0, h1, h2⟩ := r'.tup k3
    refine .inr (.inl ⟨p, vs, rfl, .inl (.inl h1), fun z => ?_, fun z q n => new_tup k3 (cut_rep h2 l h) (KO.to fa q4) n⟩)
    refine q4 _ w3 fa k3 ?_
    simp only [RV, Rep]
    refine ⟨p, vs, rfl, h0, ?_⟩
    have r3 := cut_rep h2 l h
    have e1 : cutV vs l h = vs := by
      unfold cutV
      rw [z.1, z.2, List.drop_zero, Nat.sub_zero, List.take_length]
    rw [e1] at r3
    exact r3
  · obtain ⟨rfl, hs⟩ := r'.str
    exact .inr (.inr ⟨_, rfl, line_of hs.2, q4 _ w3 fa k3 (by simp only [RV, Rep]; exact ⟨trivial, cutS_ok hs l h⟩)⟩)
  · exact q4.elim

/-! ### arguments that may be peeked at -/
def PRepL (C : LC) (w : Wd) : List D → List V → Prop
  | [], vs => vs = []
  | d :: ds, vs => ∃ v vs', vs = v :: vs' ∧ PRep C w d v ∧ PRepL C w ds vs'
theorem PRepL.to {w w' : Wd} (f : From w w') : ∀ {ds : List D} {vs : List V}, PRepL C w ds vs → PRepL C w' ds vs
  | [], _, h => h
  | d :: ds, _, ⟨v, vs', e, r, h⟩ => ⟨v, vs', e, r.to f, PRepL.to f h⟩
abbrev KQ (C : LC) (w : Wd) (Q : List V → Hp → Prop) : List D → Store → Prop := fun ds S' => ∀ vs w', From w w' → w'.ok C S' → PRepL C w' ds vs → Q vs w'.H
def EvQ (C : LC) (W : WX) (ta : TA) (m : G → M (List D)) : Prop :=
  ∀ e g s w S Q, Wd.ok C S w → From e w → RepG C e w s g → (m g S).post (KQ C w Q) (KE C w W s) → ta s w.H Q
def DQ {ι : Type} (C : LC) (X : ι → Cx) (W : WX) (es : List Expr) (m : G → M (List D)) : Prop := ∃ ta, (∀ i, PA (X i) es ta) ∧ EvQ C W ta m
theorem dq_nil : DQ C X W [] (fun _ => ret []) := ⟨_, fun _ => pa_nil, fun e g s w S Q k f r p => p [] w (From.refl w) k rfl⟩
theorem dq_cons {mr : G → M (List D)} (ha : DP C X W e ma) (hr : DQ C X W es mr) (hs : ∀ i, starEach (e :: es) (X i).env = (false, eval e (X i).env) :: starEach es (X i).env := by exact fun _ => rfl) : DQ C X W (e :: es) (mcons ma mr) := by
  obtain ⟨te, p, h⟩ := ha
  obtain ⟨ta, q, h2⟩ := hr
  refine ⟨_, fun i => pa_cons (p i) (q i) (hs i), fun e g s w S Q k fr rg p => ?_⟩
  refine h e g s w S _ k fr rg (post_mono (post_bind.mp p) (fun dx S1 q x w1 f1 k1 rx => ?_) fun _ _ z => z)
  refine h2 e g s w1 S1 _ k1 (fr.trans f1) (rg.to f1) (post_mono (post_bind.mp q) (fun dy S2 q2 y w2 f2 k2 ry => ?_) fun _ _ z => z.to f1)
  exact q2 (x :: y) w2 (f1.trans f2) k2 ⟨x, y, rfl, rx.to f2, ry⟩
/-- what a built-in's call computes -/
def QA (C : LC) (r : List V → Hp → VK → Prop) (f : List D → M DV) : Prop := ∀ w S vs ds (Q : VK), Wd.ok C S w → PRepL C w ds vs → (f ds S).post (KO C w Q) K0 → r vs w.H Q
def mcall (f : List D → M DV) (m : G → M (List D)) : G → M DV := fun g => DL.bind (m g) fun xs => nox (f xs)
theorem evCB {ta : TA} {m : G → M (List D)} {r : List V → Hp → VK → Prop} {f : List D → M DV} (ha : EvQ C W ta m) (hq : QA C r f) : EvO C W (tCB r ta) (mcall f m) := fun e g s w S Q k fr rg p =>
  ha e g s w S _ k fr rg (post_mono (post_bind.mp p) (fun ds S1 q vs w1 f1 k1 rx => hq w1 S1 vs ds Q k1 rx (post_mono (post_nox q) (fun dv S2 z => KO.to f1 z) fun _ _ z => z)) fun _ _ z => z)
theorem do_callB {x : Str} {p : Pos} {id : String} {m : G → M (List D)} {r : List V → Hp → VK → Prop} {f : List D → M DV} (hc : ∀ i, CallR (X i) (.builtin id) r) (hq : QA C r f) (hg : ∀ i, Gl (X i) x) (hm : ∀ i, (X i).mg x = none) (hv : bootBuiltins x = some (.builtin id)) (ha : DQ C X W (e :: es) m)
    (hn : x ≠ "__name__" := by decide) (hdb : (x == ("__debug__" : Str)) = false := by decide) (he : ∀ i, starEach (e :: es) (X i).env = (false, eval e (X i).env) :: starEach es (X i).env := by exact fun _ => rfl) (hpl : ∀ i, (backTo pos (starEach es (X i).env)).any (·.1) = false := by exact fun _ => rfl) :
    DO C X W (.Call (.Name x p) (e :: es) [] pos) (mcall f m) := by
  obtain ⟨ta, pa, ea⟩ := ha
  exact ⟨_, fun i => pe_callB (hc i) (hg i) (hm i) hv (pa i) hn hdb (he i) (hpl i), evCB ea hq⟩
theorem do_callT {x : Str} {p : Pos} {T : String} {m : G → M (List D)} {r : List V → Hp → VK → Prop} {f : List D → M DV} (hc : ∀ i, CallR (X i) (.type T) r) (hq : QA C r f) (hg : ∀ i, Gl (X i) x) (hm : ∀ i, (X i).mg x = none) (hv : bootBuiltins x = some (.type T)) (ha : DQ C X W (e :: es) m)
    (hn : x ≠ "__name__" := by decide) (hdb : (x == ("__debug__" : Str)) = false := by decide) (he : ∀ i, starEach (e :: es) (X i).env = (false, eval e (X i).env) :: starEach es (X i).env := by exact fun _ => rfl) (hpl : ∀ i, (backTo pos (starEach es (X i).env)).any (·.1) = false := by exact fun _ => rfl) :
    DO C X W (.Call (.Name x p) (e :: es) [] pos) (mcall f m) := by
  obtain ⟨ta, pa, ea⟩ := ha
  exact ⟨_, fun i => pe_callTy (hc i) (hg i) (hm i) hv (pa i) hn hdb (he i) (hpl i), evCB ea hq⟩
/-- one argument, uncelled -/
def c1 (f : D → M DV) : List D → M DV
  | [x] => DL.bind (un x) f
  | _ => stuck
theorem qa_1 {r : List V → Hp → VK → Prop} {f : D → M DV} (h : ∀ w S v d (Q : VK), Wd.ok C S w → VRep C w d v → (f d S).post (KO C w Q) K0 → r [v] w.H Q) : QA C r (c1 f) := fun w S vs ds Q k rx p => by
  match ds, rx, p with
  | [d], ⟨v, vs', e1, r, e2⟩, p =>
    subst e1
    have e2 : vs' = [] := e2
    subst e2
    obtain ⟨d', q, r'⟩ := un_ok k r (post_bind.mp p)
    exact h w S v d' Q k r' q
  | [], _, p => exact p.elim
  | _ :: _ :: _, _, p => exact p.elim
def c2I (f : Int → Int → D) : List D → M DV
  | [.int i, .int j] => ret (.sh (f i j))
  | _ => stuck
theorem qa_2I {f : Int → Int → Int} {r : List V → Hp → VK → Prop} (h : ∀ i j H (Q : VK), Q (.int (f i j)) H → r [.int i, .int j] H Q) : QA C r (c2I fun i j => .int (f i j)) := fun w S vs ds Q k rx p => by
  unfold c2I at p
  split at p
  · obtain ⟨v, vs', e1, r1, u, us', e2, r2, e3⟩ := rx
    have e3 : us' = [] := e3
    subst e1; subst e2; subst e3
    obtain rfl := r1.int; obtain rfl := r2.int
    exact h _ _ _ _ (p _ w (From.refl w) k (by simp only [RV, Rep]))
  · exact p.elim
theorem koI {w : Wd} {S : Store} {Q : VK} {i : Int} (k : w.ok C S) (p : KO C w Q (.sh (.int i)) S) : Q (.int i) w.H := p _ w (From.refl w) k (by simp only [RV, Rep])
theorem koB {w : Wd} {S : Store} {Q : VK} {i : Bool} (k : w.ok C S) (p : KO C w Q (.sh (.bl i)) S) : Q (.bl i) w.H := p _ w (From.refl w) k (by simp only [RV, Rep])
theorem koS {w : Wd} {S : Store} {Q : VK} {i : Str} (k : w.ok C S) (h : sOk i) (p : KO C w Q (.sh (.str i)) S) : Q (.str i) w.H := p _ w (From.refl w) k (by simp only [RV, Rep]; exact ⟨trivial, h⟩)
/-! len, abs, int, str, max, min, list, tuple, any, all -/
def bLen : D → M DV
  | .lst xs => ret (.sh (.int xs.length))
  | .tup xs => ret (.sh (.int xs.length))
  | .str s => ret (.sh (.int s.length))
  | .scr xs => ret (.sh (.int xs.length))
  | _ => stuck
theorem RepK.length {mu : List Addr} {H : Hp} : ∀ {ds : List (D × D)} {us : List (Key × V)}, RepK C mu H ds us → ds.length = us.length
  | [], us, h => by simp only [RepK] at h; subst h; rfl
  | (k, d) :: ds, us, h => by
    simp only [RepK] at h
    obtain ⟨k', v, us', rfl, _, _, _, h⟩ := h
    simp only [List.length_cons, RepK.length h]
def rLenA (K : PySem.W.Frag) : List V → Hp → VK → Prop := fun xs H Q => (∃ p ys, xs = [.ref p] ∧ (SqL K H p ys ∨ SqT K H p ys) ∧ Q (.int ys.length) H) ∨ ∃ z, xs = [.str z] ∧ z.length ≤ sizeLine ∧ Q (.int z.length) H
theorem cr_len : CallR Y (.builtin "len") (rLenA Y.K) := call_len_seq.or call_len_str
theorem qa_len : QA C (rLenA C.K) (c1 bLen) := qa_1 fun w S v d Q k r p => by
  unfold bLen at p
  split at p
  · obtain ⟨a, vs, rfl, h1, h2⟩ := r.lst k
    refine .inl ⟨a, vs, rfl, .inl (.inl (.inl h1)), ?_⟩
    rw [← h2.length]; exact koI k p
  · obtain ⟨a, vs, rfl, _, h1, h2⟩ := r.tup k
    refine .inl ⟨a, vs, rfl, .inr (.inl (.inl h1)), ?_⟩
    rw [← h2.length]; exact koI k p
  · obtain ⟨rfl, hs⟩ := r.str
    exact .inr ⟨_, rfl, line_of hs.2, koI k p⟩
  · obtain ⟨a, rfl, h1⟩ := r.scr k
    refine .inl ⟨a, _, rfl, .inl h1, ?_⟩
    rw [List.length_map]; exact koI k p
  · exact p.elim
theorem do_len {p : Pos} {m : G → M (List D)} (hg : ∀ i, Gl (X i) "len") (hm : ∀ i, (X i).mg "len" = none) (ha : DQ C X W (e :: es) m) (hK : ∀ i, (X i).K = C.K := by exact fun _ => rfl) (he : ∀ i, starEach (e :: es) (X i).env = (false, eval e (X i).env) :: starEach es (X i).env := by exact fun _ => rfl) (hpl : ∀ i, (backTo pos (starEach es (X i).env)).any (·.1) = false := by exact fun _ => rfl) :
    DO C X W (.Call (.Name "len" p) (e :: es) [] pos) (mcall (c1 bLen) m) := do_callB (fun i => by have h := cr_len (Y := X i); rw [hK i] at h; exact h) qa_len hg hm boot_len ha (by decide) (by decide) he hpl
def bAbs : D → M DV
  | .int i => ret (.sh (.int (if i < 0 then -i else i)))
  | _ => stuck
theorem do_abs {p : Pos} {m : G → M (List D)} (hg : ∀ i, Gl (X i) "abs") (hm : ∀ i, (X i).mg "abs" = none) (ha : DQ C X W (e :: es) m) (he : ∀ i, starEach (e :: es) (X i).env = (false, eval e (X i).env) :: starEach es (X i).env := by exact fun _ => rfl) (hpl : ∀ i, (backTo pos (starEach es (X i).env)).any (·.1) = false := by exact fun _ => rfl) :
    DO C X W (.Call (.Name "abs" p) (e :: es) [] pos) (mcall (c1 bAbs) m) := do_callB (fun _ => call_abs) (qa_1 fun w S v d Q k r p => by
      unfold bAbs at p
      split at p
      · obtain rfl := r.int; exact ⟨_, rfl, koI k p⟩
      · exact p.elim) hg hm PyProof.Rows.boot_abs ha (by decide) (by decide) he hpl
def bInt : D → M DV
  | .int i => ret (.sh (.int i))
  | .bl b => ret (.sh (.int (if b = true then 1 else 0)))
  | _ => stuck
theorem do_int {p : Pos} {m : G → M (List D)} (hg : ∀ i, Gl (X i) "int") (hm : ∀ i, (X i).mg "int" = none) (ha : DQ C X W (e :: es) m) (he : ∀ i, starEach (e :: es) (X i).env = (false, eval e (X i).env) :: starEach es (X i).env := by exact fun _ => rfl) (hpl : ∀ i, (backTo pos (starEach es (X i).env)).any (·.1) = false := by exact fun _ => rfl) :
    DO C X W (.Call (.Name "int" p) (e :: es) [] pos) (mcall (c1 bInt) m) := do_callT (fun _ => call_int1) (qa_1 fun w S v d Q k r p => by
      unfold bInt at p
      split at p
      · obtain rfl := r.int; exact .inl ⟨_, rfl, koI k p⟩
      · obtain rfl := r.bl; exact .inr ⟨_, rfl, koI k p⟩
      · exact p.elim) hg hm PyProof.Rows.boot_int ha (by decide) (by decide) he hpl
def bStr : D → M DV
  | .int i => if i.natAbs.log2 < 1920 ∧ sOk (Str.ofString (toString i)) then ret (.sh (.str (Str.ofString (toString i)))) else stuck
  | .str s => ret (.sh (.str s))
  | _ => stuck
theorem do_str {p : Pos} {m : G → M (List D)} (hg : ∀ i, Gl (X i) "str") (hm : ∀ i, (X i).mg "str" = none) (ha : DQ C X W (e :: es) m) (he : ∀ i, starEach (e :: es) (X i).env = (false, eval e (X i).env) :: starEach es (X i).env := by exact fun _ => rfl) (hpl : ∀ i, (backTo pos (starEach es (X i).env)).any (·.1) = false := by exact fun _ => rfl) :
    DO C X W (.Call (.Name "str" p) (e :: es) [] pos) (mcall (c1 bStr) m) := do_callT (fun _ => call_str_int.or SkE.call_str_str) (qa_1 fun w S v d Q k r p => by
      unfold bStr at p
      split at p
      · obtain rfl := r.int
        split at p
        · rename_i h
          exact .inl ⟨_, rfl, h.1, koS k h.2 p⟩
        · exact p.elim
      · obtain ⟨rfl, hs⟩ := r.str; exact .inr ⟨_, rfl, koS k hs p⟩
      · exact p.elim) hg hm PyProof.Rows.boot_str ha (by decide) (by decide) he hpl
theorem do_max2 {p : Pos} {m : G → M (List D)} (hc : ∀ i, (X i).calm = true) (hg : ∀ i, Gl (X i) "max") (hm : ∀ i, (X i).mg "max" = none) (ha : DQ C X W (e :: es) m) (he : ∀ i, starEach (e :: es) (X i).env = (false, eval e (X i).env) :: starEach es (X i).env := by exact fun _ => rfl) (hpl : ∀ i, (backTo pos (starEach es (X i).env)).any (·.1) = false := by exact fun _ => rfl) :
    DO C X W (.Call (.Name "max" p) (e :: es) [] pos) (mcall (c2I fun i j => .int (if j > i then j else i)) m) := do_callB (fun i => call_max2 (hc i)) (qa_2I fun i j H Q q => ⟨i, j, rfl, q⟩) hg hm PyProof.Rows.boot_max ha (by decide) (by decide) he hpl
theorem do_min2 {p : Pos} {m : G → M (List D)} (hc : ∀ i, (X i).calm = true) (hg : ∀ i, Gl (X i) "min") (hm : ∀ i, (X i).mg "min" = none) (ha : DQ C X W (e :: es) m) (he : ∀ i, starEach (e :: es) (X i).env = (false, eval e (X i).env) :: starEach es (X i).env := by exact fun _ => rfl) (hpl : ∀ i, (backTo pos (starEach es (X i).env)).any (·.1) = false := by exact fun _ => rfl) :
    DO C X W (.Call (.Name "min" p) (e :: es) [] pos) (mcall (c2I fun i j => .int (if j < i then j else i)) m) := do_callB (fun i => call_min2 (hc i)) (qa_2I fun i j H Q q => ⟨i, j, rfl, q⟩) hg hm PyProof.Rows.boot_min ha (by decide) (by decide) he hpl
def bList : D → M DV
  | .lst xs => ret (.ow (.lst xs))
  | .tup xs => ret (.ow (.lst xs))
  | _ => stuck
theorem do_list {p : Pos} {m : G → M (List D)} (hg : ∀ i, Gl (X i) "list") (hm : ∀ i, (X i).mg "list" = none) (ha : DQ C X W (e :: es) m) (hK : ∀ i, (X i).K = C.K := by exact fun _ => rfl) (he : ∀ i, starEach (e :: es) (X i).env = (false, eval e (X i).env) :: starEach es (X i).env := by exact fun _ => rfl) (hpl : ∀ i, (backTo pos (starEach es (X i).env)).any (·.1) = false := by exact fun _ => rfl) :
    DO C X W (.Call (.Name "list" p) (e :: es) [] pos) (mcall (c1 bList) m) := do_callT (fun i => by have h := call_list_of (X := X i); rw [hK i] at h; exact h) (by
      exact qa_1 fun w S v d Q k r p => by
        unfold bList at p
        split at p
        · obtain ⟨a, vs, rfl, h1, h2⟩ := r.lst k
          exact ⟨a, vs, rfl, .inl (.inl (.inl h1)), fun l n => new_lst (Q' := fun _ _ => True) k h2 p n⟩
        · obtain ⟨a, vs, rfl, _, h1, h2⟩ := r.tup k
          exact ⟨a, vs, rfl, .inr (.inl (.inl h1)), fun l n => new_lst (Q' := fun _ _ => True) k h2 p n⟩
        · exact p.elim) hg hm PyProof.Rows.boot_list ha (by decide) (by decide) he hpl
def bTuple : D → M DV
  | .lst xs => ret (.sh (.tup xs))
  | .tup xs => ret (.sh (.tup xs))
  | _ => stuck
theorem do_tuple {p : Pos} {m : G → M (List D)} (hg : ∀ i, Gl (X i) "tuple") (hm : ∀ i, (X i).mg "tuple" = none) (ha : DQ C X W (e :: es) m) (hK : ∀ i, (X i).K = C.K := by exact fun _ => rfl) (he : ∀ i, starEach (e :: es) (X i).env = (false, eval e (X i).env) :: starEach es (X i).env := by exact fun _ => rfl) (hpl : ∀ i, (backTo pos (starEach es (X i).env)).any (·.1) = false := by exact fun _ => rfl) :
    DO C X W (.Call (.Name "tuple" p) (e :: es) [] pos) (mcall (c1 bTuple) m) := do_callT (fun i => by have h := call_tuple_of (X := X i); rw [hK i] at h; exact h) (by
      exact qa_1 fun w S v d Q k r p => by
        unfold bTuple at p
        split at p
        · obtain ⟨a, vs, rfl, h1, h2⟩ := r.lst k
          exact ⟨a, vs, rfl, .inl ⟨.inl (.inl h1), fun l n => new_tup k h2 p n⟩⟩
        · obtain ⟨a, vs, rfl, h0, h1, h2⟩ := r.tup k
          exact ⟨a, vs, rfl, .inr ⟨.inl (.inl h1), p _ w (From.refl w) k (by simp only [RV, Rep]; exact ⟨a, vs, rfl, h0, h2⟩)⟩⟩
        · exact p.elim) hg hm PyProof.Rows.boot_tuple ha (by decide) (by decide) he hpl
def bls : List D → Option (List Bool)
  | [] => some []
  | .bl b :: ds => (bls ds).map (b :: ·)
  | _ => none
theorem bls_ok {mu : List Addr} {H : Hp} : ∀ {ds : List D} {vs : List V} {bs : List Bool}, bls ds = some bs → RepL C mu H ds vs → vs = bs.map V.bl
  | [], vs, bs, h, r => by simp only [bls, Option.some.injEq] at h; subst h; simp only [RepL] at r; subst r; rfl
  | d :: ds, vs, bs, h, r => by
    cases d <;> simp only [bls, reduceCtorEq] at h
    case bl b =>
      cases q : bls ds with
      | none => rw [q] at h; cases h
      | some bs' =>
        rw [q] at h
        cases h
        simp only [RepL, Rep] at r
        obtain ⟨v, vs', rfl, rfl, r⟩ := r
        rw [bls_ok q r, List.map_cons]
def bAny : D → M DV
  | .lst xs => match bls xs with
    | some bs => ret (.sh (.bl (bs.any id)))
    | none => stuck
  | _ => stuck
def bAll : D → M DV
  | .lst xs => match bls xs with
    | some bs => ret (.sh (.bl (bs.all id)))
    | none => stuck
  | _ => stuck
theorem do_any {p : Pos} {m : G → M (List D)} (hc : ∀ i, (X i).calm = true) (hg : ∀ i, Gl (X i) "any") (hm : ∀ i, (X i).mg "any" = none) (ha : DQ C X W (e :: es) m) (hK : ∀ i, (X i).K = C.K := by exact fun _ => rfl) (he : ∀ i, starEach (e :: es) (X i).env = (false, eval e (X i).env) :: starEach es (X i).env := by exact fun _ => rfl) (hpl : ∀ i, (backTo pos (starEach es (X i).env)).any (·.1) = false := by exact fun _ => rfl) :
    DO C X W (.Call (.Name "any" p) (e :: es) [] pos) (mcall (c1 bAny) m) := do_callB (fun i => by have h := cr_any (hc i); rw [hK i] at h; exact h) (by
      exact qa_1 fun w S v d Q k r p => by
        unfold bAny at p
        split at p
        · rename_i xs
          obtain ⟨a, vs, rfl, h1, h2⟩ := r.lst k
          cases q : bls xs with
          | none => rw [q] at p; exact p.elim
          | some bs =>
            rw [q] at p
            rw [bls_ok q h2] at h1
            exact ⟨a, bs, rfl, .inl (.inl h1), koB k p⟩
        · exact p.elim) hg hm PyProof.Rows.boot_any ha (by decide) (by decide) he hpl
theorem do_all {p : Pos} {m : G → M (List D)} (hc : ∀ i, (X i).calm = true) (hg : ∀ i, Gl (X i) "all") (hm : ∀ i, (X i).mg "all" = none) (ha : DQ C X W (e :: es) m) (hK : ∀ i, (X i).K = C.K := by exact fun _ => rfl) (he : ∀ i, starEach (e :: es) (X i).env = (false, eval e (X i).env) :: starEach es (X i).env := by exact fun _ => rfl) (hpl : ∀ i, (backTo pos (starEach es (X i).env)).any (·.1) = false := by exact fun _ => rfl) :
    DO C X W (.Call (.Name "all" p) (e :: es) [] pos) (mcall (c1 bAll) m) := do_callB (fun i => by have h := cr_all (hc i); rw [hK i] at h; exact h) (by
      exact qa_1 fun w S v d Q k r p => by
        unfold bAll at p
        split at p
        · rename_i xs
          obtain ⟨a, vs, rfl, h1, h2⟩ := r.lst k
          cases q : bls xs with
          | none => rw [q] at p; exact p.elim
          | some bs =>
            rw [q] at p
            rw [bls_ok q h2] at h1
            exact ⟨a, bs, rfl, .inl (.inl h1), koB k p⟩
        · exact p.elim) hg hm PyProof.Rows.boot_all ha (by decide) (by decide) he hpl

/-! ### list(range(..)) -/
def EvR (C : LC) (W : WX) (tr : L2.St → Hp → (Int → Int → Hp → Prop) → Prop) (m : G → M (Int × Int)) : Prop :=
  ∀ e g s w S (Q : Int → Int → Hp → Prop), Wd.ok C S w → From e w → RepG C e w s g → (m g S).post (fun o S' => ∀ w', From w w' → w'.ok C S' → Q o.1 o.2 w'.H) (KE C w W s) → tr s w.H Q
def DRg {ι : Type} (C : LC) (X : ι → Cx) (W : WX) (e : Expr) (m : G → M (Int × Int)) : Prop := ∃ tr, (∀ i, PRg (X i) e tr) ∧ EvR C W tr m
def mrg1 (m : G → M D) : G → M (Int × Int) := fun g => DL.bind (m g) fun
  | .int i => ret (0, i)
  | _ => stuck
theorem dr_1 {p : Pos} (hg : ∀ i, Gl (X i) "range") (hm : ∀ i, (X i).mg "range" = none) (ha : DP C X W a ma) (na : ∀ i, starEach [a] (X i).env = (false, eval a (X i).env) :: starEach [] (X i).env := by exact fun _ => rfl) : DRg C X W (.Call (.Name "range" p) [a] [] pos) (mrg1 ma) := by
  obtain ⟨te, pa, ea⟩ := ha
  refine ⟨_, fun i => prg_1 (hg i) (hm i) (pa i) (na i), fun e g s w S Q k f r z => ea e g s w S _ k f r (post_mono (post_bind.mp z) (fun d S1 y v w1 f1 k1 rv => ?_) fun _ _ x => x)⟩
  cases d with
  | int i =>
    obtain rfl := rv.int
    exact ⟨i, rfl, y w1 f1 k1⟩
  | _ => exact y.elim
def rgD (a b : Int) : List D := (List.range (b - a).toNat).map fun i => D.int (a + (i : Nat))
theorem rg_rep {mu : List Addr} {H : Hp} {a b : Int} : RepL C mu H (rgD a b) (rgV a b) := by
  unfold rgD rgV
  induction List.range (b - a).toNat with
  | nil => simp only [List.map_nil, RepL]
  | cons x xs ih =>
    simp only [List.map_cons, RepL]
    exact ⟨_, _, rfl, by simp only [Rep], ih⟩
def mlistR (m : G → M (Int × Int)) : G → M DV := fun g => DL.bind (m g) fun o => if (0 ≤ o.1 ∧ o.2 ≤ 1000000 ∧ o.1 ≤ 1000000 ∧ -1000000 ≤ o.2) then ret (.ow (.lst (rgD o.1 o.2))) else stuck
theorem do_listRg {p : Pos} {m : G → M (Int × Int)} (hc : ∀ i, (X i).calm = true) (hg : ∀ i, Gl (X i) "list") (hm : ∀ i, (X i).mg "list" = none) (ha : DRg C X W e m) (na : ∀ i, starEach [e] (X i).env = (false, eval e (X i).env) :: starEach [] (X i).env := by exact fun _ => rfl) :
    DO C X W (.Call (.Name "list" p) [e] [] pos) (mlistR m) := by
  obtain ⟨te, pa, ea⟩ := ha
  refine ⟨_, fun i => pe_listRg (hc i) (hg i) (hm i) (pa i) (na i), fun e g s w S Q k f r z => ea e g s w S _ k f r (post_mono (post_bind.mp z) (fun d S1 y w1 f1 k1 => ?_) fun _ _ x => x)⟩
  split at y
  · rename_i h
    refine ⟨⟨by omega, by omega, by omega, by omega, by omega⟩, fun q n => new_lst (Q' := fun _ _ => True) k1 rg_rep (KO.to f1 y) n⟩
  · exact y.elim

/-! ### attributes -/
def flook (fs : List (Str × D)) (f : Str) : Option D := fs.lookup f
theorem flook_ok {mu : List Addr} {H : Hp} {f : Str} : ∀ {fs : List (Str × D)} {us : List (Str × V)}, RepF C mu H fs us → (∀ d, flook fs f = some d → ∃ v, us.lookup f = some v ∧ Rep C mu H d v) ∧ (flook fs f = none → us.lookup f = none)
  | [], us, h => by simp only [RepF] at h; subst h; exact ⟨(fun d e => nomatch (show (none : Option D) = some d from e)), (fun _ => rfl)⟩
  | (x, d) :: fs, us, h => by
    simp only [RepF] at h
    obtain ⟨v, us', rfl, r, h⟩ := h
    obtain ⟨i1, i2⟩ := flook_ok (f := f) h
    unfold flook at i1 i2 ⊢
    rw [List.lookup_cons, List.lookup_cons]
    cases (f == x) with
    | true => exact ⟨fun d' e => by cases e; exact ⟨v, rfl, r⟩, fun e => by cases e⟩
    | false => exact ⟨i1, i2⟩
/-- the classes whose instances may be met, plain ones; f is no class attribute of theirs -/
structure ClsOk (K : PySem.W.Frag) (cs : List Str) : Prop where
  cls : ∀ c ∈ cs, Cls K (He.ga K c)
def vFld (cs : List Str) (f : Str) : D → M D
  | .ins c fs => if c ∈ cs then match flook fs f with
    | some d => ret d
    | none => stuck
    else stuck
  | _ => stuck
theorem VRep.ins {w : Wd} {S : Store} {c : Str} {fs : List (Str × D)} {v : V} (k : w.ok C S) (r : VRep C w (.ins c fs) v) : ∃ a dx us, v = .ref a ∧ w.H a = some (.ins (He.ga C.K c) dx us) ∧ RepF C w.mu w.H0 fs us := by
  rcases r with r | ⟨p, e1, dx, us, h1, h2⟩
  · simp only [Rep] at r
    obtain ⟨a, dx, us, e1, e2, e3⟩ := r
    exact ⟨a, dx, us, e1, k.ex _ _ e2, e3⟩
  · exact ⟨p, dx, us, e1, h1, h2⟩
theorem de_fld {cs : List Str} {f : Str} (hcs : ∀ c ∈ cs, Cls C.K (He.ga C.K c) ∧ NoAttr C.K (He.ga C.K c) f) (ha : DP C X W a ma) (hb : ∀ i, attributeBase a f (X i).env (eval a (X i).env) = eval a (X i).env := by exact fun _ => rfl) (hK : ∀ i, (X i).K = C.K := by exact fun _ => rfl) : DE C X W (.Attribute a f pos) (n1 (u1 (vFld cs f)) ma) := by
  obtain ⟨ta, pa, ea⟩ := ha
  refine ⟨tFld C.K ta f, fun i => by have h := pe_fld (pos := pos) (pa i) (hb i); rw [hK i] at h; exact h, evq1 (ta := ta) (r := fun x H Q => ∃ a C' dx fs v, x = .ref a ∧ H a = some (.ins C' dx fs) ∧ Cls C.K C' ∧ NoAttr C.K C' f ∧ fs.lookup f = some v ∧ Q v H) (f := u1 (vFld cs f)) ea (V1.q fun w S x dx Q k rx p => ?_)⟩
  unfold vFld at p
  split at p
  · rename_i c fs
    split at p
    · rename_i hc
      cases q : flook fs f with
      | none => rw [q] at p; exact p.elim
      | some d =>
        rw [q] at p
        obtain ⟨a, dx, us, rfl, h1, h2⟩ := rx.ins k
        obtain ⟨v, e1, r1⟩ := (flook_ok (f := f) h2).1 d q
        obtain ⟨j1, j2⟩ := hcs c hc
        exact ⟨a, _, dx, us, v, rfl, h1, j1, j2, e1, p v w (From.refl w) k r1⟩
    · exact p.elim
  · exact p.elim

/-! ### f-strings -/
def vFmt : D → M D
  | .str s => ret (.str s)
  | .int i => if i.natAbs.log2 < 1920 ∧ sOk (Str.ofString (toString i)) then ret (.str (Str.ofString (toString i))) else stuck
  | _ => stuck
theorem de_fmt (ha : DP C X W a ma) : DE C X W (.FormattedValue a (-1) none pos) (n1 vFmt ma) := by
  obtain ⟨ta, pa, ea⟩ := ha
  refine ⟨_, fun i => pe_fmt (pa i), evq1 (ta := ta) (r := fun x H Q => (∃ y : Str, x = .str y ∧ y.length ≤ sizeLine ∧ Q (.str y) H) ∨ ∃ i : Int, x = .int i ∧ i.natAbs.log2 < 1920 ∧ Q (.str (toString i)) H) (f := vFmt) ea fun w S x dx Q k rx p => ?_⟩
  unfold vFmt at p
  split at p
  · obtain ⟨rfl, hs⟩ := rx.str
    exact .inl ⟨_, rfl, line_of hs.2, kstr k hs p⟩
  · obtain rfl := rx.int
    split at p
    · rename_i h
      exact .inr ⟨_, rfl, h.1, kstr k h.2 p⟩
    · exact p.elim
  · exact p.elim
def vFmtR : D → M D
  | .str s => if sOk (reprText s) then ret (.str (reprText s)) else stuck
  | .int i => if i.natAbs.log2 < 1920 ∧ sOk (Str.ofString (toString i)) then ret (.str (Str.ofString (toString i))) else stuck
  | _ => stuck
theorem de_fmtR (ha : DP C X W a ma) : DE C X W (.FormattedValue a 114 none pos) (n1 vFmtR ma) := by
  obtain ⟨ta, pa, ea⟩ := ha
  refine ⟨_, fun i => pe_fmtR (pa i), evq1 (ta := ta) (r := fun x H Q => (∃ y : Str, x = .str y ∧ (reprText y).length ≤ sizeLine ∧ Q (.str (reprText y)) H) ∨ ∃ i : Int, x = .int i ∧ i.natAbs.log2 < 1920 ∧ Q (.str (toString i)) H) (f := vFmtR) ea fun w S x dx Q k rx p => ?_⟩
  unfold vFmtR at p
  split at p
  · obtain ⟨rfl, hs⟩ := rx.str
    split at p
    · rename_i h
      exact .inl ⟨_, rfl, line_of h.2, kstr k h p⟩
    · exact p.elim
  · obtain rfl := rx.int
    split at p
    · rename_i h
      exact .inr ⟨_, rfl, h.1, kstr k h.2 p⟩
    · exact p.elim
  · exact p.elim
def mjs (acc : Str) : List (G → M D) → G → M D
  | [], _ => ret (.str acc)
  | m :: ms, g => DL.bind (m g) fun
    | .str y => if acc.length + y.length ≤ 1000000 then mjs (acc ++ y) ms g else stuck
    | _ => stuck
inductive DJ {ι : Type} (C : LC) (X : ι → Cx) (W : WX) : List Expr → List (G → M D) → Prop where
  | nil : DJ C X W [] []
  | cons {e : Expr} {m : G → M D} {es : List Expr} {ms : List (G → M D)} (h : DE C X W e m) (r : DJ C X W es ms) : DJ C X W (e :: es) (m :: ms)
theorem DJ.ex {ms : List (G → M D)} (h : DJ C X W es ms) : ∃ ts, (∀ i, PJ (X i) es ts) ∧ ∀ acc, sOk acc → EvD C W (fun s H Q => tJs ts acc s H fun out H1 => Q (.str out) H1) (mjs acc ms) := by
  induction h with
  | nil => exact ⟨[], fun _ => .nil, fun acc h e g s w S Q k f r p => p _ w (From.refl w) k (by simp only [Rep]; exact ⟨trivial, h⟩)⟩
  | cons h r ih =>
    obtain ⟨t, p, ev⟩ := h
    obtain ⟨ts, ps, evs⟩ := ih
    refine ⟨t :: ts, fun i => .cons (p i) (ps i), fun acc ha e g s w S Q k f r p => ?_⟩
    refine ev e g s w S _ k f r (post_mono (post_bind.mp p) (fun d S1 y v w1 f1 k1 rv => ?_) fun _ _ x => x)
    cases d with
    | str z =>
      simp only [Rep] at rv
      obtain ⟨rfl, hz⟩ := rv
      dsimp only at y
      split at y
      · rename_i hl
        have hc := sOk_append ha hz hl
        exact ⟨z, rfl, line_of hc.2, evs _ hc e g s w1 S1 Q k1 (f.trans f1) (r.to f1) (post_mono y (fun d S2 q => q.to f1) fun _ _ q => q.to f1)⟩
      · exact y.elim
    | _ => exact y.elim
theorem de_joined {v1 v2 : Expr} {rest : List Expr} {ms : List (G → M D)} (h : DJ C X W (v1 :: v2 :: rest) ms) : DE C X W (.JoinedStr (v1 :: v2 :: rest) pos) (mjs Str.empty ms) := by
  obtain ⟨ts, ps, ev⟩ := h.ex
  exact ⟨_, fun i => pe_joined (ps i), ev _ (by decide +kernel)⟩
theorem de_joined1 {v1 : Expr} {m : G → M D} (h : DE C X W v1 m) : DE C X W (.JoinedStr [v1] pos) m := by
  obtain ⟨t, p, ev⟩ := h
  exact ⟨_, fun i => pe_joined1 (p i), ev⟩
end
end DL
end

section
namespace DL
open PySem PySem.Spec PyProof.Rows L2 Evl

inductive Out where
  | nx (g : G) | rt (v : DV) | bk (g : G) | ct (g : G)
inductive SRes where
  | ok (o : Out) (S : Store) | err (e : Er) (g : G) (S : Store) | stuck
abbrev SM := G → Store → SRes

/-- a later state of the same body -/
structure Grow (w w' : Wd) : Prop where
  ex : Ex w.H0 w'.H0
  pre : w.mu <+: w'.mu
theorem Grow.refl (w : Wd) : Grow w w := ⟨Ex.refl _, List.prefix_refl _⟩
theorem Grow.trans {a b c : Wd} (x : Grow a b) (y : Grow b c) : Grow a c := ⟨x.ex.trans y.ex, x.pre.trans y.pre⟩
theorem From.grow {w w' : Wd} (f : From w w') : Grow w w' := ⟨f.ex0, f.pre⟩
theorem Rep.gr {C : LC} {w w' : Wd} {d : D} {v : V} (h : Grow w w') (r : Rep C w.mu w.H0 d v) : Rep C w'.mu w'.H0 d v := r.mono (Sm.of h.ex) h.pre
theorem RepL.gr {C : LC} {w w' : Wd} {ds : List D} {vs : List V} (h : Grow w w') (r : RepL C w.mu w.H0 ds vs) : RepL C w'.mu w'.H0 ds vs := r.mono (Sm.of h.ex) h.pre

section
variable (C : LC) (W : WX) (e w : Wd) (D : Ends)
abbrev SN (Q : L2.St → Hp → Prop) (g' : G) (S' : Store) : Prop := ∀ s' w', From e w' → Grow w w' → w'.ok C S' → RepG C e w' s' g' → Q s' w'.H
abbrev SR (dv : DV) (S' : Store) : Prop := ∀ v w', From e w' → w'.ok C S' → RV C e w' dv v → D.rt v w'.H
abbrev SE (er : Er) (g' : G) (S' : Store) : Prop := ∀ cls d s' w', From e w' → Grow w w' → w'.ok C S' → RepG C e w' s' g' → ErR C w' er cls d → W cls d s' w'.H
def SRes.post (r : SRes) : Prop := match r with
  | .ok (.nx g') S' => SN C e w D.nx g' S'
  | .ok (.rt v) S' => SR C e D v S'
  | .ok (.bk g') S' => SN C e w D.bk g' S'
  | .ok (.ct g') S' => SN C e w D.ct g' S'
  | .err er g' S' => SE C W e w er g' S'
  | .stuck => False
end
def EvS (C : LC) (W : WX) (ts : TS) (m : SM) : Prop := ∀ e g s w S D, Wd.ok C S w → From e w → RepG C e w s g → (m g S).post C W e w D → ts D s w.H
def DS {ι : Type} (C : LC) (X : ι → Cx) (W : WX) (st : Stmt) (m : SM) : Prop := ∃ ts, (∀ i, PS (X i) st ts) ∧ EvS C W ts m
def DSs {ι : Type} (C : LC) (X : ι → Cx) (W : WX) (st : List Stmt) (m : SM) : Prop := ∃ ts, (∀ i, PSs (X i) st ts) ∧ EvS C W ts m
/-- an outcome's end with other wishes -/
theorem SRes.post_imp {C : LC} {W : WX} {e w w2 : Wd} {D D2 : Ends} {r : SRes} (h : r.post C W e w D) (gr : Grow w w2) (hn : ∀ s H, D.nx s H → D2.nx s H) (hr : ∀ v H, D.rt v H → D2.rt v H) (hb : ∀ s H, D.bk s H → D2.bk s H) (hc : ∀ s H, D.ct s H → D2.ct s H) : r.post C W e w2 D2 := by
  cases r with
  | ok o S' =>
    cases o with
    | nx g' => exact fun s' w' f g k r => hn _ _ (h s' w' f (gr.trans g) k r)
    | rt v => exact fun v w' f k r => hr _ _ (h v w' f k r)
    | bk g' => exact fun s' w' f g k r => hb _ _ (h s' w' f (gr.trans g) k r)
    | ct g' => exact fun s' w' f g k r => hc _ _ (h s' w' f (gr.trans g) k r)
  | err er g' S' => exact fun cls d s' w' f g k r x => h cls d s' w' f (gr.trans g) k r x
  | stuck => exact h
section
variable {ι : Type} {C : LC} {X : ι → Cx} {Y : Cx} {W : WX} {a b c e : Expr} {es : List Expr} {pos : Pos} {st : Stmt} {rest : List Stmt} {ma mb mc : G → M D} {mo : G → M DV} {m m' : SM}
def sseq (m1 m2 : SM) : SM := fun g S => match m1 g S with
  | .ok (.nx g') S' => m2 g' S'
  | r => r
def snx : SM := fun g S => .ok (.nx g) S
theorem dss_nil : DSs C X W [] snx := ⟨_, fun _ => pss_nil, fun e g s w S D k f r p => p s w f (Grow.refl w) k r⟩
theorem dss_one (h : DS C X W st m) : DSs C X W [st] m := by obtain ⟨t, p, q⟩ := h; exact ⟨_, fun i => pss_one (p i), q⟩
theorem dss_cons (h : DS C X W st m) (h' : DSs C X W rest m') : DSs C X W (st :: rest) (sseq m m') := by
  obtain ⟨t, p, q⟩ := h; obtain ⟨t', p', q'⟩ := h'
  refine ⟨_, fun i => pss_cons (p i) (p' i), fun e g s w S D k f r z => ?_⟩
  refine q e g s w S _ k f r ?_
  unfold sseq at z
  cases h1 : m g S with
  | ok o S' =>
    rw [h1] at z
    cases o with
    | nx g' => exact fun s' w' f' gr k' r' => q' e g' s' w' S' D k' f' r' (SRes.post_imp (show (m' g' S').post C W e w D from z) gr (fun _ _ x => x) (fun _ _ x => x) (fun _ _ x => x) fun _ _ x => x)
    | rt v => exact z
    | bk g' => exact z
    | ct g' => exact z
  | err er g' S' => rw [h1] at z; exact z
  | stuck => rw [h1] at z; exact z
/-- an expression's error is the statement's -/
def ofM {α : Type} (r : Res α) (g : G) (k : α → Store → SRes) : SRes := match r with
  | .ok a S => k a S
  | .err e S => .err e g S
  | .stuck => .stuck
theorem post_ofM {α : Type} {r : Res α} {g : G} {k : α → Store → SRes} {e w : Wd} {D : Ends} {s : L2.St} {S0 : Store} (f : From e w) (k0 : w.ok C S0) (rg : RepG C e w s g) (h : (ofM r g k).post C W e w D) : r.post (fun a S => (k a S).post C W e w D) (KE C w W s) := by
  cases r with
  | ok a S => exact h
  | err er S => exact fun cls d w' f' k' x => h cls d s w' (f.trans f') f'.grow k' (rg.to f') x
  | stuck => exact h
/-- a result's slot -/
def DV.slot : DV → Slot
  | .sh d => .sh d
  | .ow d => .ow d
theorem RV.lift {e w w' : Wd} {v : V} (f : From e w) : ∀ {dv : DV}, RV C w w' dv v → RV C e w' dv v := fun {dv} h => h.from f
/-- a value is stored -/
theorem RepG.set {e w w' : Wd} {s : L2.St} {g : G} {i : Nat} {dv : DV} {v : V} (f : From e w) (f' : From w w') (r : RepG C e w s g) (rv : RV C w w' dv v) : RepG C e w' (s.set i (some v)) (g.set i dv.slot) := by
  have r' := r.to f'
  refine ⟨by rw [List.length_set, List.length_set]; exact r.len, fun j x hx => ?_, fun j l p dj dl hjl h1 h2 h3 h4 => ?_⟩
  · rw [List.getElem?_set] at hx
    by_cases q : i = j
    · subst q
      rw [if_pos rfl] at hx
      split at hx
      · rename_i hi
        cases hx
        refine ⟨some v, by rw [List.getElem?_set, if_pos rfl, if_pos (by rw [r.len]; exact hi)], ?_⟩
        cases dv with
        | sh d => exact ⟨v, rfl, rv⟩
        | ow d =>
          obtain ⟨p, e1, n, n0, nm, rc⟩ := rv
          exact ⟨p, by rw [e1], fresh_from f n, n0, nm, rc⟩
      · cases hx
    · rw [if_neg q] at hx
      obtain ⟨o, h1, h2⟩ := r'.at_ j x hx
      exact ⟨o, by rw [List.getElem?_set, if_neg q]; exact h1, h2⟩
  · have key : ∀ (l1 : Nat) d1 d2, i ≠ l1 → (g.set i dv.slot)[i]? = some (.ow d1) → (g.set i dv.slot)[l1]? = some (.ow d2) → (s.set i (some v))[i]? = some (some (.ref p)) → (s.set i (some v))[l1]? = some (some (.ref p)) → False := by
      intro l1 d1 d2 hn z1 z2 z3 z4
      rw [List.getElem?_set, if_neg hn] at z2 z4
      rw [List.getElem?_set, if_pos rfl] at z1 z3
      split at z1
      · rename_i hi
        rw [if_pos (by rw [r.len]; exact hi)] at z3
        obtain rfl : v = .ref p := Option.some.inj (Option.some.inj z3)
        cases dv with
        | sh d => cases z1
        | ow d =>
          obtain ⟨p', e1, n, _⟩ := rv
          obtain rfl : p = p' := V.ref.inj e1
          obtain ⟨o, k1, p2, k2, _, k4, k5, k6⟩ := r.at_ l1 _ z2
          rw [z4] at k1
          obtain rfl : some (V.ref p) = o := Option.some.inj k1
          obtain rfl : p = p2 := V.ref.inj (Option.some.inj k2)
          obtain ⟨u, hu, _⟩ := k6.some
          rw [n] at hu; cases hu
      · cases z1
    by_cases q : i = j
    · subst q; exact key l dj dl hjl h1 h2 h3 h4
    · by_cases q2 : i = l
      · subst q2; exact key j dl dj (Ne.symm hjl) h2 h1 h4 h3
      · rw [List.getElem?_set, if_neg q] at h1 h3
        rw [List.getElem?_set, if_neg q2] at h2 h4
        exact r.sep j l p dj dl hjl h1 h2 h3 h4
/-- name = e -/
def sasg (i : Nat) (mo : G → M DV) : SM := fun g S => ofM (mo g S) g fun dv S' => .ok (.nx (g.set i dv.slot)) S'
theorem ev_asg {i : Nat} {te : TE} (h : EvO C W te mo) : EvS C W (tAsg te (gName i)) (sasg i mo) := fun e g s w S D k f r z =>
  h e g s w S _ k f r (post_mono (post_ofM f k r z) (fun dv S' q v w' f' k' rv => q _ w' (f.trans f') f'.grow k' (r.set f f' rv)) fun _ _ x => x)
theorem ds_set {i : Nat} {x : Str} {pos' : Pos} (hN : ∀ j, (X j).N.Nodup) (hi : ∀ j, (X j).N[i]? = some x) (hx : ∀ j, Loc (X j).env.scope x) (he : DO C X W e mo) (hs : ∀ j, swapsWith e (some (.Name x pos')) pos.line (X j).env = pure false := by exact fun _ => rfl) (hf : ∀ j, (X j).fn x = true ∨ (X j).env.scope.names.lookup x = some .local := by first | exact fun _ => .inl rfl | exact fun _ => .inr rfl | assumption) :
    DS C X W (.Assign [.Name x pos'] e pos) (sasg i mo) := by
  obtain ⟨te, p, q⟩ := he
  exact ⟨_, fun j => ps_set (hN j) (hi j) (hx j) (p j) (hs j) (hf j), ev_asg q⟩
/-- e alone -/
def sdrop (mo : G → M DV) : SM := fun g S => ofM (mo g S) g fun _ S' => .ok (.nx g) S'
theorem ds_expr (he : DO C X W e mo) (hs : ∀ j, swapsWith e none pos.line (X j).env = pure false := by exact fun _ => rfl) : DS C X W (.Expr e pos) (sdrop mo) := by
  obtain ⟨te, p, q⟩ := he
  exact ⟨_, fun j => ps_expr (p j) (hs j), fun e g s w S D k f r z => q e g s w S _ k f r (post_mono (post_ofM f k r z) (fun dv S' y v w' f' k' rv => y _ w' (f.trans f') f'.grow k' (r.to f')) fun _ _ x => x)⟩
/-- return e -/
def sret (mo : G → M DV) : SM := fun g S => ofM (mo g S) g fun dv S' => .ok (.rt dv) S'
theorem ds_ret (he : DO C X W e mo) : DS C X W (.Return (some e) pos) (sret mo) := by
  obtain ⟨te, p, q⟩ := he
  exact ⟨_, fun j => ps_ret (p j), fun e g s w S D k f r z => q e g s w S _ k f r (post_mono (post_ofM f k r z) (fun dv S' y v w' f' k' rv => y v w' (f.trans f') k' (rv.from f)) fun _ _ x => x)⟩
def sretN : SM := fun g S => .ok (.rt (.sh .non)) S
theorem ds_retN : DS C X W (.Return none pos) sretN := ⟨_, fun _ => ps_retN, fun e g s w S D k f r z => z _ w f k (by simp only [RV, Rep])⟩
/-- return x, x a name: a root that it holds is given away -/
def sretV (i : Nat) : SM := fun g S => match g[i]? with
  | some (.sh d) => .ok (.rt (.sh d)) S
  | some (.ow d) => .ok (.rt (.ow d)) S
  | _ => .stuck
theorem ds_retV {i : Nat} (h : ∀ j, PE (X j) e (tVar i)) : DS C X W (.Return (some e) pos) (sretV i) := ⟨_, fun j => ps_ret (h j), fun e g s w S D k f r z => by
  unfold sretV at z
  cases hg : g[i]? with
  | none => rw [hg] at z; exact z.elim
  | some x =>
    rw [hg] at z
    cases x with
    | un => exact z.elim
    | sh d =>
      obtain ⟨o, h1, v, e1, h2⟩ := r.at_ i _ hg
      subst e1
      exact ⟨v, h1, z v w f k h2⟩
    | ow d =>
      obtain ⟨o, h1, p, e1, n, n0, nm, rc⟩ := r.at_ i _ hg
      subst e1
      exact ⟨.ref p, h1, z _ w f k ⟨p, rfl, n, n0, nm, rc⟩⟩⟩
/-- if -/
def sif (t : G → M Bool) (m1 m2 : SM) : SM := fun g S => ofM (t g S) g fun b S' => if b = true then m1 g S' else m2 g S'
theorem ds_if {c : Expr} {x y : List Stmt} {t : G → M Bool} {m1 m2 : SM} (hc : DT C X W c t) (h1 : DSs C X W x m1) (h2 : DSs C X W y m2) : DS C X W (.If c x y pos) (sif t m1 m2) := by
  obtain ⟨tt, p, q⟩ := hc; obtain ⟨t1, p1, q1⟩ := h1; obtain ⟨t2, p2, q2⟩ := h2
  refine ⟨_, fun j => ps_if (p j) (p1 j) (p2 j), fun e g s w S D k f r z => q e g s w S _ k f r (post_mono (post_ofM f k r z) (fun b S' y w' f' k' => ?_) fun _ _ x => x)⟩
  cases b with
  | true => exact q1 e g s w' S' D k' (f.trans f') (r.to f') (SRes.post_imp y f'.grow (fun _ _ x => x) (fun _ _ x => x) (fun _ _ x => x) fun _ _ x => x)
  | false => exact q2 e g s w' S' D k' (f.trans f') (r.to f') (SRes.post_imp y f'.grow (fun _ _ x => x) (fun _ _ x => x) (fun _ _ x => x) fun _ _ x => x)
theorem ds_pass : DS C X W (.Pass pos) snx := ⟨_, fun _ => ps_pass, fun e g s w S D k f r p => p s w f (Grow.refl w) k r⟩
def sbk : SM := fun g S => .ok (.bk g) S
def sct : SM := fun g S => .ok (.ct g) S
theorem ds_break : DS C X W (.Break pos) sbk := ⟨_, fun _ => ps_break, fun e g s w S D k f r p => p s w f (Grow.refl w) k r⟩
theorem ds_cont : DS C X W (.Continue pos) sct := ⟨_, fun _ => ps_continue, fun e g s w S D k f r p => p s w f (Grow.refl w) k r⟩
/-- a root is held fast from now on -/
def fz (i : Nat) (g : G) : G := match g[i]? with
  | some (.ow d) => g.set i (.sh d)
  | _ => g
theorem RepG.fz {e w : Wd} {S : Store} {s : L2.St} {g : G} {i : Nat} (f : From e w) (k : w.ok C S) (r : RepG C e w s g) : ∃ H0', From e ⟨w.mu, H0', w.H⟩ ∧ Wd.ok C S ⟨w.mu, H0', w.H⟩ ∧ Grow w ⟨w.mu, H0', w.H⟩ ∧ RepG C e ⟨w.mu, H0', w.H⟩ s (fz i g) := by
  unfold DL.fz
  cases hg : g[i]? with
  | none => exact ⟨w.H0, f, k, Grow.refl w, r⟩
  | some x =>
    cases x with
    | un => exact ⟨w.H0, f, k, Grow.refl w, r⟩
    | sh d => exact ⟨w.H0, f, k, Grow.refl w, r⟩
    | ow d =>
      obtain ⟨o, h1, p, e1, n, n0, nm, rc⟩ := r.at_ i _ hg
      subst e1
      obtain ⟨H0', f2, k2, rp, ex, out⟩ := freeze f k n n0 nm rc
      refine ⟨H0', f2, k2, ⟨ex, List.prefix_refl _⟩, ?_⟩
      have sl : ∀ (j : Nat) x, j ≠ i → g[j]? = some x → ∃ o, s[j]? = some o ∧ SlotR C e ⟨w.mu, H0', w.H⟩ o x := by
        intro j x hj hx
        obtain ⟨o, g1, g2⟩ := r.at_ j x hx
        refine ⟨o, g1, ?_⟩
        cases x with
        | un => trivial
        | sh d' =>
          obtain ⟨v, q1, q2⟩ := g2
          exact ⟨v, q1, q2.mono (Sm.of ex) (List.prefix_refl _)⟩
        | ow d' =>
          obtain ⟨p', q1, q2, q3, q4, q5⟩ := g2
          have hp : p' ≠ p := fun z => by
            subst z
            exact r.sep j i p' _ _ hj hx hg (by rw [g1, q1]) h1
          exact ⟨p', q1, q2, (out p' hp).trans q3, q4, q5.mono (Sm.of ex) (List.prefix_refl _)⟩
      refine ⟨by rw [List.length_set]; exact r.len, fun j x hx => ?_, fun j l p dj dl hjl h1 h2 h3 h4 => ?_⟩
      · rw [List.getElem?_set] at hx
        by_cases q : i = j
        · subst q
          rw [if_pos rfl] at hx
          split at hx
          · cases hx
            exact ⟨_, h1, .ref p, rfl, rp⟩
          · cases hx
        · rw [if_neg q] at hx
          exact sl j x (Ne.symm q) hx
      · have nj : i ≠ j := fun z => by
          subst z
          rw [List.getElem?_set, if_pos rfl] at h1
          split at h1 <;> cases h1
        have nl : i ≠ l := fun z => by
          subst z
          rw [List.getElem?_set, if_pos rfl] at h2
          split at h2 <;> cases h2
        rw [List.getElem?_set, if_neg nj] at h1
        rw [List.getElem?_set, if_neg nl] at h2
        exact r.sep j l p dj dl hjl h1 h2 h3 h4
def sfz (i : Nat) (m : SM) : SM := fun g S => m (fz i g) S
theorem ds_fz (i : Nat) (h : DS C X W st m) : DS C X W st (sfz i m) := by
  obtain ⟨t, p, q⟩ := h
  refine ⟨t, p, fun e g s w S D k f r z => ?_⟩
  obtain ⟨H0', f2, k2, gr, r2⟩ := r.fz (i := i) f k
  exact q e (fz i g) s ⟨w.mu, H0', w.H⟩ S D k2 f2 r2 (SRes.post_imp z gr (fun _ _ x => x) (fun _ _ x => x) (fun _ _ x => x) fun _ _ x => x)
end
end DL
end

section
namespace DL
open PySem PySem.Spec PyProof.Rows L2 Evl

/-! ### what is walked -/
def Walks (C : LC) (J : It) (w0 : Wd) (ds : List D) : Prop := ∀ w S, Grow w0 w → w.ok C S → ∀ i : Nat,
  (∀ d, ds[i]? = some d → J.go i w.H ∧ ∀ x H', J.yld i w.H x H' → ∃ w', From w w' ∧ w'.ok C S ∧ w'.H = H' ∧ Rep C w'.mu w'.H0 d x) ∧ (ds.length ≤ i → J.stop i w.H)
def EvIt (C : LC) (W : WX) (wi : TI) (m : G → M (List D)) : Prop :=
  ∀ e g s w S (R : It → Hp → Prop), Wd.ok C S w → From e w → RepG C e w s g → (m g S).post (fun ds S' => ∀ J w', From w w' → w'.ok C S' → Walks C J w' ds → R J w'.H) (KE C w W s) → wi s w.H R
def DIt {ι : Type} (C : LC) (X : ι → Cx) (W : WX) (tg iter : Expr) (m : G → M (List D)) : Prop := ∃ wi, (∀ i, PI (X i) tg iter wi) ∧ EvIt C W wi m
section
variable {ι : Type} {C : LC} {X : ι → Cx} {Y : Cx} {W : WX} {a b c e tg : Expr} {es : List Expr} {pos : Pos} {st : Stmt} {rest : List Stmt} {ma mb mc : G → M D} {mo : G → M DV} {m m' : SM}
theorem pi_or {w1 w2 : TI} (h1 : PI Y tg e w1) (h2 : PI Y tg e w2) : PI Y tg e (fun s H R => w1 s H R ∨ w2 s H R) := ⟨fun pins s st H R I h => h.elim (h1.run pins s st H R I) (h2.run pins s st H R I)⟩
theorem walks_seq {w0 : Wd} {ds : List D} {vs : List V} {J : It} (r : RepL C w0.mu w0.H0 ds vs) (hg : ∀ w S, Grow w0 w → w.ok C S → ∀ (i : Nat) v, vs[i]? = some v → J.go i w.H ∧ ∀ x H', J.yld i w.H x H' → H' = w.H ∧ x = v)
    (hs : ∀ w S, Grow w0 w → w.ok C S → ∀ i : Nat, vs.length ≤ i → J.stop i w.H) : Walks C J w0 ds := fun w S gr k i => by
  refine ⟨fun d hd => ?_, fun h => hs w S gr k i (by rw [← r.length]; exact h)⟩
  obtain ⟨v, h1, h2⟩ := r.get hd
  obtain ⟨g1, g2⟩ := hg w S gr k i v h1
  refine ⟨g1, fun x H' y => ?_⟩
  obtain ⟨rfl, rfl⟩ := g2 x H' y
  exact ⟨w, From.refl w, k, rfl, h2.gr gr⟩
theorem walks_list {w0 : Wd} {S0 : Store} {ds : List D} {vs : List V} {p : Addr} (k0 : w0.ok C S0) (h0 : w0.H0 p = some (.lst vs)) (r : RepL C w0.mu w0.H0 ds vs) : Walks C (Itl C.K p) w0 ds :=
  walks_seq r (fun w S gr k i v hv => by
    have h : SqL C.K w.H p vs := .inl (.inl (k.ex _ _ (gr.ex _ _ h0)))
    exact ⟨⟨vs, v, h, hv⟩, fun x H' y => ⟨y.1, by have z := y.2 vs h; rw [hv] at z; exact (Option.some.inj z).symm⟩⟩)
    (fun w S gr k i hl => ⟨vs, .inl (.inl (k.ex _ _ (gr.ex _ _ h0))), hl⟩)
theorem walks_tup {w0 : Wd} {S0 : Store} {ds : List D} {vs : List V} {p : Addr} (k0 : w0.ok C S0) (h0 : w0.H0 p = some (.tup vs)) (r : RepL C w0.mu w0.H0 ds vs) : Walks C (Itt C.K p) w0 ds :=
  walks_seq r (fun w S gr k i v hv => by
    have h : SqT C.K w.H p vs := .inl (.inl (k.ex _ _ (gr.ex _ _ h0)))
    exact ⟨⟨vs, v, h, hv⟩, fun x H' y => ⟨y.1, by have z := y.2 vs h; rw [hv] at z; exact (Option.some.inj z).symm⟩⟩)
    (fun w S gr k i hl => ⟨vs, .inl (.inl (k.ex _ _ (gr.ex _ _ h0))), hl⟩)
def signs (s : Str) : List D := s.cps.toList.map fun c => .str ⟨#[c]⟩
theorem walks_str {w0 : Wd} {s : Str} (hs : sOk s) : Walks C (Its s) w0 (signs s) := fun w S gr k i => by
  have hsz : (signs s).length = s.cps.size := by simp [signs]
  refine ⟨fun d hd => ?_, fun h => by rw [hsz] at h; exact h⟩
  unfold signs at hd
  rw [List.getElem?_map] at hd
  cases q : s.cps.toList[i]? with
  | none => rw [q] at hd; cases hd
  | some c =>
    rw [q] at hd
    cases hd
    have hi : i < s.cps.size := by have := (List.getElem?_eq_some_iff.mp q).1; simpa using this
    refine ⟨hi, fun x H' y => ?_⟩
    obtain ⟨rfl, c', hc, rfl⟩ := y
    have e1 : c' = c := by
      have : s.cps.toList[i]? = some c' := by rw [Array.getElem?_toList]; exact hc
      rw [q] at this; exact (Option.some.inj this).symm
    subst e1
    refine ⟨w, From.refl w, k, rfl, ?_⟩
    simp only [Rep]
    refine ⟨trivial, sOk_sign (i := (i : Int)) hs ?_⟩
    exact atI_nat q
/-- a list, a tuple, a text -/
def seqItems : D → M (List D)
  | .lst xs => ret xs
  | .tup xs => ret xs
  | .str s => ret (signs s)
  | _ => stuck
def mitems (m : G → M D) : G → M (List D) := fun g => DL.bind (m g) seqItems
theorem dit_seq (h : DE C X W e ma) (hK : ∀ i, (X i).K = C.K := by exact fun _ => rfl) : DIt C X W tg e (mitems ma) := by
  obtain ⟨te, p, ev⟩ := h
  refine ⟨_, fun i => by have h := pi_or (pi_list (tg := tg) (p i)) (pi_or (pi_tup (p i)) (pi_str (p i))); rw [hK i] at h; exact h, ?_⟩
  intro e g s w S R k f r z
  have z := post_bind.mp z
  cases hm : ma g S with
  | stuck => rw [hm] at z; exact z.elim
  | err er S' =>
    rw [hm] at z
    exact .inl (ev e g s w S _ k f r (by rw [hm]; exact z))
  | ok d S' =>
    rw [hm] at z
    have z : (seqItems d S').post _ _ := z
    cases d <;> try exact z.elim
    case lst xs =>
      refine .inl (ev e g s w S _ k f r (by
        rw [hm]
        intro v w' f' k' rv
        simp only [Rep] at rv
        obtain ⟨p, vs, rfl, h0, r2⟩ := rv
        exact ⟨p, rfl, ⟨vs, .inl (.inl (k'.ex _ _ h0))⟩, z _ w' f' k' (walks_list k' h0 r2)⟩))
    case tup xs =>
      refine .inr (.inl (ev e g s w S _ k f r (by
        rw [hm]
        intro v w' f' k' rv
        simp only [Rep] at rv
        obtain ⟨p, vs, rfl, h0, r2⟩ := rv
        exact ⟨p, rfl, ⟨vs, .inl (.inl (k'.ex _ _ h0))⟩, z _ w' f' k' (walks_tup k' h0 r2)⟩)))
    case str t =>
      refine .inr (.inr (ev e g s w S _ k f r (by
        rw [hm]
        intro v w' f' k' rv
        simp only [Rep] at rv
        obtain ⟨rfl, hs⟩ := rv
        exact ⟨_, rfl, z _ w' f' k' (walks_str hs)⟩)))
/-- the script -/
theorem dit_scr (h : DE C X W e ma) (hK : ∀ i, (X i).K = C.K := by exact fun _ => rfl) : DIt C X W tg e (fun g => DL.bind (ma g) fun | .scr xs => ret (xs.map D.int) | _ => stuck) := by
  obtain ⟨te, p, ev⟩ := h
  refine ⟨_, fun i => by have h := pi_list (tg := tg) (p i); rw [hK i] at h; exact h, ?_⟩
  intro e g s w S R k f r z
  refine ev e g s w S _ k f r (post_mono (post_bind.mp z) (fun d S' y v w' f' k' rv => ?_) fun _ _ x => x)
  cases d <;> try exact y.elim
  case scr xs =>
    simp only [Rep] at rv
    obtain ⟨p, rfl, h0⟩ := rv
    refine ⟨p, rfl, ⟨_, ex_l k'.ex h0⟩, y _ w' f' k' fun w2 S2 gr k2 i => ?_⟩
    have h : SqL C.K w2.H p (xs.map V.int) := ex_l k2.ex (ex_l gr.ex h0)
    refine ⟨fun d hd => ?_, fun hl => ⟨_, h, by rw [List.length_map] at hl ⊢; exact hl⟩⟩
    rw [List.getElem?_map] at hd
    cases q : xs[i]? with
    | none => rw [q] at hd; cases hd
    | some n =>
      rw [q] at hd; cases hd
      have hv : (xs.map V.int)[i]? = some (.int n) := by rw [List.getElem?_map, q]; rfl
      refine ⟨⟨_, _, h, hv⟩, fun x H' y => ⟨w2, From.refl w2, k2, y.1.symm, ?_⟩⟩
      have z := y.2 _ h
      rw [hv] at z
      cases z
      simp only [Rep]
/-- range -/
theorem walks_rng {w0 : Wd} (lo : Int) (n : Nat) : Walks C (Itr lo n) w0 ((List.range n).map fun i => D.int (lo + (i : Nat))) := fun w S gr k i => by
  refine ⟨fun d hd => ?_, fun h => by rw [List.length_map, List.length_range] at h; exact h⟩
  rw [List.getElem?_map] at hd
  cases q : (List.range n)[i]? with
  | none => rw [q] at hd; cases hd
  | some j =>
    rw [q] at hd; cases hd
    obtain ⟨hi, hj⟩ := List.getElem?_eq_some_iff.mp q
    rw [List.getElem_range] at hj
    subst hj
    refine ⟨by rw [List.length_range] at hi; exact hi, fun x H' y => ⟨w, From.refl w, k, y.1.symm, ?_⟩⟩
    rw [y.2]; simp only [Rep]
def mrange1 (m : G → M D) : G → M (List D) := fun g => DL.bind (m g) fun
  | .int n => if n < 2 ^ 62 ∧ -(2 ^ 62) ≤ n then ret ((List.range n.toNat).map fun i => D.int (0 + (i : Nat))) else stuck
  | _ => stuck
theorem dit_range1 {p : Pos} (hg : ∀ i, Gl (X i) "range") (hm : ∀ i, (X i).mg "range" = none) (h : DP C X W a ma) (hs : ∀ i, starEach [a] (X i).env = [(false, eval a (X i).env)] := by exact fun _ => rfl) : DIt C X W tg (.Call (.Name "range" p) [a] [] pos) (mrange1 ma) := by
  obtain ⟨te, pe, ev⟩ := h
  refine ⟨_, fun i => pi_range1 (hg i) (hm i) (pa_cons (pe i) pa_nil (hs i)) (hs i), fun e g s w S R k f r z => ?_⟩
  refine ev e g s w S _ k f r (post_mono (post_bind.mp z) (fun d S' y v w' f' k' rv => ?_) fun _ _ x => x)
  cases d with
  | int n =>
    obtain rfl := rv.int
    dsimp only at y
    split at y
    · rename_i h
      exact ⟨n, rfl, h.2, h.1, y _ w' f' k' (walks_rng 0 n.toNat)⟩
    · exact y.elim
  | _ => exact y.elim
/-- enumerate, zip: a new tuple a turn -/
theorem fresh_tup {w : Wd} {S : Store} {T : Addr} {ds : List D} {vs : List V} (k : w.ok C S) (n : w.H T = none) (r : RepL C w.mu w.H0 ds vs) : ∃ w', From w w' ∧ w'.ok C S ∧ w'.H = upd w.H T (.tup vs) ∧ Rep C w'.mu w'.H0 (.tup ds) (.ref T) := by
  have h := new_tup (Q := fun v H => ∃ w', From w w' ∧ w'.ok C S ∧ w'.H = H ∧ Rep C w'.mu w'.H0 (.tup ds) v) k r (fun v w' f' k' rv => ⟨w', f', k', rfl, rv⟩) n
  exact h
def enumD : Nat → List D → List D
  | _, [] => []
  | i, d :: ds => .tup [.int i, d] :: enumD (i + 1) ds
theorem enumD_get : ∀ (ds : List D) (i j : Nat), (enumD i ds)[j]? = (ds[j]?).map fun d => .tup [.int ((i + j : Nat) : Int), d]
  | [], i, j => by simp [enumD]
  | d :: ds, i, 0 => by simp [enumD]
  | d :: ds, i, j + 1 => by
    simp only [enumD, List.getElem?_cons_succ]
    rw [enumD_get ds (i + 1) j]
    congr 1
    funext d
    rw [Nat.add_assoc, Nat.add_comm 1 j]
theorem enumD_length : ∀ (ds : List D) (i : Nat), (enumD i ds).length = ds.length
  | [], _ => rfl
  | d :: ds, i => by simp only [enumD, List.length_cons, enumD_length ds (i + 1)]
theorem dit_enum {p tpos : Pos} {elts : List Expr} {kk : Nat} (hg : ∀ i, Gl (X i) "enumerate") (hm : ∀ i, (X i).mg "enumerate" = none) (h : DE C X W e ma) (hs : ∀ i, starEach [e] (X i).env = [(false, eval e (X i).env)] := by exact fun _ => rfl) (hK : ∀ i, (X i).K = C.K := by exact fun _ => rfl) :
    DIt C X W (.Tuple elts kk tpos) (.Call (.Name "enumerate" p) [e] [] pos) (fun g => DL.bind (ma g) fun | .lst xs => ret (enumD 0 xs) | _ => stuck) := by
  obtain ⟨te, pe, ev⟩ := h
  refine ⟨_, fun i => by have h := pi_enum (tpos := tpos) (elts := elts) (kk := kk) (p := p) (pos := pos) (hg i) (hm i) (pa_cons (pe i) pa_nil (hs i)) (hs i); rw [hK i] at h; exact h, ?_⟩
  intro e g s w S R k f r z
  refine ev e g s w S _ k f r (post_mono (post_bind.mp z) (fun d S' y v w' f' k' rv => ?_) fun _ _ x => x)
  cases d <;> try exact y.elim
  case lst xs =>
    simp only [Rep] at rv
    obtain ⟨p, vs, rfl, h0, r2⟩ := rv
    refine ⟨p, vs, rfl, .inl (.inl (k'.ex _ _ h0)), y _ w' f' k' fun w2 S2 gr k2 i => ?_⟩
    have hq : SqL C.K w2.H p vs := .inl (.inl (k2.ex _ _ (gr.ex _ _ h0)))
    refine ⟨fun d hd => ?_, fun hl => ⟨vs, hq, by rw [← r2.length]; rw [enumD_length] at hl; exact hl⟩⟩
    rw [enumD_get] at hd
    cases q : xs[i]? with
    | none => rw [q] at hd; cases hd
    | some d0 =>
      rw [q] at hd; cases hd
      obtain ⟨v0, h1, h2⟩ := (r2.gr gr).get q
      refine ⟨⟨vs, v0, hq, h1⟩, fun x H' y => ?_⟩
      obtain ⟨T, x0, rfl, n, rfl, hx⟩ := y
      have e1 := hx vs hq
      rw [h1] at e1; cases e1
      refine fresh_tup k2 n ?_
      simp only [RepL, Rep]
      refine ⟨V.int i, [v0], rfl, ?_, v0, [], rfl, h2, rfl⟩
      first | rfl | (rw [Nat.zero_add]) | simp
def zipD : List D → List D → List D
  | x :: xs, y :: ys => .tup [x, y] :: zipD xs ys
  | _, _ => []
theorem zipD_get : ∀ (xs ys : List D) (i : Nat) (d : D), (zipD xs ys)[i]? = some d → ∃ x y, xs[i]? = some x ∧ ys[i]? = some y ∧ d = .tup [x, y]
  | [], _, i, d, h => by simp [zipD] at h
  | _ :: _, [], i, d, h => by simp [zipD] at h
  | x :: xs, y :: ys, 0, d, h => by simp [zipD] at h; exact ⟨x, y, rfl, rfl, h.symm⟩
  | x :: xs, y :: ys, i + 1, d, h => by
    simp only [zipD, List.getElem?_cons_succ] at h
    simpa using zipD_get xs ys i d h
theorem zipD_length : ∀ (xs ys : List D), (zipD xs ys).length = min xs.length ys.length
  | [], _ => by simp [zipD]
  | _ :: _, [] => by simp [zipD]
  | x :: xs, y :: ys => by simp [zipD, zipD_length xs ys]
def mzip (m1 m2 : G → M D) : G → M (List D) := fun g => DL.bind (m1 g) fun x => DL.bind (m2 g) fun y => match x, y with
  | .lst xs, .lst ys => ret (zipD xs ys)
  | .tup xs, .tup ys => ret (zipD xs ys)
  | _, _ => stuck
theorem dit_zip {p tpos : Pos} {elts : List Expr} {kk : Nat} (hg : ∀ i, Gl (X i) "zip") (hm : ∀ i, (X i).mg "zip" = none) (h1 : DE C X W a ma) (h2 : DE C X W b mb)
    (hs : ∀ i, starEach [a, b] (X i).env = (false, eval a (X i).env) :: starEach [b] (X i).env := by exact fun _ => rfl) (hs2 : ∀ i, starEach [b] (X i).env = (false, eval b (X i).env) :: starEach [] (X i).env := by exact fun _ => rfl) (hpl : ∀ i, (backTo pos (starEach [b] (X i).env)).any (·.1) = false := by exact fun _ => rfl) (hK : ∀ i, (X i).K = C.K := by exact fun _ => rfl) :
    DIt C X W (.Tuple elts kk tpos) (.Call (.Name "zip" p) [a, b] [] pos) (mzip ma mb) := by
  obtain ⟨t1, p1, e1⟩ := h1; obtain ⟨t2, p2, e2⟩ := h2
  refine ⟨_, fun i => by have h := RZ.pi_zipA (tpos := tpos) (elts := elts) (kk := kk) (p := p) (pos := pos) (hg i) (hm i) (pa_cons (p1 i) (pa_cons (p2 i) pa_nil (hs2 i)) (hs i)) (hs i) (hpl i); rw [hK i] at h; exact h, ?_⟩
  intro e g s w S R k f r z
  refine e1 e g s w S _ k f r (post_mono (post_bind.mp z) (fun d S1 y v w1 f1 k1 rv => ?_) fun _ _ x => x)
  refine e2 e g s w1 S1 _ k1 (f.trans f1) (r.to f1) (post_mono (post_bind.mp y) (fun d' S2 y v' w2 f2 k2 rv' => ?_) fun _ _ x => x.to f1)
  have go : ∀ (xs ys : List D) (vs us : List V) (J : It) (w3 : Wd), RepL C w3.mu w3.H0 xs vs → RepL C w3.mu w3.H0 ys us →
      (∀ w4 S4, Grow w3 w4 → w4.ok C S4 → ∀ (i : Nat) x y, vs[i]? = some x → us[i]? = some y → J.go i w4.H ∧ ∀ v H', J.yld i w4.H v H' → ∃ T, v = .ref T ∧ w4.H T = none ∧ H' = upd w4.H T (.tup [x, y])) →
      (∀ w4 S4, Grow w3 w4 → w4.ok C S4 → ∀ i : Nat, (vs.length ≤ i ∨ us.length ≤ i) → J.stop i w4.H) → Walks C J w3 (zipD xs ys) := by
    intro xs ys vs us J w3 rx ry hgo hst w4 S4 gr k4 i
    refine ⟨fun d hd => ?_, fun hl => hst w4 S4 gr k4 i ?_⟩
    · obtain ⟨x, y, hx, hy, rfl⟩ := zipD_get xs ys i d hd
      obtain ⟨v1, a1, a2⟩ := (rx.gr gr).get hx
      obtain ⟨u1, b1, b2⟩ := (ry.gr gr).get hy
      obtain ⟨g1, g2⟩ := hgo w4 S4 gr k4 i v1 u1 a1 b1
      refine ⟨g1, fun v H' y => ?_⟩
      obtain ⟨T, rfl, n, rfl⟩ := g2 v H' y
      refine fresh_tup k4 n ?_
      simp only [RepL]
      exact ⟨_, _, rfl, a2, _, _, rfl, b2, rfl⟩
    · rw [zipD_length, rx.length, ry.length] at hl
      omega
  cases d <;> (try exact y.elim) <;> cases d' <;> (try exact y.elim)
  case lst.lst xs ys =>
    simp only [Rep] at rv rv'
    obtain ⟨p, vs, rfl, h0, r1⟩ := rv
    obtain ⟨q, us, rfl, h0', r2⟩ := rv'
    have h0 := f2.ex0 _ _ h0
    refine ⟨p, q, vs, us, rfl, .inl ⟨.inl (.inl (k2.ex _ _ h0)), .inl (.inl (k2.ex _ _ h0')), y _ w2 (f1.trans f2) k2 (go _ _ vs us _ w2 (r1.to f2) r2 (fun w4 S4 gr k4 i x y hx hy => ?_) fun w4 S4 gr k4 i hl => ?_)⟩⟩
    · have ha : SqL C.K w4.H p vs := .inl (.inl (k4.ex _ _ (gr.ex _ _ h0)))
      have hb : SqL C.K w4.H q us := .inl (.inl (k4.ex _ _ (gr.ex _ _ h0')))
      refine ⟨⟨vs, us, x, y, ha, hb, hx, hy⟩, fun v H' z => ?_⟩
      obtain ⟨T, x', y', rfl, n, rfl, z1, z2⟩ := z
      have := z1 vs ha; rw [hx] at this; cases this
      have := z2 us hb; rw [hy] at this; cases this
      exact ⟨T, rfl, n, rfl⟩
    · exact ⟨vs, us, .inl (.inl (k4.ex _ _ (gr.ex _ _ h0))), .inl (.inl (k4.ex _ _ (gr.ex _ _ h0'))), hl⟩
  case tup.tup xs ys =>
    simp only [Rep] at rv rv'
    obtain ⟨p, vs, rfl, h0, r1⟩ := rv
    obtain ⟨q, us, rfl, h0', r2⟩ := rv'
    have h0 := f2.ex0 _ _ h0
    refine ⟨p, q, vs, us, rfl, .inr ⟨.inl (.inl (k2.ex _ _ h0)), .inl (.inl (k2.ex _ _ h0')), y _ w2 (f1.trans f2) k2 (go _ _ vs us _ w2 (r1.to f2) r2 (fun w4 S4 gr k4 i x y hx hy => ?_) fun w4 S4 gr k4 i hl => ?_)⟩⟩
    · have ha : SqT C.K w4.H p vs := .inl (.inl (k4.ex _ _ (gr.ex _ _ h0)))
      have hb : SqT C.K w4.H q us := .inl (.inl (k4.ex _ _ (gr.ex _ _ h0')))
      refine ⟨⟨vs, us, x, y, ha, hb, hx, hy⟩, fun v H' z => ?_⟩
      obtain ⟨T, x', y', rfl, n, rfl, z1, z2⟩ := z
      have := z1 vs ha; rw [hx] at this; cases this
      have := z2 us hb; rw [hy] at this; cases this
      exact ⟨T, rfl, n, rfl⟩
    · exact ⟨vs, us, .inl (.inl (k4.ex _ _ (gr.ex _ _ h0))), .inl (.inl (k4.ex _ _ (gr.ex _ _ h0'))), hl⟩
end
end DL
end

section
namespace DL
open PySem PySem.Spec PyProof.Rows L2 Evl

/-! ### targets -/
abbrev Tgt := D → G → Option G
def SameOut (ts : List Nat) (s s' : L2.St) : Prop := ∀ vs : List Nat, (∀ t ∈ ts, t ∈ vs) → wipe s' vs = wipe s vs
def EvG (C : LC) (t : TG) (f : Tgt) (ts : List Nat) : Prop :=
  ∀ e g s w S v d (Q : L2.St → Hp → Prop) g', Wd.ok C S w → From e w → RepG C e w s g → Rep C w.mu w.H0 d v → f d g = some g' → (∀ s', RepG C e w s' g' → SameOut ts s s' → Q s' w.H) → t v s w.H Q
def DG {ι : Type} (C : LC) (X : ι → Cx) (tg : Expr) (f : Tgt) (ts : List Nat) : Prop := ∃ t, (∀ i, PG (X i) tg t) ∧ EvG C t f ts
abbrev Tgts := List D → G → Option G
def EvGs (C : LC) (t : TGs) (f : Tgts) (ts : List Nat) : Prop :=
  ∀ e g s w S vs ds (Q : L2.St → Hp → Prop) g', Wd.ok C S w → From e w → RepG C e w s g → RepL C w.mu w.H0 ds vs → f ds g = some g' → (∀ s', RepG C e w s' g' → SameOut ts s s' → Q s' w.H) → t vs s w.H Q
def DGs {ι : Type} (C : LC) (X : ι → Cx) (tg : List Expr) (f : Tgts) (ts : List Nat) : Prop := ∃ t, (∀ i, PGs (X i) tg t) ∧ EvGs C t f ts ∧ ∀ ds g g', f ds g = some g' → ds.length = tg.length
section
variable {ι : Type} {C : LC} {X : ι → Cx} {Y : Cx} {W : WX} {a b c e tg iter : Expr} {es : List Expr} {pos : Pos} {st : Stmt} {rest body : List Stmt} {ma mb mc : G → M D} {mo : G → M DV} {m m' : SM}
theorem wipe_at : ∀ (s : L2.St) (vs : List Nat) (i : Nat), i ∈ vs → i < s.length → (wipe s vs)[i]? = some none
  | s, v :: vs, i, h, hl => by
    unfold wipe
    by_cases q : v = i
    · subst q
      rw [List.getElem?_set_self (by rw [wipe_length]; exact hl)]
    · rw [List.getElem?_set_ne q]
      exact wipe_at s vs i (by rcases List.mem_cons.mp h with z | z; exact absurd z.symm q; exact z) hl
theorem wipe_out : ∀ (s : L2.St) (vs : List Nat) (i : Nat), i ∉ vs → (wipe s vs)[i]? = s[i]?
  | s, [], i, _ => rfl
  | s, v :: vs, i, h => by
    unfold wipe
    rw [List.getElem?_set_ne (fun z => h (by rw [z]; exact List.mem_cons_self))]
    exact wipe_out s vs i fun z => h (List.mem_cons_of_mem _ z)
theorem wipe_ext {s s' : L2.St} {vs : List Nat} (hl : s'.length = s.length) (h : ∀ i, i ∉ vs → s'[i]? = s[i]?) : wipe s' vs = wipe s vs := by
  apply List.ext_getElem?
  intro i
  by_cases q : i ∈ vs
  · by_cases hi : i < s.length
    · rw [wipe_at s vs i q hi, wipe_at s' vs i q (by rw [hl]; exact hi)]
    · rw [List.getElem?_eq_none (by rw [wipe_length]; omega), List.getElem?_eq_none (by rw [wipe_length]; omega)]
  · rw [wipe_out s vs i q, wipe_out s' vs i q, h i q]
theorem SameOut.set (s : L2.St) (i : Nat) (x : Option V) : SameOut [i] s (s.set i x) := fun vs h => wipe_ext (List.length_set ..) fun j hj => by
  rw [List.getElem?_set_ne (fun z => hj (by rw [← z]; exact h i List.mem_cons_self))]
theorem SameOut.refl (s : L2.St) (ts : List Nat) : SameOut ts s s := fun _ _ => rfl
theorem SameOut.trans {ts us : List Nat} {a b c : L2.St} (x : SameOut ts a b) (y : SameOut us b c) : SameOut (ts ++ us) a c := fun vs h =>
  (y vs fun t ht => h t (List.mem_append_right _ ht)).trans (x vs fun t ht => h t (List.mem_append_left _ ht))
def tname (i : Nat) : Tgt := fun d g => some (g.set i (.sh d))
theorem dg_name {i : Nat} {x : Str} {pos : Pos} (hN : ∀ j, (X j).N.Nodup) (hi : ∀ j, (X j).N[i]? = some x) (hx : ∀ j, Loc (X j).env.scope x) (hf : ∀ j, (X j).fn x = true ∨ (X j).env.scope.names.lookup x = some .local := by first | exact fun _ => .inl rfl | exact fun _ => .inr rfl | assumption) : DG C X (.Name x pos) (tname i) [i] :=
  ⟨_, fun j => pg_name (hN j) (hi j) (hx j) (hf j), fun e g s w S v d Q g' k f r rd hg q => by
    cases hg
    exact q _ (r.set (dv := .sh d) f (From.refl w) rd) (SameOut.set s i _)⟩
def tnil : Tgts := fun ds g => match ds with
  | [] => some g
  | _ => none
def tcons (f : Tgt) (fs : Tgts) : Tgts := fun ds g => match ds with
  | d :: ds => (f d g).bind fun g' => fs ds g'
  | [] => none
theorem dgs_nil : DGs C X [] tnil [] := by
  refine ⟨_, fun _ => pgs_nil, fun e g s w S vs ds Q g' k f r rd hg q => ?_, fun ds g g' h => ?_⟩
  · cases ds with
    | nil =>
      cases hg
      simp only [RepL] at rd; subst rd
      exact ⟨rfl, q s r (SameOut.refl s [])⟩
    | cons _ _ => cases hg
  · cases ds with
    | nil => rfl
    | cons _ _ => cases h
theorem dgs_cons {f : Tgt} {fs : Tgts} {ts us : List Nat} (h : DG C X tg f ts) (h' : DGs C X es fs us)
    (hs : ∀ i, (assignEach (tg :: es) (X i).env).map (·.2) = assign tg (X i).env :: (assignEach es (X i).env).map (·.2) := by exact fun _ => rfl) : DGs C X (tg :: es) (tcons f fs) (ts ++ us) := by
  obtain ⟨t, p, q⟩ := h
  obtain ⟨t', p', q', hl⟩ := h'
  refine ⟨_, fun i => pgs_cons (p i) (p' i) (hs i), fun e g s w S vs ds Q g' k fr r rd hg cont => ?_, fun ds g g' h => ?_⟩
  · cases ds with
    | nil => cases hg
    | cons d ds =>
      simp only [RepL] at rd
      obtain ⟨v, vs', rfl, r1, r2⟩ := rd
      simp only [tcons] at hg
      cases h1 : f d g with
      | none => rw [h1] at hg; cases hg
      | some g1 =>
        rw [h1] at hg
        exact ⟨v, vs', rfl, q e g s w S v d _ g1 k fr r r1 h1 fun s1 r' so => q' e g1 s1 w S vs' ds Q g' k fr r' r2 hg fun s2 r'' so' => cont s2 r'' (so.trans so')⟩
  · cases ds with
    | nil => cases h
    | cons d ds =>
      simp only [tcons] at h
      cases h1 : f d g with
      | none => rw [h1] at h; cases h
      | some g1 =>
        rw [h1] at h
        simp only [List.length_cons, hl ds g1 g' h]
def ttup (fs : Tgts) : Tgt := fun d g => match d with
  | .tup ds => fs ds g
  | _ => none
theorem dg_tup {fs : Tgts} {ts : List Nat} {k : Nat} (hc : ∀ i, (X i).calm = true) (h : DGs C X es fs ts) (hn : ∀ i, (assignEach es (X i).env).length = es.length := by exact fun _ => rfl) (hst : ∀ i, (assignEach es (X i).env).findIdx? (·.1) = none := by exact fun _ => rfl) (hK : ∀ i, (X i).K = C.K := by exact fun _ => rfl) :
    DG C X (.Tuple es k pos) (ttup fs) ts := by
  obtain ⟨t, p, q, hl⟩ := h
  refine ⟨gTup C.K es.length t, fun i => by have h := pg_tup (pos := pos) (k := k) (hc i) (p i) (hn i) (hst i); rw [hK i] at h; exact h, fun e g s w S v d Q g' k fr r rd hg cont => ?_⟩
  cases d <;> simp only [ttup, reduceCtorEq] at hg
  case tup ds =>
    simp only [Rep] at rd
    obtain ⟨a, vs, rfl, h0, r2⟩ := rd
    exact ⟨a, vs, rfl, .inl (.inl (k.ex _ _ h0)), by rw [← r2.length]; exact hl ds g g' hg, q e g s w S vs ds Q g' k fr r r2 hg cont⟩

/-! ### for -/
def forGo (f : Tgt) (b : SM) : List D → SM
  | [], g, S => .ok (.nx g) S
  | d :: ds, g, S => match f d g with
    | none => .stuck
    | some g1 => match b g1 S with
      | .ok (.nx g2) S2 => forGo f b ds g2 S2
      | .ok (.ct g2) S2 => forGo f b ds g2 S2
      | .ok (.bk g2) S2 => .ok (.nx g2) S2
      | .ok (.rt v) S2 => .ok (.rt v) S2
      | .err e g2 S2 => .err e g2 S2
      | .stuck => .stuck
def sfor (mi : G → M (List D)) (f : Tgt) (b : SM) : SM := fun g S => ofM (mi g S) g fun ds S' => forGo f b ds g S'
theorem ds_for {mi : G → M (List D)} {f : Tgt} {ts : List Nat} {b : SM} (hp : ∀ i, PassesOwn (model (X i).prog (X i).w) (X i).A (X i).env (X i).xe) (hc : ∀ i, (X i).calm = true) (hi : DIt C X W tg iter mi) (hg : DG C X tg f ts) (hb : DSs C X W body b)
    (hs : ∀ i x, foldedSetIterable iter (X i).env x = pure x := by intro _ _; rfl) : DS C X W (.For tg iter body [] pos) (sfor mi f b) := by
  obtain ⟨wi, pi, ei⟩ := hi
  obtain ⟨tt, pg, eg⟩ := hg
  obtain ⟨tb, pb, eb⟩ := hb
  refine ⟨_, fun i => ps_for (hp i) (hc i) (pi i) (pg i) (pb i) (hs i), fun e g s w S Dd k fr r z => ?_⟩
  refine ei e g s w S _ k fr r (post_mono (post_ofM fr k r z) (fun ds S1 y J w1 f1 k1 wk => ?_) fun _ _ x => x)
  refine ⟨fun i m s' H => ∃ w' g' S', H = w'.H ∧ From e w' ∧ Grow w1 w' ∧ Wd.ok C S' w' ∧ RepG C e w' s' g' ∧ m = ds.length - i ∧ (forGo f b (ds.drop i) g' S').post C W e w Dd,
    ⟨ds.length, w1, g, S1, rfl, fr.trans f1, Grow.refl w1, k1, r.to f1, rfl, by rw [List.drop_zero]; exact y⟩, ?_⟩
  rintro i m s' H ⟨w', g', S', rfl, fe, gr, k', r', rfl, y⟩
  obtain ⟨wk1, wk2⟩ := wk w' S' gr k' i
  have grw : Grow w w' := f1.grow.trans gr
  cases hd : ds[i]? with
  | none =>
    have hl := List.getElem?_eq_none_iff.mp hd
    rw [List.drop_eq_nil_of_le hl] at y
    exact .inl ⟨wk2 hl, y s' w' fe grw k' r'⟩
  | some d =>
    have hil : i < ds.length := (List.getElem?_eq_some_iff.mp hd).1
    have e0 : ds.drop i = d :: ds.drop (i + 1) := by
      rw [List.drop_eq_getElem_cons hil]
      rw [(List.getElem?_eq_some_iff.mp hd).2]
    rw [e0] at y
    obtain ⟨go, yl⟩ := wk1 d hd
    refine .inr ⟨go, fun s2 H2 => ∃ w2 g2 S2, H2 = w2.H ∧ From e w2 ∧ Grow w1 w2 ∧ Wd.ok C S2 w2 ∧ RepG C e w2 s2 g2 ∧ (forGo f b (ds.drop (i + 1)) g2 S2).post C W e w Dd, ?_, ?_⟩
    · rintro s2 H2 ⟨w2, g2, S2, rfl, q1, q2, q3, q4, q5⟩
      exact ⟨ds.length - (i + 1), by omega, w2, g2, S2, rfl, q1, q2, q3, q4, rfl, q5⟩
    · intro x H' yy
      obtain ⟨w2, f2, k2, rfl, rx⟩ := yl x H' yy
      simp only [forGo] at y
      cases h1 : f d g' with
      | none => rw [h1] at y; exact y.elim
      | some g1 =>
        rw [h1] at y
        have fe2 := fe.trans f2
        have gr2 : Grow w1 w2 := gr.trans f2.grow
        refine eg e g' s' w2 S' x d _ g1 k2 fe2 (r'.to f2) rx h1 fun s3 r3 _ => ?_
        refine eb e g1 s3 w2 S' _ k2 fe2 r3 ?_
        have y : (match b g1 S' with
          | .ok (.nx g2) S2 => forGo f b (ds.drop (i + 1)) g2 S2
          | .ok (.ct g2) S2 => forGo f b (ds.drop (i + 1)) g2 S2
          | .ok (.bk g2) S2 => .ok (.nx g2) S2
          | .ok (.rt v) S2 => .ok (.rt v) S2
          | .err e g2 S2 => .err e g2 S2
          | .stuck => .stuck).post C W e w Dd := y
        have gw : Grow w w2 := f1.grow.trans gr2
        cases hb1 : b g1 S' with
        | stuck => rw [hb1] at y; exact y
        | err er g2 S2 => rw [hb1] at y; exact fun cls d s' w' f g k r x => y cls d s' w' f (gw.trans g) k r x
        | ok o S2 =>
          rw [hb1] at y
          cases o with
          | nx g2 => exact fun s4 w4 f4 gr4 k4 r4 => ⟨w4, g2, S2, rfl, f4, gr2.trans gr4, k4, r4, y⟩
          | ct g2 => exact fun s4 w4 f4 gr4 k4 r4 => ⟨w4, g2, S2, rfl, f4, gr2.trans gr4, k4, r4, y⟩
          | bk g2 => exact fun s4 w4 f4 gr4 k4 r4 => y s4 w4 f4 (gw.trans gr4) k4 r4
          | rt v => exact y

/-! ### while -/
def whileGo (t : G → M Bool) (b : SM) : Nat → SM
  | 0, _, _ => .stuck
  | n + 1, g, S => match t g S with
    | .ok true S1 => (match b g S1 with
      | .ok (.nx g2) S2 => whileGo t b n g2 S2
      | .ok (.ct g2) S2 => whileGo t b n g2 S2
      | .ok (.bk g2) S2 => .ok (.nx g2) S2
      | .ok (.rt v) S2 => .ok (.rt v) S2
      | .err e g2 S2 => .err e g2 S2
      | .stuck => .stuck)
    | .ok false S1 => .ok (.nx g) S1
    | .err e S1 => .err e g S1
    | .stuck => .stuck
theorem ds_while {t : G → M Bool} {b : SM} (n : Nat) (hp : ∀ i, PassesOwn (model (X i).prog (X i).w) (X i).A (X i).env (X i).xe) (hc : DT C X W c t) (hb : DSs C X W body b) : DS C X W (.While c body [] pos) (whileGo t b n) := by
  obtain ⟨tc, pc, ec⟩ := hc
  obtain ⟨tb, pb, eb⟩ := hb
  refine ⟨_, fun i => ps_while (hp i) (pc i) (pb i), fun e g s w S Dd k fr r z => ?_⟩
  refine ⟨fun m s' H => ∃ w' g' S', H = w'.H ∧ From e w' ∧ Grow w w' ∧ Wd.ok C S' w' ∧ RepG C e w' s' g' ∧ (whileGo t b m g' S').post C W e w Dd, ⟨n, w, g, S, rfl, fr, Grow.refl w, k, r, z⟩, ?_⟩
  rintro m s' H ⟨w', g', S', rfl, fe, gr, k', r', y⟩
  cases m with
  | zero => exact y.elim
  | succ m =>
    simp only [whileGo] at y
    refine ec e g' s' w' S' _ k' fe r' ?_
    cases ht : t g' S' with
    | stuck => rw [ht] at y; exact y.elim
    | err er S1 => rw [ht] at y; exact fun cls d w2 f2 k2 x => y cls d s' w2 (fe.trans f2) (gr.trans f2.grow) k2 (r'.to f2) x
    | ok bb S1 =>
      rw [ht] at y
      intro w2 f2 k2
      have fe2 := fe.trans f2
      have gw := gr.trans f2.grow
      cases bb with
      | false => exact y s' w2 fe2 gw k2 (r'.to f2)
      | true =>
        refine ⟨fun s3 H3 => ∃ w3 g3 S3, H3 = w3.H ∧ From e w3 ∧ Grow w w3 ∧ Wd.ok C S3 w3 ∧ RepG C e w3 s3 g3 ∧ (whileGo t b m g3 S3).post C W e w Dd, ?_, ?_⟩
        · rintro s3 H3 ⟨w3, g3, S3, rfl, q1, q2, q3, q4, q5⟩
          exact ⟨m, Nat.lt_succ_self m, w3, g3, S3, rfl, q1, q2, q3, q4, q5⟩
        · refine eb e g' s' w2 S1 _ k2 fe2 (r'.to f2) ?_
          dsimp only at y
          cases hb1 : b g' S1 with
          | stuck => rw [hb1] at y; exact y
          | err er g2 S2 => rw [hb1] at y; exact fun cls d s' w' f g k r x => y cls d s' w' f (gw.trans g) k r x
          | ok o S2 =>
            rw [hb1] at y
            cases o with
            | nx g2 => exact fun s4 w4 f4 gr4 k4 r4 => ⟨w4, g2, S2, rfl, f4, gw.trans gr4, k4, r4, y⟩
            | ct g2 => exact fun s4 w4 f4 gr4 k4 r4 => ⟨w4, g2, S2, rfl, f4, gw.trans gr4, k4, r4, y⟩
            | bk g2 => exact fun s4 w4 f4 gr4 k4 r4 => y s4 w4 f4 (gw.trans gr4) k4 r4
            | rt v => exact y
end
end DL
end

section
namespace DL
open PySem PySem.Spec PyProof.Rows L2 Evl

/-! ### a root is written at -/
/-- an object that is written: no table, no code object -/
def Wr (p : Addr) (o : HO) : Prop := (∀ ps, o ≠ .tbl ps) ∧ ∀ q, o ≠ LamX.CodeO p q
theorem wrL {p : Addr} {xs : List V} : Wr p (.lst xs) := ⟨(fun _ z => nomatch z), fun _ z => by unfold LamX.CodeO at z; cases z⟩
theorem wrK {p : Addr} {xs : List (Key × V)} : Wr p (.dK xs) := ⟨(fun _ z => nomatch z), fun _ z => by unfold LamX.CodeO at z; cases z⟩
theorem wrT {p : Addr} {xs : List (List Key × V)} : Wr p (.dT xs) := ⟨(fun _ z => nomatch z), fun _ z => by unfold LamX.CodeO at z; cases z⟩
theorem wrI {p C dx : Addr} {fs : List (Str × V)} : Wr p (.ins C dx fs) := ⟨(fun _ z => nomatch z), fun _ z => by unfold LamX.CodeO at z; cases z⟩
theorem crep_wr {C : LC} {mu : List Addr} {H : Hp} {o : Option HO} {p : Addr} : ∀ {d : D}, CRep C mu H o d → ∃ u, o = Option.some u ∧ Wr p u
  | .lst _, ⟨vs, e1, _⟩ => ⟨_, e1, wrL⟩
  | .dct _, ⟨us, e1, _⟩ => ⟨_, e1, wrK⟩
  | .dtt _, ⟨us, e1, _⟩ => ⟨_, e1, wrT⟩
  | .ins _ _, ⟨dx, us, e1, _⟩ => ⟨_, e1, wrI⟩
theorem Tabs.wr {T : List (Addr × Str)} {H : Hp} {p : Addr} {o o' : HO} (t : LamX.Tabs T H) (h : H p = some o') (w : Wr p o') : LamX.Tabs T (upd H p o) := fun q hq => by
  obtain ⟨ps, h1, h2, h3⟩ := t q hq
  refine ⟨ps, ?_, h2, fun pos cv hc => ?_⟩
  · rw [upd_ne (fun z => by rw [z, h] at h1; exact w.1 _ (Option.some.inj h1))]; exact h1
  · obtain ⟨c, e1, e2⟩ := h3 pos cv hc
    exact ⟨c, e1, by rw [upd_ne (fun z => by subst z; rw [h] at e2; exact w.2 _ (Option.some.inj e2))]; exact e2⟩
theorem Wd.ok.wr {C : LC} {S : Store} {w : Wd} {p : Addr} {o o' : HO} (k : w.ok C S) (n0 : w.H0 p = none) (nm : p ∉ w.mu) (h : w.H p = some o') (wr : Wr p o') : Wd.ok C S ⟨w.mu, w.H0, upd w.H p o⟩ :=
  ⟨fun a u e => by
    show upd w.H p o a = _
    rw [upd_ne (fun z => by rw [z, n0] at e; cases e)]; exact k.ex a u e, k.out, k.nd, k.len, fun i c a h1 h2 => by
    show CRep C w.mu w.H0 (upd w.H p o a) c
    rw [upd_ne (fun z => nm (by rw [← z]; exact List.mem_of_getElem? h2))]
    exact k.cel i c a h1 h2, Tabs.wr k.tab h wr⟩
theorem From.wr {e w : Wd} {p : Addr} {o : HO} (f : From e w) (n : e.H p = none) : From e ⟨w.mu, w.H0, upd w.H p o⟩ :=
  ⟨f.ex0, f.pre, fun a h => by
    show upd w.H p o a ≠ none
    rw [upd_ne (fun z => h (by rw [z]; exact n))]; exact f.all a h, fun a u h1 h2 h3 h4 => by
    obtain ⟨k1, k2, k3⟩ := f.fr a u h1 h2 h3 h4
    exact ⟨by show upd w.H p o a = _; rw [upd_ne (fun z => by rw [z, n] at h1; cases h1)]; exact k1, k2, k3⟩⟩

/-! ### blocks -/
structure BI (ι : Type) : Type where
  i : ι
  s : Shared
  H : Hp
  Cc : Addr
  cl : List (Str × Addr)
  fp : List Addr
abbrev XB {ι : Type} (X : ι → Cx) (scope : Scope) : BI ι → Cx := fun b => (X b.i).blk b.s b.H scope (compEnvC scope b.cl b.Cc (X b.i).env) b.fp
abbrev W0 : WX := fun _ _ _ _ => False
def DTs {ι : Type} (C : LC) (X : ι → Cx) (W : WX) (es : List Expr) (m : G → M Bool) : Prop := ∃ tt, (∀ i, PTs (X i) es tt) ∧ EvT C W tt m
def wipeG (g : G) : List Nat → G
  | [] => g
  | v :: vs => (wipeG g vs).set v .un
section
variable {ι : Type} {C : LC} {X : ι → Cx} {Y : Cx} {W : WX} {a b c e tg iter elt : Expr} {es ifs : List Expr} {pos : Pos} {st : Stmt} {rest body : List Stmt} {ma mb mc : G → M D} {mo : G → M DV} {m m' : SM}
theorem dts_nil : DTs C X W [] (fun _ => ret true) := ⟨_, fun _ => pts_nil, fun e g s w S Q k f r p => p w (From.refl w) k⟩
theorem dts_one {t : G → M Bool} (h : DT C X W c t) : DTs C X W [c] t := by obtain ⟨tt, p, q⟩ := h; exact ⟨_, fun i => pts_one (p i), q⟩
theorem RepG.wipe1 {e w : Wd} {s : L2.St} {g : G} {i : Nat} (r : RepG C e w s g) : RepG C e w (s.set i none) (g.set i .un) := by
  refine ⟨by rw [List.length_set, List.length_set]; exact r.len, fun j x hx => ?_, fun j l p dj dl hjl h1 h2 h3 h4 => ?_⟩
  · rw [List.getElem?_set] at hx
    by_cases q : i = j
    · subst q
      rw [if_pos rfl] at hx
      split at hx
      · rename_i hi
        cases hx
        exact ⟨none, by rw [List.getElem?_set, if_pos rfl, if_pos (by rw [r.len]; exact hi)], trivial⟩
      · cases hx
    · rw [if_neg q] at hx
      obtain ⟨o, h1, h2⟩ := r.at_ j x hx
      exact ⟨o, by rw [List.getElem?_set, if_neg q]; exact h1, h2⟩
  · have nj : i ≠ j := fun z => by
      subst z
      rw [List.getElem?_set, if_pos rfl] at h1
      split at h1 <;> cases h1
    have nl : i ≠ l := fun z => by
      subst z
      rw [List.getElem?_set, if_pos rfl] at h2
      split at h2 <;> cases h2
    rw [List.getElem?_set, if_neg nj] at h1 h3
    rw [List.getElem?_set, if_neg nl] at h2 h4
    exact r.sep j l p dj dl hjl h1 h2 h3 h4
theorem RepG.wipe {e w : Wd} {s : L2.St} {g : G} (r : RepG C e w s g) : ∀ vs : List Nat, RepG C e w (L2.wipe s vs) (wipeG g vs)
  | [] => r
  | v :: vs => (RepG.wipe r vs).wipe1
theorem wipe_wipe (s : L2.St) (vs : List Nat) : L2.wipe (L2.wipe s vs) vs = L2.wipe s vs :=
  wipe_ext (by rw [wipe_length]) fun i hi => by rw [wipe_out s vs i hi]

/-- the turns of [y for f in ds if t] -/
def compGo (f : Tgt) (t : G → M Bool) (m : G → M D) (vs : List Nat) (g : G) : List D → List D → M (List D)
  | [], acc => ret acc
  | d :: ds, acc => match f d (wipeG g vs) with
    | none => stuck
    | some g1 => DL.bind (nox (t g1)) fun b => if b = true then DL.bind (nox (m g1)) fun y => compGo f t m vs g ds (acc ++ [y]) else compGo f t m vs g ds acc
def mlc (mi : G → M (List D)) (f : Tgt) (t : G → M Bool) (m : G → M D) (vs : List Nat) : G → M DV := fun g => DL.bind (mi g) fun ds => if ds.length ≤ 1000000 then DL.bind (compGo f t m vs g ds []) fun ys => ret (.ow (.lst ys)) else stuck
theorem post_K0W {α : Type} {r : Res α} {Q : α → Store → Prop} {w : Wd} {s : L2.St} (h : r.post Q K0) : r.post Q (KE C w W0 s) := post_mono h (fun _ _ x => x) fun _ _ x => x.elim
theorem ev_lc {wi : TI} {gt : TG} {tt : TT} {te : TE} {mi : G → M (List D)} {f : Tgt} {ts vs : List Nat} {t : G → M Bool} {m : G → M D} (ei : EvIt C W wi mi) (eg : EvG C gt f ts) (hts : ∀ x ∈ ts, x ∈ vs) (et : EvT C W0 tt t) (em : EvD C W0 te m) :
    EvO C W (tLc wi gt tt te vs) (mlc mi f t m vs) := fun e g s w S Q k fr r p => by
  refine ei e g s w S _ k fr r (post_mono (post_bind.mp p) (fun ds S1 y J w1 f1 k1 wk L nD => ?_) fun _ _ x => x)
  split at y
  case isFalse => exact y.elim
  rename_i hbig
  have nwD : w.H L = none := fresh_from f1 nD
  have n0D : w1.H0 L = none := k1.none0 nD
  have nmD : L ∉ w1.mu := k1.nmu nD
  have hln : ∀ m : Nat, m ≤ ds.length → m < sizeLine := fun m h => by rw [sizeLine_eq]; omega
  refine ⟨fun i n H => ∃ (w' : Wd) (S' : Store) (acc : List D) (us : List V), H = w'.H ∧ From w w' ∧ Grow w1 w' ∧ Wd.ok C S' w' ∧ w'.H L = some (.lst us) ∧ RepL C w'.mu w'.H0 acc us ∧ w'.H0 L = none ∧ L ∉ w'.mu ∧ acc.length ≤ i ∧ i ≤ ds.length ∧ n = ds.length - i ∧
      (DL.bind (compGo f t m vs g (ds.drop i) acc) (fun ys => ret (.ow (.lst ys))) S').post (KO C w Q) (KE C w W s),
    ⟨ds.length, ⟨w1.mu, w1.H0, upd w1.H L (.lst [])⟩, S1, [], [], rfl, f1.trans (From.new nD), ⟨Ex.refl _, List.prefix_refl _⟩, k1.new nD, upd_same, by simp only [RepL], n0D, nmD, Nat.le_refl _, Nat.zero_le _, rfl, by rw [List.drop_zero]; exact y⟩, ?_⟩
  rintro i n H ⟨w', S', acc, us, rfl, f', gr, k', hD, rl, h0, hm, hacc, hi, rfl, y⟩
  obtain ⟨wk1, wk2⟩ := wk w' S' gr k' i
  cases hd : ds[i]? with
  | none =>
    have hl := List.getElem?_eq_none_iff.mp hd
    rw [List.drop_eq_nil_of_le hl] at y
    have y : KO C w Q (.ow (.lst acc)) S' := y
    exact .inl ⟨wk2 hl, y (.ref L) w' f' k' ⟨L, rfl, nwD, h0, hm, us, hD, rl⟩⟩
  | some d =>
    have hil : i < ds.length := (List.getElem?_eq_some_iff.mp hd).1
    have e0 : ds.drop i = d :: ds.drop (i + 1) := by
      rw [List.drop_eq_getElem_cons hil, (List.getElem?_eq_some_iff.mp hd).2]
    rw [e0] at y
    obtain ⟨go, yl⟩ := wk1 d hd
    refine .inr ⟨go, fun H2 => ∃ (w2 : Wd) (S2 : Store) (acc2 : List D) (us : List V), H2 = w2.H ∧ From w w2 ∧ Grow w1 w2 ∧ Wd.ok C S2 w2 ∧ w2.H L = some (.lst us) ∧ RepL C w2.mu w2.H0 acc2 us ∧ w2.H0 L = none ∧ L ∉ w2.mu ∧ acc2.length ≤ i + 1 ∧
      (DL.bind (compGo f t m vs g (ds.drop (i + 1)) acc2) (fun ys => ret (.ow (.lst ys))) S2).post (KO C w Q) (KE C w W s), ?_, ?_⟩
    · rintro H2 ⟨w2, S2, acc2, us2, rfl, q1, q2, q3, q4, q5, q6, q7, q8, q9⟩
      exact ⟨ds.length - (i + 1), by omega, w2, S2, acc2, us2, rfl, q1, q2, q3, q4, q5, q6, q7, q8, hil, rfl, q9⟩
    · intro x H' yy
      obtain ⟨w2, f2, k2, rfl, rx⟩ := yl x H' yy
      have fw2 : From w w2 := f'.trans f2
      have fe2 : From e w2 := fr.trans fw2
      have keep : ∀ {wa : Wd}, From w2 wa → wa.H L = some (.lst us) ∧ wa.H0 L = none ∧ L ∉ wa.mu := fun {wa} fa => by
        obtain ⟨a1, a2, a3⟩ := f2.fr L _ hD h0 hm (fun _ z => nomatch z)
        exact fa.fr L _ a1 a2 a3 (fun _ z => nomatch z)
      simp only [compGo] at y
      cases h1 : f d (wipeG g vs) with
      | none => rw [h1] at y; exact y.elim
      | some g1 =>
        rw [h1] at y
        refine eg e (wipeG g vs) (L2.wipe s vs) w2 S' x d _ g1 k2 fe2 ((r.to fw2).wipe vs) rx h1 fun s3 r3 so => ⟨?_, ?_⟩
        · rw [so vs hts, wipe_wipe]
        · have y1 := post_bind.mp (post_bind.mp y)
          refine et e g1 s3 w2 S' _ k2 fe2 r3 (post_K0W (post_mono (post_nox (post_mono y1 (fun _ _ z => z) fun _ _ z => z)) (fun b S3 z w3 f3 k3 => ?_) fun _ _ z => z))
          cases b with
          | false =>
            simp only [Bool.false_eq_true, if_false] at z ⊢
            obtain ⟨a1, a2, a3⟩ := keep f3
            exact ⟨w3, S3, acc, us, rfl, fw2.trans f3, (gr.trans f2.grow).trans f3.grow, k3, a1, (rl.to f2).to f3, a2, a3, Nat.le_succ_of_le hacc, post_bind.mpr z⟩
          | true =>
            simp only [if_true] at z ⊢
            have z1 := post_bind.mp z
            refine em e g1 s3 w3 S3 _ k3 (fe2.trans f3) (r3.to f3) (post_K0W (post_mono (post_nox z1) (fun dy S4 z v w4 f4 k4 rv => ?_) fun _ _ z => z))
            obtain ⟨a1, a2, a3⟩ := keep (f3.trans f4)
            have lacc : us.length = acc.length := by rw [rl.length]
            refine ⟨us, a1, hln _ (by omega), ⟨w4.mu, w4.H0, upd w4.H L (.lst (us ++ [v]))⟩, S4, acc ++ [dy], us ++ [v], rfl, ((fw2.trans f3).trans f4).wr nwD, ⟨(((gr.trans f2.grow).trans f3.grow).trans f4.grow).ex, (((gr.trans f2.grow).trans f3.grow).trans f4.grow).pre⟩,
              k4.wr a2 a3 a1 wrL, upd_same, RepL.append (((rl.to f2).to f3).to f4) (by simp only [RepL]; exact ⟨v, [], rfl, rv, rfl⟩), a2, a3, ?_, post_bind.mpr z⟩
            rw [List.length_append]; exact Nat.succ_le_succ hacc
theorem do_lc {scope : Scope} {own : List (Str × Nat)} {mi : G → M (List D)} {f : Tgt} {ts vs : List Nat} {t : G → M Bool} {m : G → M D} (hc : ∀ i, (X i).calm = true) (hN : ∀ i, (X i).N.Nodup) (ok : ∀ i, BlkOk (X i).N (X i).env.scope scope own) (hvs : vs = own.map (·.2))
    (hi : DIt C X W tg iter mi) (hg : DG C (XB X scope) tg f ts) (ht : DTs C (XB X scope) W0 ifs t) (he : DE C (XB X scope) W0 elt m) (hts : ∀ x ∈ ts, x ∈ vs) (hs : ∀ i x, foldedSetIterable iter (X i).env x = pure x := by intro _ _; rfl) :
    DO C X W (.ListComp elt [⟨tg, iter, ifs, 0⟩] scope pos) (mlc mi f t m vs) := by
  subst hvs
  obtain ⟨wi, pi, ei⟩ := hi
  obtain ⟨gt, pg, eg⟩ := hg
  obtain ⟨tt, pt, et⟩ := ht
  obtain ⟨te, pe, ee⟩ := he
  exact ⟨_, fun i => pe_lc (hc i) (hN i) (pi i) (ok i) (fun s H Cc cl fp => pg ⟨i, s, H, Cc, cl, fp⟩) (fun s H Cc cl fp => pt ⟨i, s, H, Cc, cl, fp⟩) (fun s H Cc cl fp => pe ⟨i, s, H, Cc, cl, fp⟩) (hs i), ev_lc ei eg hts et ee⟩
theorem ds_setLc {i : Nat} {y : Str} {py spos : Pos} {scope : Scope} {own : List (Str × Nat)} {mi : G → M (List D)} {f : Tgt} {ts vs : List Nat} {t : G → M Bool} {m : G → M D} (hc : ∀ i, (X i).calm = true) (hN : ∀ i, (X i).N.Nodup) (hy : ∀ j, (X j).N[i]? = some y) (hyl : ∀ j, (X j).env.scope.names.lookup y = some .local)
    (hsw : ∀ j, swapsWith (.ListComp elt [⟨tg, iter, ifs, 0⟩] scope pos) (some (.Name y py)) spos.line (X j).env = pure true) (ok : ∀ i, BlkOk (X i).N (X i).env.scope scope own) (hvs : vs = own.map (·.2))
    (hi : DIt C X W tg iter mi) (hg : DG C (XB X scope) tg f ts) (ht : DTs C (XB X scope) W0 ifs t) (he : DE C (XB X scope) W0 elt m) (hts : ∀ x ∈ ts, x ∈ vs) (hs : ∀ i x, foldedSetIterable iter (X i).env x = pure x := by intro _ _; rfl) :
    DS C X W (.Assign [.Name y py] (.ListComp elt [⟨tg, iter, ifs, 0⟩] scope pos) spos) (sasg i (mlc mi f t m vs)) := by
  subst hvs
  obtain ⟨wi, pi, ei⟩ := hi
  obtain ⟨gt, pg, eg⟩ := hg
  obtain ⟨tt, pt, et⟩ := ht
  obtain ⟨te, pe, ee⟩ := he
  exact ⟨_, fun j => ps_setLc (hc j) (hN j) (hy j) (hyl j) (hsw j) (pi j) (ok j) (fun s H Cc cl fp => pg ⟨j, s, H, Cc, cl, fp⟩) (fun s H Cc cl fp => pt ⟨j, s, H, Cc, cl, fp⟩) (fun s H Cc cl fp => pe ⟨j, s, H, Cc, cl, fp⟩) (hs j), ev_asg (ev_lc ei eg hts et ee)⟩
end
end DL
end

section
namespace DL
open PySem PySem.Spec PyProof.Rows L2 Evl

/-! ### places -/
inductive Pl where
  | slot (i : Nat) | cell (j : Nat)
def plc (i : Nat) (g : G) (S : Store) : Option (Pl × D) := match g[i]? with
  | some (.ow d) => some (.slot i, d)
  | some (.sh (.cell j)) => match S[j]? with
    | some d => some (.cell j, d)
    | none => none
  | _ => none
def Pl.putG : Pl → D → G → G
  | .slot i, d, g => g.set i (.ow d)
  | .cell _, _, g => g
def Pl.putS : Pl → D → Store → Store
  | .slot _, _, S => S
  | .cell j, d, S => S.set j d
section
variable {C : LC}
theorem nodup_ix : ∀ {l : List Addr} {i j : Nat} {a : Addr}, l.Nodup → l[i]? = some a → l[j]? = some a → i = j
  | [], i, j, a, _, h, _ => by simp at h
  | x :: l, 0, 0, a, _, _, _ => rfl
  | x :: l, 0, j + 1, a, n, h1, h2 => by
    simp only [List.getElem?_cons_zero, Option.some.injEq] at h1
    simp only [List.getElem?_cons_succ] at h2
    subst h1
    exact absurd (List.mem_of_getElem? h2) (List.nodup_cons.mp n).1
  | x :: l, i + 1, 0, a, n, h1, h2 => by
    simp only [List.getElem?_cons_zero, Option.some.injEq] at h2
    simp only [List.getElem?_cons_succ] at h1
    subst h2
    exact absurd (List.mem_of_getElem? h1) (List.nodup_cons.mp n).1
  | x :: l, i + 1, j + 1, a, n, h1, h2 => by
    simp only [List.getElem?_cons_succ] at h1 h2
    rw [nodup_ix (List.nodup_cons.mp n).2 h1 h2]
theorem cell_wr {e w : Wd} {S : Store} {s : L2.St} {g : G} {j : Nat} {a : Addr} {d d' : D} {o' : HO} (f : From e w) (k : w.ok C S) (r : RepG C e w s g) (hS : S[j]? = some d) (ha : w.mu[j]? = some a) (h : CRep C w.mu w.H0 (some o') d') :
    From e ⟨w.mu, w.H0, upd w.H a o'⟩ ∧ Wd.ok C (S.set j d') ⟨w.mu, w.H0, upd w.H a o'⟩ ∧ RepG C e ⟨w.mu, w.H0, upd w.H a o'⟩ s g := by
  have hmu : a ∈ w.mu := List.mem_of_getElem? ha
  have h0 : w.H0 a = none := k.out a hmu
  obtain ⟨u, hu, wu⟩ := crep_wr (k.cel j d a hS ha)
  refine ⟨⟨f.ex0, f.pre, fun x hx => ?_, fun x o h1 h2 h3 h4 => ?_⟩, ⟨fun x o hx => ?_, k.out, k.nd, by rw [List.length_set]; exact k.len, fun i c x h1 h2 => ?_, Tabs.wr k.tab hu wu⟩, ⟨r.len, fun i x hx => ?_, r.sep⟩⟩
  · show upd w.H a o' x ≠ none
    by_cases q : x = a
    · subst q; rw [upd_same]; exact fun z => nomatch z
    · rw [upd_ne q]; exact f.all x hx
  · obtain ⟨k1, k2, k3⟩ := f.fr x o h1 h2 h3 h4
    exact ⟨by show upd w.H a o' x = _; rw [upd_ne (fun z => k3 (by rw [z]; exact hmu))]; exact k1, k2, k3⟩
  · show upd w.H a o' x = _
    rw [upd_ne (fun z => by rw [z, h0] at hx; cases hx)]; exact k.ex x o hx
  · show CRep C w.mu w.H0 (upd w.H a o' x) c
    by_cases q : j = i
    · subst q
      rw [List.getElem?_set_self (List.getElem?_eq_some_iff.mp hS).1] at h1
      cases h1
      have h2 : w.mu[j]? = some x := h2
      rw [ha] at h2; cases h2
      rw [upd_same]; exact h
    · rw [List.getElem?_set_ne q] at h1
      have hx : x ≠ a := fun z => by
        subst z
        have h2 : w.mu[i]? = some x := h2
        exact q (nodup_ix k.nd ha h2)
      rw [upd_ne hx]; exact k.cel i c x h1 h2
  · obtain ⟨o, q1, q2⟩ := r.at_ i x hx
    refine ⟨o, q1, ?_⟩
    cases x with
    | un => trivial
    | sh d => exact q2
    | ow d =>
      obtain ⟨p, e1, e2, e3, e4, e5⟩ := q2
      refine ⟨p, e1, e2, e3, e4, ?_⟩
      show CRep C w.mu w.H0 (upd w.H a o' p) d
      rw [upd_ne (fun z => e4 (by rw [z]; exact hmu))]; exact e5
theorem slot_wr {e w : Wd} {S : Store} {s : L2.St} {g : G} {i : Nat} {p : Addr} {d d' : D} {o' : HO} (f : From e w) (k : w.ok C S) (r : RepG C e w s g) (hg : g[i]? = some (.ow d)) (hs : s[i]? = some (some (.ref p))) (h : CRep C w.mu w.H0 (some o') d') :
    From e ⟨w.mu, w.H0, upd w.H p o'⟩ ∧ Wd.ok C S ⟨w.mu, w.H0, upd w.H p o'⟩ ∧ RepG C e ⟨w.mu, w.H0, upd w.H p o'⟩ s (g.set i (.ow d')) := by
  obtain ⟨o, q1, p', q2, n, n0, nm, rc⟩ := r.at_ i _ hg
  rw [hs] at q1
  obtain rfl : some (V.ref p) = o := Option.some.inj q1
  obtain rfl : p = p' := V.ref.inj (Option.some.inj q2)
  obtain ⟨u, hu, wu⟩ := crep_wr rc
  refine ⟨f.wr n, k.wr n0 nm hu wu, ⟨by rw [List.length_set]; exact r.len, fun j x hx => ?_, fun j l p' dj dl hjl h1 h2 h3 h4 => ?_⟩⟩
  · rw [List.getElem?_set] at hx
    by_cases q : i = j
    · subst q
      rw [if_pos rfl] at hx
      split at hx
      · cases hx
        exact ⟨_, hs, p, rfl, n, n0, nm, by show CRep C w.mu w.H0 (upd w.H p o' p) d'; rw [upd_same]; exact h⟩
      · cases hx
    · rw [if_neg q] at hx
      obtain ⟨o, h1, h2⟩ := r.at_ j x hx
      refine ⟨o, h1, ?_⟩
      cases x with
      | un => trivial
      | sh d => exact h2
      | ow d =>
        obtain ⟨p', e1, e2, e3, e4, e5⟩ := h2
        refine ⟨p', e1, e2, e3, e4, ?_⟩
        show CRep C w.mu w.H0 (upd w.H p o' p') d
        rw [upd_ne (fun z => by subst z; exact r.sep i j p' _ _ q hg hx hs (by rw [h1, e1]))]; exact e5
  · have back : ∀ (j : Nat) d, (g.set i (.ow d'))[j]? = some (.ow d) → ∃ d2, g[j]? = some (.ow d2) := fun j d hj => by
      rw [List.getElem?_set] at hj
      by_cases q : i = j
      · subst q; exact ⟨_, hg⟩
      · rw [if_neg q] at hj; exact ⟨_, hj⟩
    obtain ⟨d1, z1⟩ := back j dj h1
    obtain ⟨d2, z2⟩ := back l dl h2
    exact r.sep j l p' d1 d2 hjl z1 z2 h3 h4
theorem plc_ok {e w : Wd} {S : Store} {s : L2.St} {g : G} {i : Nat} {pl : Pl} {d : D} (f : From e w) (k : w.ok C S) (r : RepG C e w s g) (h : plc i g S = some (pl, d)) :
    ∃ p, s[i]? = some (some (.ref p)) ∧ CRep C w.mu w.H0 (w.H p) d ∧ ∀ d' o', CRep C w.mu w.H0 (some o') d' → From e ⟨w.mu, w.H0, upd w.H p o'⟩ ∧ Wd.ok C (pl.putS d' S) ⟨w.mu, w.H0, upd w.H p o'⟩ ∧ RepG C e ⟨w.mu, w.H0, upd w.H p o'⟩ s (pl.putG d' g) := by
  unfold plc at h
  cases hg : g[i]? with
  | none => rw [hg] at h; cases h
  | some x =>
    rw [hg] at h
    cases x with
    | un => cases h
    | ow d0 =>
      cases h
      obtain ⟨o, q1, p, q2, n, n0, nm, rc⟩ := r.at_ i _ hg
      subst q2
      exact ⟨p, q1, rc, fun d' o' z => slot_wr f k r hg q1 z⟩
    | sh d0 =>
      cases d0 with
      | cell j =>
        cases hS : S[j]? with
        | none => simp only [hS, reduceCtorEq] at h
        | some d0 =>
          simp only [hS, Option.some.injEq, Prod.mk.injEq] at h
          obtain ⟨rfl, rfl⟩ := h
          obtain ⟨o, q1, v, q2, rv⟩ := r.at_ i _ hg
          subst q2
          simp only [Rep] at rv
          obtain ⟨a, rfl, ha⟩ := rv
          exact ⟨a, q1, k.cel j _ a hS ha, fun d' o' z => cell_wr f k r hS ha z⟩
      | _ => cases h

/-! ### put into a dict -/
theorem RepK.put {mu : List Addr} {H : Hp} {k : Key} {d : D} {v : V} {kvs : List (D × D)} {us : List (Key × V)} (r : RepK C mu H kvs us) (hk : keyOk k) (rd : Rep C mu H d v) : RepK C mu H (dput kvs (kD k) d) (putK us k v) := by
  have any : (kvs.any fun p => kq p.1 (kD k)) = us.any fun kv => decide (kv.1 = k) := by
    induction kvs generalizing us with
    | nil => simp only [RepK] at r; subst r; rfl
    | cons p kvs ih =>
      obtain ⟨k1, d1⟩ := p
      simp only [RepK] at r
      obtain ⟨k', v', us', rfl, rfl, _, _, r⟩ := r
      simp only [List.any_cons, kq_kD, ih r]
  have app : ∀ {kvs : List (D × D)} {us : List (Key × V)}, RepK C mu H kvs us → RepK C mu H (kvs ++ [(kD k, d)]) (us ++ [(k, v)]) := fun {kvs} => by
    induction kvs with
    | nil => intro us r; simp only [RepK] at r; subst r; simp only [List.nil_append, RepK]; exact ⟨k, v, [], rfl, rfl, hk, rd, rfl⟩
    | cons p kvs ih =>
      intro us r
      obtain ⟨k1, d1⟩ := p
      simp only [RepK] at r
      obtain ⟨k', v', us', rfl, rfl, h1, h2, r⟩ := r
      simp only [List.cons_append, RepK]
      exact ⟨k', v', us' ++ [(k, v)], rfl, rfl, h1, h2, ih r⟩
  have mp : ∀ {kvs : List (D × D)} {us : List (Key × V)}, RepK C mu H kvs us → RepK C mu H (kvs.map fun p => if kq p.1 (kD k) = true then (p.1, d) else p) (us.map fun kv => if kv.1 = k then (kv.1, v) else kv) := fun {kvs} => by
    induction kvs with
    | nil => intro us r; simp only [RepK] at r; subst r; simp only [List.map_nil, RepK]
    | cons p kvs ih =>
      intro us r
      obtain ⟨k1, d1⟩ := p
      simp only [RepK] at r
      obtain ⟨k', v', us', rfl, rfl, h1, h2, r⟩ := r
      simp only [List.map_cons, kq_kD, decide_eq_true_eq]
      by_cases q : k' = k
      · rw [if_pos q, if_pos q]; simp only [RepK]; exact ⟨k', v, _, rfl, rfl, h1, rd, ih r⟩
      · rw [if_neg q, if_neg q]; simp only [RepK]; exact ⟨k', v', _, rfl, rfl, h1, h2, ih r⟩
  unfold dput putK
  rw [any]
  by_cases q : (us.any fun kv => decide (kv.1 = k)) = true
  · rw [if_pos q, if_pos q]; exact mp r
  · rw [if_neg q, if_neg q]; exact app r
/-- a dict with k told anew -/
def dset : D → D → D → Option D
  | .dct kvs, .int i, v => if kvs.length ≤ 1000000 then some (.dct (dput kvs (.int i) v)) else none
  | .dct kvs, .str x, v => if kvs.length ≤ 1000000 then some (.dct (dput kvs (.str x) v)) else none
  | _, _, _ => none
theorem dset_ok {w : Wd} {p : Addr} {dd dk dv dd' : D} {y v : V} (rc : CRep C w.mu w.H0 (w.H p) dd) (ry : Rep C w.mu w.H0 dk y) (rv : Rep C w.mu w.H0 dv v) (h : dset dd dk dv = some dd') :
    ∃ o', DPut w.H p y v (upd w.H p o') ∧ CRep C w.mu w.H0 (some o') dd' := by
  have hz : ∀ n : Nat, n ≤ 1000000 → n < sizeLine := fun n h => by rw [sizeLine_eq]; omega
  cases dd <;> simp only [dset, reduceCtorEq] at h
  rename_i kvs
  cases dk <;> simp only [dset, reduceCtorEq] at h
  · rename_i i
    split at h
    · rename_i hl
      cases h
      obtain ⟨us, h1, h2⟩ := rc
      simp only [Rep] at ry; subst ry
      exact ⟨_, .inl ⟨us, .inl i, h1, rfl, hz _ (by rw [← h2.length]; exact hl), rfl⟩, _, rfl, h2.put (k := .inl i) trivial rv⟩
    · cases h
  · rename_i x
    split at h
    · rename_i hl
      cases h
      obtain ⟨us, h1, h2⟩ := rc
      simp only [Rep] at ry
      obtain ⟨rfl, hx⟩ := ry
      exact ⟨_, .inl ⟨us, .inr x, h1, rfl, hz _ (by rw [← h2.length]; exact hl), rfl⟩, _, rfl, h2.put (k := .inr x) hx rv⟩
    · cases h
end
section
variable {ι : Type} {C : LC} {X : ι → Cx} {W : WX} {a b c e o value idx : Expr} {es : List Expr} {pos pos' : Pos} {ma mb mv mk : G → M D} {mo : G → M DV}
def hasV (i : Nat) (g : G) : Bool := match g[i]? with
  | some (.sh _) => true
  | some (.ow _) => true
  | _ => false
theorem hasV_ok {e w : Wd} {s : L2.St} {g : G} {i : Nat} (r : RepG C e w s g) (h : hasV i g = true) : ∃ v, s[i]? = some (some v) := by
  unfold hasV at h
  cases hg : g[i]? with
  | none => rw [hg] at h; cases h
  | some x =>
    rw [hg] at h
    cases x with
    | un => cases h
    | sh d => obtain ⟨o, q1, v, q2, _⟩ := r.at_ i _ hg; subst q2; exact ⟨v, q1⟩
    | ow d => obtain ⟨o, q1, p, q2, _⟩ := r.at_ i _ hg; subst q2; exact ⟨_, q1⟩
/-- x[k] = v, x a name -/
def sdput (i : Nat) (mk mv : G → M D) : SM := fun g S => ofM (mv g S) g fun v S1 => if hasV i g = true then ofM (mk g S1) g fun k S2 => match plc i g S2 with
  | some (pl, dd) => match dset dd k v with
    | some dd' => .ok (.nx (pl.putG dd' g)) (pl.putS dd' S2)
    | none => .stuck
  | none => .stuck else .stuck
theorem ds_dput {i : Nat} (hu : ∀ j, (X j).A.units + 1 < cLine) (ho : ∀ j, PE (X j) o (tVar i)) (hi : DE C X W idx mk) (hv : DE C X W value mv) (hs : ∀ j, swapsWith value (some (.Subscript o idx pos')) pos.line (X j).env = pure false := by exact fun _ => rfl) :
    DS C X W (.Assign [.Subscript o idx pos'] value pos) (sdput i mk mv) := by
  obtain ⟨ti, pi, ei⟩ := hi
  obtain ⟨tv, pv, ev⟩ := hv
  refine ⟨_, fun j => ps_dput (hu j) (ho j) (pi j) (pv j) (hs j), fun e g s w S D k f r z => ?_⟩
  refine ev e g s w S _ k f r (post_mono (post_ofM f k r z) (fun v S1 y vv w1 f1 k1 rv => ?_) fun _ _ x => x)
  split at y
  case isFalse => exact y.elim
  rename_i hv0
  obtain ⟨x, hx⟩ := hasV_ok r hv0
  refine ⟨x, hx, ?_⟩
  have r1 := r.to f1
  have fe1 := f.trans f1
  have y1 := SRes.post_imp y (w2 := w1) f1.grow (fun _ _ h => h) (fun _ _ h => h) (fun _ _ h => h) fun _ _ h => h
  refine ei e g s w1 S1 _ k1 fe1 r1 (post_mono (post_ofM fe1 k1 r1 y1) (fun kd S2 y kv w2 f2 k2 rk => ?_) fun _ _ x => x)
  have fe2 := fe1.trans f2
  have r2 := r1.to f2
  cases hp : plc i g S2 with
  | none => rw [hp] at y; exact y.elim
  | some q =>
    obtain ⟨pl, dd⟩ := q
    rw [hp] at y
    dsimp only at y
    cases hd : dset dd kd v with
    | none => rw [hd] at y; exact y.elim
    | some dd' =>
      rw [hd] at y
      obtain ⟨p, hp1, rc, wr⟩ := plc_ok fe2 k2 r2 hp
      rw [hx] at hp1
      obtain rfl : x = .ref p := Option.some.inj (Option.some.inj hp1)
      obtain ⟨o', hd1, hd2⟩ := dset_ok rc rk (rv.to f2) hd
      obtain ⟨q1, q2, q3⟩ := wr dd' o' hd2
      exact ⟨p, _, rfl, hd1, y s _ q1 ⟨f2.ex0, f2.pre⟩ q2 q3⟩
end
end DL
end

section
namespace DL
open PySem PySem.Spec PyProof.Rows L2 Evl
section
variable {C : LC}
theorem cell_to {e w : Wd} {S : Store} {j : Nat} {a : Addr} {d : D} {o' : HO} (f : From e w) (k : w.ok C S) (hS : S[j]? = some d) (ha : w.mu[j]? = some a) : From e ⟨w.mu, w.H0, upd w.H a o'⟩ := by
  have hmu : a ∈ w.mu := List.mem_of_getElem? ha
  refine ⟨f.ex0, f.pre, fun x hx => ?_, fun x o h1 h2 h3 h4 => ?_⟩
  · show upd w.H a o' x ≠ none
    by_cases q : x = a
    · subst q; rw [upd_same]; exact fun z => nomatch z
    · rw [upd_ne q]; exact f.all x hx
  · obtain ⟨k1, k2, k3⟩ := f.fr x o h1 h2 h3 h4
    exact ⟨by show upd w.H a o' x = _; rw [upd_ne (fun z => k3 (by rw [z]; exact hmu))]; exact k1, k2, k3⟩
theorem cell_ok {w : Wd} {S : Store} {j : Nat} {a : Addr} {d d' : D} {o' : HO} (k : w.ok C S) (hS : S[j]? = some d) (ha : w.mu[j]? = some a) (h : CRep C w.mu w.H0 (some o') d') : Wd.ok C (S.set j d') ⟨w.mu, w.H0, upd w.H a o'⟩ := by
  have r : RepG C w w [] [] := ⟨rfl, fun i x h => by simp at h, fun i l p di dj _ h => by simp at h⟩
  exact (cell_wr (From.refl w) k r hS ha h).2.1
def refA : V → Addr
  | .ref p => p
  | _ => 0
/-- a fresh root becomes a cell -/
theorem cell_new {w w' : Wd} {S : Store} {d : D} {v : V} (f : From w w') (k : w'.ok C S) (r : RV C w w' (.ow d) v) : From w ⟨w'.mu ++ [refA v], w'.H0, w'.H⟩ ∧ Wd.ok C (S ++ [d]) ⟨w'.mu ++ [refA v], w'.H0, w'.H⟩ ∧ Rep C (w'.mu ++ [refA v]) w'.H0 (.cell S.length) v := by
  obtain ⟨p, rfl, n, n0, nm, rc⟩ := r
  have pre : w'.mu <+: w'.mu ++ [p] := List.prefix_append _ _
  refine ⟨⟨f.ex0, f.pre.trans pre, f.all, fun x o h1 h2 h3 h4 => ?_⟩, ⟨k.ex, fun a ha => ?_, ?_, ?_, fun i c a h1 h2 => ?_, k.tab⟩, ?_⟩
  · obtain ⟨k1, k2, k3⟩ := f.fr x o h1 h2 h3 h4
    refine ⟨k1, k2, fun z => ?_⟩
    rcases List.mem_append.mp z with z | z
    · exact k3 z
    · have z : x = p := List.mem_singleton.mp z
      rw [z] at h1; exact absurd h1 (by rw [n]; exact fun y => nomatch y)
  · rcases List.mem_append.mp ha with z | z
    · exact k.out a z
    · have z : a = p := List.mem_singleton.mp z
      rw [z]; exact n0
  · show (w'.mu ++ [p]).Nodup
    rw [List.nodup_append]
    exact ⟨k.nd, by simp, fun a ha b hb z => nm (by rw [List.mem_singleton] at hb; rw [← hb, ← z]; exact ha)⟩
  · show (S ++ [d]).length = (w'.mu ++ [p]).length
    rw [List.length_append, List.length_append, k.len]; rfl
  · have h2 : (w'.mu ++ [p])[i]? = some a := h2
    show CRep C (w'.mu ++ [p]) w'.H0 (w'.H a) c
    by_cases q : i < S.length
    · rw [List.getElem?_append_left q] at h1
      rw [List.getElem?_append_left (by rw [← k.len]; exact q)] at h2
      exact (k.cel i c a h1 h2).mono (Sm.of (Ex.refl _)) pre
    · rw [List.getElem?_append_right (by omega)] at h1
      rw [List.getElem?_append_right (by rw [← k.len]; omega)] at h2
      have e0 : i - S.length = 0 := by
        cases z : i - S.length with
        | zero => rfl
        | succ n => rw [z] at h1; simp at h1
      rw [e0] at h1
      rw [← k.len, e0] at h2
      simp only [List.getElem?_cons_zero, Option.some.injEq] at h1 h2
      subst h1 h2
      exact rc.mono (Sm.of (Ex.refl _)) pre
  · simp only [Rep]
    exact ⟨p, rfl, by rw [List.getElem?_append_right (by rw [k.len]; exact Nat.le_refl _), k.len, Nat.sub_self]; rfl⟩
end
section
variable {ι : Type} {C : LC} {X : ι → Cx} {W : WX} {a b c e o value idx : Expr} {es : List Expr} {pos pos' apos cpos : Pos} {ma mb mv mk : G → M D} {mo : G → M DV}
/-- the new object is a cell from now on -/
def malloc (d : DV) : M D := fun S => match d with
  | .ow d => .ok (.cell S.length) (S ++ [d])
  | _ => .stuck
def mcell (mo : G → M DV) : G → M D := fun g => DL.bind (mo g) malloc
theorem de_cell (h : DO C X W e mo) : DE C X W e (mcell mo) := by
  obtain ⟨te, p, q⟩ := h
  refine ⟨te, p, fun e g s w S Q k f r z => q e g s w S Q k f r (post_mono (post_bind.mp z) (fun dv S' y v w' f' k' rv => ?_) fun _ _ x => x)⟩
  cases dv with
  | sh d => exact y.elim
  | ow d =>
    obtain ⟨z1, z2, z3⟩ := cell_new f' k' rv
    exact (show KD C w Q (.cell S'.length) (S' ++ [d]) from y) v ⟨w'.mu ++ [refA v], w'.H0, w'.H⟩ z1 z2 z3
/-- o.pop(), o a cell -/
def popc (d : D) : M DV := fun S => match d with
  | .cell j => match S[j]? with
    | some (.lst xs) => match xs[xs.length - 1]? with
      | some y => .ok (.sh y) (S.set j (.lst xs.dropLast))
      | none => .stuck
    | _ => .stuck
  | _ => .stuck
theorem RepL.dropLast {mu : List Addr} {H : Hp} : ∀ {ds : List D} {vs : List V}, RepL C mu H ds vs → RepL C mu H ds.dropLast vs.dropLast := fun {ds vs} r => by
  rw [List.dropLast_eq_take, List.dropLast_eq_take, r.length]; exact r.take _
theorem do_pop (ha : DE C X W o ma) (hK : ∀ i, (X i).K = C.K := by exact fun _ => rfl) (hbase : ∀ i, attributeBase o "pop" (X i).env (eval o (X i).env) = eval o (X i).env := by exact fun _ => rfl) (hline : (apos.endLine == cpos.line) = true := by rfl) :
    DO C X W (.Call (.Attribute o "pop" apos) [] [] cpos) (fun g => DL.bind (ma g) popc) := by
  obtain ⟨te, p, q⟩ := ha
  refine ⟨tBM0 C.K "list" rPop te, fun i => by have h := pe_bm0 (apos := apos) (cpos := cpos) PySem.F.plainAttrs_list PySem.F.slot_list_pop PySem.F.type_list_pop (mt_pop (X := X i)) (p i) (hbase i) hline; rw [hK i] at h; exact h, fun e g s w S Q k f r z => ?_⟩
  refine q e g s w S _ k f r (post_mono (post_bind.mp z) (fun d S1 y v w1 f1 k1 rv => ?_) fun _ _ x => x)
  unfold popc at y
  cases d <;> try exact y.elim
  rename_i j
  cases hS : S1[j]? with
  | none => simp only [hS] at y; exact y.elim
  | some c =>
    simp only [hS] at y
    cases c <;> try exact y.elim
    rename_i xs
    dsimp only at y
    cases hx : xs[xs.length - 1]? with
    | none => rw [hx] at y; exact y.elim
    | some d =>
      rw [hx] at y
      simp only [Rep] at rv
      obtain ⟨a, rfl, ha⟩ := rv
      obtain ⟨vs, h1, h2⟩ := k1.cel j _ a hS ha
      obtain ⟨v, h3, h4⟩ := h2.get hx
      have h1 : w1.H a = some (.lst vs) := h1
      refine ⟨.inl ⟨rfl, vs, .inl (.inl h1)⟩, a, vs, v, rfl, rfl, h1, by rw [← h2.length]; exact h3, ?_⟩
      exact y v _ (cell_to f1 k1 hS ha) (cell_ok k1 hS ha ⟨_, rfl, h2.dropLast⟩) h4
/-- x.append(e), x a name -/
def sapp (i : Nat) (ma : G → M D) : SM := fun g S => match plc i g S with
  | some (_, .lst _) => ofM (ma g S) g fun d S1 => match plc i g S1 with
    | some (pl, .lst xs) => if xs.length ≤ 1000000 then .ok (.nx (pl.putG (.lst (xs ++ [d])) g)) (pl.putS (.lst (xs ++ [d])) S1) else .stuck
    | _ => .stuck
  | _ => .stuck
theorem ds_app {i : Nat} (ho : ∀ j, PE (X j) o (tVar i)) (ha : DE C X W a ma) (hK : ∀ i, (X i).K = C.K := by exact fun _ => rfl) (hbase : ∀ j, attributeBase o "append" (X j).env (eval o (X j).env) = eval o (X j).env := by exact fun _ => rfl)
    (hfew : ∀ j, ((backTo cpos (starEach [a] (X j).env)).all (fun x => !x.1) && (backToKw cpos (keywordEach [] (X j).env)).all (fun x => x.1.isSome) && decide (([a] : List Expr).length + ([] : List Keyword).length + (if ([] : List Keyword).isEmpty then 0 else 1) < 30)) = true := by exact fun _ => rfl)
    (hline : (apos.endLine == cpos.line) = true := by rfl) (hs : ∀ j, starEach [a] (X j).env = (false, eval a (X j).env) :: starEach [] (X j).env := by exact fun _ => rfl) (hplain : ∀ j, (backTo cpos (starEach [] (X j).env)).any (·.1) = false := by exact fun _ => rfl)
    (hsw : ∀ j, swapsWith (.Call (.Attribute o "append" apos) [a] [] cpos) none pos.line (X j).env = pure false := by exact fun _ => rfl) :
    DS C X W (.Expr (.Call (.Attribute o "append" apos) [a] [] cpos) pos) (sapp i ma) := by
  obtain ⟨ta, p, q⟩ := ha
  refine ⟨_, fun j => ps_expr (te := tBM C.K "list" rAppend (tVar i) (tCons ta tNil)) (by have h := pe_bm (apos := apos) PySem.F.plainAttrs_list PySem.F.slot_list_append PySem.F.type_list_append (mt_append (X := X j)) (ho j) (pa_cons (p j) pa_nil (hs j)) (hbase j) (hfew j) hline (hs j) (hplain j); rw [hK j] at h; exact h) (hsw j), fun e g s w S D k f r z => ?_⟩
  unfold sapp at z
  split at z
  case h_2 => exact z.elim
  rename_i pl0 xs0 hp0
  obtain ⟨p0, hp1, rc0, _⟩ := plc_ok f k r hp0
  obtain ⟨vs0, h0, _⟩ := rc0
  refine ⟨.ref p0, hp1, .inl ⟨rfl, vs0, .inl (.inl h0)⟩, ?_⟩
  refine q e g s w S _ k f r (post_mono (post_ofM f k r z) (fun d S1 y v w1 f1 k1 rv => ?_) fun _ _ x => x)
  split at y
  case h_2 => exact y.elim
  rename_i pl xs hp
  split at y
  case isFalse => exact y.elim
  rename_i hl
  obtain ⟨p, hp2, rc, wr⟩ := plc_ok (f.trans f1) k1 (r.to f1) hp
  rw [hp1] at hp2
  obtain rfl : p0 = p := V.ref.inj (Option.some.inj (Option.some.inj hp2))
  obtain ⟨us, h1, h2⟩ := rc
  obtain ⟨q1, q2, q3⟩ := wr (.lst (xs ++ [d])) (.lst (us ++ [v])) ⟨_, rfl, h2.append (by simp only [RepL]; exact ⟨v, [], rfl, rv, rfl⟩)⟩
  exact ⟨p0, us, v, rfl, rfl, h1, by rw [← h2.length, sizeLine_eq]; omega, y s _ q1 ⟨f1.ex0, f1.pre⟩ q2 q3⟩

/-! ### a dict's display, its keys written texts -/
def RepPs (C : LC) (w : Wd) : List Str → List D → List (V × V) → Prop
  | [], [], ps => ps = []
  | x :: xs, d :: ds, ps => ∃ v ps', ps = (.str x, v) :: ps' ∧ Rep C w.mu w.H0 d v ∧ RepPs C w xs ds ps'
  | _, _, _ => False
theorem RepPs.to {w w' : Wd} (f : From w w') : ∀ {xs : List Str} {ds : List D} {ps : List (V × V)}, RepPs C w xs ds ps → RepPs C w' xs ds ps
  | [], [], _, h => h
  | x :: xs, d :: ds, _, ⟨v, ps', e, r, h⟩ => ⟨v, ps', e, r.to f, RepPs.to f h⟩
def EvPs (C : LC) (W : WX) (xs : List Str) (tr : List (TE × TE)) (m : G → M (List D)) : Prop :=
  ∀ e g s w S Q, Wd.ok C S w → From e w → RepG C e w s g → (m g S).post (fun ds S' => ∀ ps w', From w w' → w'.ok C S' → RepPs C w' xs ds ps → Q ps w'.H) (KE C w W s) → tPairs tr s w.H Q
def DPs {ι : Type} (C : LC) (X : ι → Cx) (W : WX) (pos : Pos) (ks : List (Option Expr)) (es : List Expr) (xs : List Str) (m : G → M (List D)) : Prop := ∃ tr, (∀ i, PPs (X i) pos ks es tr) ∧ EvPs C W xs tr m
theorem dps_nil : DPs C X W pos [] [] [] (fun _ => ret []) := ⟨_, fun _ => pps_nil, fun e g s w S Q k f r p => p [] w (From.refl w) k rfl⟩
theorem dps_cons {x : Str} {j : Nat} {kp : Pos} {ks : List (Option Expr)} {xs : List Str} {mr : G → M (List D)} (ha : DE C X W a ma) (hr : DPs C X W pos ks es xs mr) : DPs C X W pos (some (.Constant (.str x) j kp) :: ks) (a :: es) (x :: xs) (mcons ma mr) := by
  obtain ⟨ta, p, q⟩ := ha
  obtain ⟨tr, p', q'⟩ := hr
  refine ⟨_, fun i => pps_cons pe_str (p i) (p' i), fun e g s w S Q k f r z => ?_⟩
  refine q e g s w S _ k f r (post_mono (post_bind.mp z) (fun dx S1 y v w1 f1 k1 rv => ?_) fun _ _ z => z)
  refine q' e g s w1 S1 _ k1 (f.trans f1) (r.to f1) (post_mono (post_bind.mp y) (fun ds S2 y2 ps w2 f2 k2 rp => ?_) fun _ _ z => z.to f1)
  exact y2 ((.str x, v) :: ps) w2 (f1.trans f2) k2 ⟨v, ps, rfl, rv.to f2, rp⟩
def mdisp (xs : List Str) (m : G → M (List D)) : G → M DV := fun g => DL.bind (m g) fun ds => ret (.ow (.dct ((xs.map D.str).zip ds)))
theorem merge_nodup : ∀ (kvs acc : List (Key × V)), ((acc ++ kvs).map (·.1)).Nodup → mergeK acc kvs = acc ++ kvs
  | [], acc, _ => by simp [mergeK]
  | p :: kvs, acc, h => by
    have hn : valV acc p.1 = none := by
      unfold valV
      rw [List.find?_eq_none.mpr fun x hx => ?_]
      · rfl
      · simp only [decide_eq_true_eq]
        intro z
        rw [List.map_append, List.map_cons, List.nodup_append] at h
        exact h.2.2 x.1 (List.mem_map_of_mem hx) p.1 List.mem_cons_self z
    show mergeK (putK acc p.1 p.2) kvs = _
    rw [putK_new _ hn, merge_nodup kvs _ (by rw [List.append_assoc]; exact h), List.append_assoc]
    rfl
theorem do_disp {ks : List (Option Expr)} {xs : List Str} {m : G → M (List D)} (h : DPs C X W pos ks es xs m) (hall : ks.all (·.isSome) = true := by rfl) (hl : ks.length = es.length := by rfl) (h0 : ks ≠ [] := by exact fun z => nomatch z) (h15 : ks.length ≤ 15 := by decide) (hx : xs.length = ks.length := by rfl) (hnd : xs.Nodup := by decide) (hok : ∀ x ∈ xs, sOk x := by decide +kernel) : DO C X W (.Dict ks es pos) (mdisp xs m) := by
  obtain ⟨tr, p, q⟩ := h
  refine ⟨_, fun i => pe_disp (p i) hall hl h0 h15, fun e g s w S Q k f r z P nP => ?_⟩
  have n0 : w.H0 P = none := k.none0 nP
  have nm : P ∉ w.mu := k.nmu nP
  have f0 : From w ⟨w.mu, w.H0, upd w.H P (.dK [])⟩ := From.new nP
  refine q e g s ⟨w.mu, w.H0, upd w.H P (.dK [])⟩ S _ (k.new nP) (f.trans f0) (r.to f0) (post_mono (post_bind.mp z) (fun ds S1 y ps w1 f1 k1 rp => ?_) fun _ _ z => z.to f0)
  obtain ⟨a1, a2, a3⟩ := f1.fr P (.dK []) upd_same n0 nm (fun _ z => nomatch z)
  have key : ∀ {xs : List Str} {ds : List D} {ps : List (V × V)}, RepPs C w1 xs ds ps → ∃ vs : List V, ps = ((xs.map (Sum.inr : Str → Key)).zip vs).map (fun kv => (kV kv.1, kv.2)) ∧ vs.length = xs.length ∧ ((∀ x ∈ xs, sOk x) → RepK C w1.mu w1.H0 ((xs.map D.str).zip ds) ((xs.map (Sum.inr : Str → Key)).zip vs)) := by
    intro xs
    induction xs with
    | nil =>
      intro ds ps h
      cases ds with
      | nil => exact ⟨[], h, rfl, fun _ => by simp only [List.map_nil, List.zip_nil_left, RepK]⟩
      | cons _ _ => exact h.elim
    | cons x xs ih =>
      intro ds ps h
      cases ds with
      | nil => exact h.elim
      | cons d ds =>
        obtain ⟨v, ps', rfl, rv, h⟩ := h
        obtain ⟨vs, rfl, e2, e3⟩ := ih h
        refine ⟨v :: vs, rfl, by simp [e2], fun ho => ?_⟩
        simp only [List.map_cons, List.zip_cons_cons, RepK]
        exact ⟨.inr x, v, _, rfl, rfl, ho x List.mem_cons_self, rv, e3 fun y hy => ho y (List.mem_cons_of_mem _ hy)⟩
  obtain ⟨vs, rfl, e2, e3⟩ := key rp
  have hm : mergeK [] ((xs.map (Sum.inr : Str → Key)).zip vs) = (xs.map (Sum.inr : Str → Key)).zip vs := by
    refine merge_nodup _ [] ?_
    rw [List.nil_append, List.map_fst_zip (by rw [List.length_map, e2]; exact Nat.le_refl _)]
    exact List.Pairwise.map _ (fun a b hab z => hab (Sum.inr.inj z)) hnd
  refine ⟨a1, _, rfl, by rw [List.length_zip, List.length_map, e2, Nat.min_self, hx]; exact h15, ?_⟩
  rw [hm]
  exact y _ ⟨w1.mu, w1.H0, upd w1.H P _⟩ ((f0.trans f1).wr nP) (k1.wr a2 a3 a1 wrK) ⟨P, rfl, nP, a2, a3, _, upd_same, e3 hok⟩
end
end DL
end

section
namespace DL
open PySem PySem.Spec PyProof.Rows L2 Evl

/-! ### a def's body in all its contexts -/
structure Dx (k : Nat) (qual : Str) (scope : Scope) (f : Addr) : Type where
  cdv : Value
  A : Around
  outer : List Env
  s : Shared
  H : Hp
  hr : Room k (A.deeper (envOfC qual scope s.heap.objs.size f cdv))
abbrev XD (P : Program) (w : World) (K : PySem.W.Frag) (mg : Str → Option Value) (base : Heap) (N : List Str) (k : Nat) (qual : Str) (scope : Scope) (f : Addr) (E : XK) : Dx k qual scope f → Cx := fun i =>
  cxOf (L2.CX P w) P w K mg base N qual scope f i.cdv i.A i.outer i.s i.H E
abbrev WD (E : XK) : WX := fun cls d _ H => E cls d H
abbrev KX (C : LC) (w : Wd) (E : XK) : Er → Store → Prop := fun er S' => ∀ cls d w', From w w' → w'.ok C S' → ErR C w' er cls d → E cls d w'.H
/-- what a def keeps: F over trees -/
def spD (C : LC) (n : Nat) (F : List D → M DV) : Sp := fun vs H Q E => ∃ w S ds, H = w.H ∧ Wd.ok C S w ∧ RepL C w.mu w.H0 ds vs ∧ ds.length = n ∧ (F ds S).post (KO C w Q) (KX C w E)
def startG (n : Nat) (ds : List D) : G := ds.map Slot.sh ++ List.replicate (n - ds.length) Slot.un
def runB (m : SM) (n : Nat) (ds : List D) : M DV := fun S => match m (startG n ds) S with
  | .ok (.rt v) S' => .ok v S'
  | .ok (.nx _) S' => .ok (.sh .non) S'
  | .ok _ _ => .stuck
  | .err e _ S' => .err e S'
  | .stuck => .stuck
theorem start_rep {C : LC} {w : Wd} {N : List Str} {ds : List D} {vs : List V} (r : RepL C w.mu w.H0 ds vs) : RepG C w w (L2.start N vs) (startG N.length ds) := by
  have hl := r.length
  refine ⟨by simp only [L2.start, startG, List.length_append, List.length_map, List.length_replicate, hl], fun i x hx => ?_, fun i j p di dj _ h => ?_⟩
  · unfold startG at hx
    unfold L2.start
    by_cases q : i < ds.length
    · rw [List.getElem?_append_left (by rw [List.length_map]; exact q), List.getElem?_map] at hx
      rw [List.getElem?_append_left (by rw [List.length_map, ← hl]; exact q), List.getElem?_map]
      cases e : ds[i]? with
      | none => rw [e] at hx; cases hx
      | some d =>
        rw [e] at hx; cases hx
        obtain ⟨v, h1, h2⟩ := r.get e
        rw [h1]
        exact ⟨_, rfl, v, rfl, h2⟩
    · rw [List.getElem?_append_right (by rw [List.length_map]; omega), List.length_map] at hx
      rw [List.getElem?_append_right (by rw [List.length_map, ← hl]; omega), List.length_map]
      rw [List.getElem?_replicate] at hx ⊢
      rw [← hl]
      split at hx
      · rename_i hi
        rw [if_pos hi]
        cases hx
        exact ⟨_, rfl, trivial⟩
      · cases hx
  · exfalso
    have hm := List.mem_of_getElem? h
    unfold startG at hm
    rcases List.mem_append.mp hm with hm | hm
    · obtain ⟨d, _, e⟩ := List.mem_map.mp hm; cases e
    · have := (List.mem_replicate.mp hm).2; cases this
section
variable {P : Program} {w : World} {K : PySem.W.Frag} {mg : Str → Option Value} {base : Heap} {C : LC}
theorem run_post {N : List Str} {ts : TS} {m : SM} {E : XK} (ev : EvS C (WD E) ts m) {w0 : Wd} {S : Store} {ds : List D} {vs : List V} {Q : VK} (k : w0.ok C S) (r : RepL C w0.mu w0.H0 ds vs) (h : (runB m N.length ds S).post (KO C w0 Q) (KX C w0 E)) :
    ts { nx := fun _ H' => Q .non H', rt := Q } (L2.start N vs) w0.H := by
  refine ev w0 (startG N.length ds) (L2.start N vs) w0 S _ k (From.refl w0) (start_rep r) ?_
  unfold runB at h
  cases hm : m (startG N.length ds) S with
  | stuck => rw [hm] at h; exact h
  | err e g S' => rw [hm] at h; exact fun cls d s' w' f g k r x => h cls d w' f k x
  | ok o S' =>
    rw [hm] at h
    cases o with
    | nx g => exact fun s' w' f _ k r => (show KO C w0 Q (.sh .non) S' from h) _ w' f k (by simp only [RV, Rep])
    | rt v => exact fun v w' f k r => h v w' f k r
    | bk g => exact h.elim
    | ct g => exact h.elim
theorem fn_okD {x qual : Str} {st : Stmt} {f : Addr} {fd : FuncData} {N ps : List Str} {k : Nat} {m : SM} (F : Fun K x qual st f fd) (S : FnScope N ps (defScope st)) (hb : ∀ E, DSs C (XD P w K mg base N k qual (defScope st) f E) (WD E) (defBody st) m) :
    FnOk P w K mg base (L2.CX P w) (k + 1) f fd ps (spD C ps.length (runB m N.length)) :=
  F.okX S (fun vs H Q E ⟨w, S, ds, _, _, r, hl, _⟩ => by rw [← r.length, hl]) fun cdv A outer s H vs Q E hr hsp => by
    obtain ⟨ts, pt, ev⟩ := hb E
    obtain ⟨w0, S0, ds, rfl, k0, r, _, h⟩ := hsp
    exact ⟨ts, pt ⟨cdv, A, outer, s, w0.H, hr⟩, run_post ev k0 r h⟩
/-- what a called def may let out is let out -/
def Pas {ι : Type} (X : ι → Cx) (W : WX) : Prop := ∀ i σ, PassesAt (L2.CX (X i).prog (X i).w) (X i) σ (WE W σ)
theorem pas_def {N : List Str} {k : Nat} {qual : Str} {scope : Scope} {f : Addr} {E : XK} : Pas (XD P w K mg base N k qual scope f E) (WD E) := fun i σ => passAt (takes_of rfl rfl rfl rfl) σ
theorem pas_blk {ι : Type} {X : ι → Cx} : Pas X W0 := fun i σ _ _ _ _ _ _ h => by
  obtain ⟨_, _, _, _, _, _, _, _, _, _, _, _, z⟩ := h
  exact z.elim
theorem po_def {N : List Str} {k : Nat} {qual : Str} {scope : Scope} {f : Addr} {E : XK} (i : Dx k qual scope f) : PassesOwn (model (XD P w K mg base N k qual scope f E i).prog (XD P w K mg base N k qual scope f E i).w) (XD P w K mg base N k qual scope f E i).A (XD P w K mg base N k qual scope f E i).env (XD P w K mg base N k qual scope f E i).xe := passes_of rfl
end
section
variable {ι : Type} {C : LC} {X : ι → Cx} {W : WX} {a b c e o value idx : Expr} {es : List Expr} {pos p : Pos} {ma mb mv mk : G → M D} {mo : G → M DV}
def mfn (n : Nat) (F : List D → M DV) (m : G → M (List D)) : G → M DV := fun g => DL.bind (m g) fun ds => if ds.length = n then F ds else stuck
theorem kx_ke {w w' : Wd} {s : L2.St} (f : From w w') {er : Er} {S : Store} (h : KE C w W s er S) : KX C w' (WE W s) er S := fun cls d w2 f2 k r => h cls d w2 (f.trans f2) k r
theorem ev_fn {n : Nat} {F : List D → M DV} {ta : TA} {m : G → M (List D)} (ea : EvL C W ta m) : EvO C W (tCallS (spD C n F) (WE W) ta) (mfn n F m) := fun e g s w S Q k f r z => by
  refine ea e g s w S _ k f r (post_mono (post_bind.mp z) (fun ds S1 y vs w1 f1 k1 rv => ?_) fun _ _ x => x)
  split at y
  case isFalse => exact y.elim
  rename_i hl
  exact ⟨w1, S1, ds, rfl, k1, rv, hl, post_mono y (fun dv S2 q => q.to f1) fun er S2 q => kx_ke f1 q⟩
theorem do_call {k n : Nat} {f : Addr} {fd : FuncData} {ps : List Str} {F : List D → M DV} {x : Str} {m : G → M (List D)} (hF : ∀ i, FnOk (X i).prog (X i).w (X i).K (X i).mg (X i).base (L2.CX (X i).prog (X i).w) k f fd ps (spD C n F)) (hr : ∀ i, Room k (X i).A) (hg : ∀ i, Gl (X i) x) (hm : ∀ i, (X i).mg x = some (.ref f)) (hk : ∀ i, PySem.W.keepIn (X i).K (.ref f) = true)
    (hb : ∀ i, Binds (X i).K fd ps []) (hx : Pas X W) (ha : DA C X W (e :: es) m) (hdb : (x == ("__debug__" : Str)) = false := by decide) (he : ∀ i, starEach (e :: es) (X i).env = (false, eval e (X i).env) :: starEach es (X i).env := by exact fun _ => rfl) (hpl : ∀ i, (backTo pos (starEach es (X i).env)).any (·.1) = false := by exact fun _ => rfl) :
    DO C X W (.Call (.Name x p) (e :: es) [] pos) (mfn n F m) := by
  obtain ⟨ta, pa, ea⟩ := ha
  exact ⟨_, fun i => pe_callS (hF i) (hr i) (hg i) (hm i) (hk i) (hb i) (hx i) (pa i) hdb (he i) (hpl i), ev_fn ea⟩
/-- f() -/
theorem pe_callS0 {X : Cx} {CX : CXT} {k : Nat} {f : Addr} {fd : FuncData} {ps : List Str} {sp : Sp} {E : L2.St → XK} {x : Str} (F : FnOk X.prog X.w X.K X.mg X.base CX k f fd ps sp) (hr : Room k X.A) (hg : Gl X x) (hm : X.mg x = some (.ref f)) (hk : PySem.W.keepIn X.K (.ref f) = true) (hb : Binds X.K fd ps []) (hx : ∀ σ, PassesAt CX X σ (E σ))
    (hdb : (x == ("__debug__" : Str)) = false := by decide) : PE X (.Call (.Name x p) [] [] pos) (tCallS sp E tNil) := by
  refine ⟨fun pins s σ H Q I h => ?_⟩
  refine wpAny_Call_Name_kw (ld_glob I hg hm ?_ hdb)
  exact PySem.W.callWith_K0 I.kIn hk (run_fnS (us := []) F hr hb (hx σ) I .nil h)
theorem do_call0 {k : Nat} {f : Addr} {fd : FuncData} {ps : List Str} {F : List D → M DV} {x : Str} (hF : ∀ i, FnOk (X i).prog (X i).w (X i).K (X i).mg (X i).base (L2.CX (X i).prog (X i).w) k f fd ps (spD C 0 F)) (hr : ∀ i, Room k (X i).A) (hg : ∀ i, Gl (X i) x) (hm : ∀ i, (X i).mg x = some (.ref f)) (hk : ∀ i, PySem.W.keepIn (X i).K (.ref f) = true)
    (hb : ∀ i, Binds (X i).K fd ps []) (hx : Pas X W) (hdb : (x == ("__debug__" : Str)) = false := by decide) :
    DO C X W (.Call (.Name x p) [] [] pos) (mfn 0 F (fun _ => ret [])) := by
  obtain ⟨ta, pa, ea⟩ := da_nil (C := C) (X := X) (W := W)
  exact ⟨_, fun i => pe_callS0 (hF i) (hr i) (hg i) (hm i) (hk i) (hb i) (hx i) hdb, ev_fn (ta := tNil) (m := fun _ => ret []) fun e g s w S Q k f r p => p [] w (From.refl w) k (by simp only [RepL])⟩
end
end DL
end

section
namespace DX
open PySem PySem.Spec PyProof.Rows
open PySem.W (Frag excInitIn excOver findIn subIn typeIn keepIn hasDictIn takerIn clsIn)

structure ExB (B newId initId : String) (bmB : List Value) : Prop where
  fb : ExcBaseFacts B newId initId bmB
  st : StoreFacts B bmB "object.__setattr__" "object"
  kx : PySem.W.KxsFacts B initId
abbrev veT : List Value := [.type "ValueError", .type "Exception", .type "BaseException", .type "object"]
abbrev leT : List Value := [.type "LookupError", .type "Exception", .type "BaseException", .type "object"]
theorem exB_VE : ExB "ValueError" "ValueError.__new__" "ValueError.__init__" veT := ⟨PySem.F.excBase_ValueError, PySem.F.store_ValueError, PySem.W.kxs_ValueError⟩
theorem exB_LE : ExB "LookupError" "LookupError.__new__" "LookupError.__init__" leT := ⟨PySem.F.excBase_LookupError, PySem.F.store_LookupError, PySem.W.kxs_LookupError⟩
/-- what the written part says of an exception class -/
structure XC (K : Frag) (B newId : String) (bmB : List Value) (C : Addr) : Prop where
  i : excInitIn K C bmB newId = true
  o : excOver K C bmB = true
  sa : findIn K (.ref C) "__setattr__" = some (some (.builtin "object.__setattr__"))
  hd : hasDictIn K C = true
  sB : subIn K (.ref C) (.type B) = some true
  exC : subIn K (.ref C) (.type "BaseException") = some true
  tyC : typeIn K (.ref C) = some (.type "type")
  kC : keepIn K (.ref C) = true
  ga : findIn K (.ref C) "__getattribute__" = some (some (.builtin "BaseException.__getattribute__"))
  gg : findIn K (.ref C) "__getattr__" = some none
def xcB (K : Frag) (B newId : String) (bmB : List Value) (C : Addr) : Bool :=
  excInitIn K C bmB newId && (excOver K C bmB && (decide (findIn K (.ref C) "__setattr__" = some (some (.builtin "object.__setattr__"))) && (hasDictIn K C && (decide (subIn K (.ref C) (.type B) = some true) && (decide (subIn K (.ref C) (.type "BaseException") = some true) &&
    (decide (typeIn K (.ref C) = some (.type "type")) && (keepIn K (.ref C) && (decide (findIn K (.ref C) "__getattribute__" = some (some (.builtin "BaseException.__getattribute__"))) && decide (findIn K (.ref C) "__getattr__" = some none)))))))))
theorem xcB_ok {K : Frag} {B newId : String} {bmB : List Value} {C : Addr} (h : xcB K B newId bmB C = true) : XC K B newId bmB C := by
  unfold xcB at h
  simp only [Bool.and_eq_true, decide_eq_true_eq] at h
  obtain ⟨h1, h2, h3, h4, h5, h6, h7, h8, h9, h10⟩ := h
  exact ⟨h1, h2, h3, h4, h5, h6, h7, h8, h9, h10⟩

section
open Builtin Builtin.ObjectAttr
variable {prog : Program} {w : World} {A : Around} {R : Result → Shared → Prop} {hp : Heap} {g : Array GenState} {d : Drawn} {t : Nat} {os : OsState} {B newId initId : String} {bmB : List Value}
theorem osa_new {K : Frag} {name : Str} {tk : Tok} {v : Value} {x C : Addr} {fv : Array Value} (E : ExB B newId initId bmB)
    (X : K.In hp) (hx : hp.get? x = some { cls := .ref C, data := .fields fv }) (ho : excOver K C bmB = true) (hh : hasDictIn K C = true) (ht : takerIn K C name = some none)
    (hq : ∀ h' tk' dx, (∀ b o, b ≠ x → hp.get? b = some o → h'.get? b = some o) → hp.objs.size ≤ dx → dx ≠ x → h'.get? x = some { cls := .ref C, dict := some dx, data := .fields fv } →
      h'.Ns1 dx (fun y => if y = name then some v else none) → R (.ok (.ret .none)) ⟨h', g, d, tk', os⟩) :
    codeAny (model prog w) A (.call (.builtin "object.__setattr__") ⟨[.ref x, .str name tk, v], []⟩) R ⟨hp, g, d, t, os⟩ := by
  have I : PySem.W.InstAt hp x { cls := .ref C, data := .fields fv } C none := ⟨hx, rfl, rfl, trivial⟩
  have hxs : x ≠ hp.objs.size := Nat.ne_of_lt (Heap.lt_size hx)
  refine PySem.W.osa_openX (s := ⟨hp, g, d, t, os⟩) E.st X I ho ht fun b => ?_
  obtain ⟨cd, hc, hd'⟩ := PySem.W.any_some hh
  have hcls : PySem.W.Looks (model prog w) hp (classData C) cd := PySem.W.looks_clsIn X hc
  obtain ⟨nm, bs, mro, ns, qn, hdd, sn, sb, ab, col, del⟩ := cd
  dsimp only at hd'
  subst hd'
  show wpAny _ _ (storeInOwnDict (.ref x) (.ref C) (.str name tk) name v b) _ _ _
  unfold storeInOwnDict ownDictForStores
  repeat (first | with_reducible refine HandSPX.store_in_new ?_ ?_ | with_reducible refine wpAny_loadPart_at hx ?_ | with_reducible refine hcls.at ?_ | wp_step)
  · exact ⟨_, #[], _, (Heap.get?_update_ne _ _ _ _ hxs.symm).trans (Heap.get?_push_at rfl rfl), rfl, fun e he => absurd he (by simp), fun _ => rfl⟩
  · intro h' tk' hn' hs
    have hx₁ : (hp.push { cls := .type "dict", data := .dict #[] }).get? x = some { cls := .ref C, data := .fields fv } := Heap.get?_push_of_some _ hx
    refine hq h' tk' hp.objs.size (fun b o hb ho => ?_) (Nat.le_refl _) hxs.symm ?_ hn'
    · exact (hs.2 b (Nat.ne_of_lt (Heap.lt_size ho))).trans ((Heap.get?_update_ne _ _ _ _ hb).trans (Heap.get?_push_of_some _ ho))
    · exact (hs.2 x hxs).trans (Heap.get?_update_self _ hx₁ rfl)
theorem osa_old {K : Frag} {name : Str} {tk : Tok} {v : Value} {x C dx : Addr} {fv : Array Value} {m0 : Str → Option Value} {nl : List Str} (E : ExB B newId initId bmB)
    (X : K.In hp) (hx : hp.get? x = some { cls := .ref C, dict := some dx, data := .fields fv }) (hns : hp.Ns1 dx m0) (hw : Within m0 nl) (hz : nl.length ≤ 1000) (ho : excOver K C bmB = true) (hh : hasDictIn K C = true) (ht : takerIn K C name = some none)
    (hq : ∀ h' tk', (∀ b o, b ≠ dx → hp.get? b = some o → h'.get? b = some o) → h'.Ns1 dx (fun y => if y = name then some v else m0 y) → R (.ok (.ret .none)) ⟨h', g, d, tk', os⟩) :
    codeAny (model prog w) A (.call (.builtin "object.__setattr__") ⟨[.ref x, .str name tk, v], []⟩) R ⟨hp, g, d, t, os⟩ := by
  obtain ⟨oD, esD, epD, hoD, hdD, _⟩ := hns.count hw
  have I : PySem.W.InstAt hp x { cls := .ref C, dict := some dx, data := .fields fv } C (some oD) := ⟨hx, rfl, rfl, hoD⟩
  refine PySem.W.osa_openX (s := ⟨hp, g, d, t, os⟩) E.st X I ho ht fun b => ?_
  obtain ⟨cd, hc, hd'⟩ := PySem.W.any_some hh
  have hcls : PySem.W.Looks (model prog w) hp (classData C) cd := PySem.W.looks_clsIn X hc
  obtain ⟨nm, bs, mro, ns, qn, hdd, sn, sb, ab, col, del⟩ := cd
  dsimp only at hd'
  subst hd'
  show wpAny _ _ (storeInOwnDict (.ref x) (.ref C) (.str name tk) name v b) _ _ _
  unfold storeInOwnDict ownDictForStores
  repeat (first | with_reducible refine OEX.store_in_old hns hw hz ?_ | with_reducible refine wpAny_loadPart_at hx ?_ | with_reducible refine hcls.at ?_ | wp_step)
  intro h' tk' hn' hs
  exact hq h' tk' (fun b o hb ho => (hs.2 b hb).trans ho) hn'
end
end DX
end

section
namespace DX
open PySem PySem.Spec PyProof.Rows L2 NdefX
open PySem.W (Frag excInitIn excOver findIn subIn typeIn keepIn hasDictIn takerIn clsIn kxs_mw ks_superObj)

section
variable {X : Cx} {pins : List (Addr × Obj)} {σ : L2.St} {H : Hp} {s : Shared} {a C dx : Addr} {f : Str} {y : V} {u : Value} {fs : List (Str × V)} {Q : Unit → Shared → Prop} {E : Value → Shared → Prop} {B newId initId : String} {bmB : List Value}
/-- self.f = y, the first one -/
theorem ost_new (EB : ExB B newId initId bmB) (T : XC X.K B newId bmB C) (I : Inv X pins σ H s) (e : H a = some (exo a C none)) (ht : takerIn X.K C f = some none) (ry : L2.RelV y u)
    (h : ∀ dx s', H dx = none → dx ≠ a → Inv X pins σ (upd (upd H dx (exd dx [(f, y)])) a (exo a C (some dx))) s' → Q () s') : wpAny (model X.prog X.w) X.A (setAttr (.ref a) f u) Q E s := by
  obtain ⟨t1, ho⟩ := exo_at I.hok e
  obtain ⟨hp, g, d, t, os⟩ := s
  refine PySem.W.set_plain I.kIn (ox := { cls := .ref C, dict := none, data := .fields #[.ref t1, .none, .none, .none, .bool false, .none] }) (od := none) ⟨ho, rfl, rfl, trivial⟩ T.sa ?_
  refine osa_new EB I.kIn ho T.o T.hd ht (fun h' tk' dx k dn dne hx hn => ?_)
  have hnd : H dx = none := I.hok.fresh dn
  have nd : ∀ {b : Addr} {o : Obj}, hp.get? b = some o → b ≠ dx := fun {b o} q => Nat.ne_of_lt (Nat.lt_of_lt_of_le (Heap.lt_size q) dn)
  have na : ∀ {b : Addr}, H b = none → b ≠ a := fun {b} n z => by
    rw [z, e] at n
    cases n
  have Un1 : Un X.fs [] H (upd (upd H dx (exd dx [(f, y)])) a (exo a C (some dx))) hp h' := {
    keep := fun b o q n _ _ => k b o (na n) q
    slot := fun b o q n _ _ => ⟨o.slots, k b o (na n) q⟩
    free := fun b o q n _ => by rw [upd_ne (na n), upd_ne (nd q)]; exact n
    there := fun b o q _ => by
      by_cases hb : b = a
      · exact ⟨_, by rw [hb]; exact hx⟩
      · exact ⟨o, k b o hb q⟩
    tups := fun b xs q => by rw [upd_ne (at_ne e q exo_tup), upd_ne (ne_of_none q hnd)]; exact q
    frzs := fun b o v q => by rw [upd_ne (at_ne e q exo_frz), upd_ne (ne_of_none q hnd)]; exact q
    tbls := fun b ps q => ⟨#[], by rw [upd_ne (at_ne e q exo_tbl), upd_ne (ne_of_none q hnd), q]; simp⟩ }
  refine h dx _ hnd dne (I.un (t' := tk') Un1 fun b o q => ?_)
  by_cases hb : b = a
  · subst hb
    rw [upd_same] at q
    cases q
    exact exo_ok hx
  · rw [upd_ne hb] at q
    by_cases hd : b = dx
    · subst hd
      rw [upd_same] at q
      cases q
      exact exd_ok hn (relO_put (fs := []) ry fun g => True.intro)
    · rw [upd_ne hd] at q
      exact (I.hok b o q).stay (fun c v hc z => k c v (by
          rcases hc with hc | hc
          · rw [hc]
            exact hb
          · exact at_ne e hc exo_own) z)
        (fun c hc => by rw [upd_ne (at_ne e hc exo_own), upd_ne (ne_of_none hc hnd)]; exact hc) (fun c xs hc => by rw [upd_ne (at_ne e hc exo_tup), upd_ne (ne_of_none hc hnd)]; exact hc)
/-- self.f = y, a further one -/
theorem ost_old (EB : ExB B newId initId bmB) (T : XC X.K B newId bmB C) (I : Inv X pins σ H s) (e : H a = some (exo a C (some dx))) (ed : H dx = some (exd dx fs)) (hl : fs.length ≤ 900) (ht : takerIn X.K C f = some none) (ry : L2.RelV y u)
    (h : ∀ s', Inv X pins σ (upd H dx (exd dx ((f, y) :: fs))) s' → Q () s') : wpAny (model X.prog X.w) X.A (setAttr (.ref a) f u) Q E s := by
  obtain ⟨t1, ho⟩ := exo_at I.hok e
  obtain ⟨mA, hns, rel⟩ := exd_at I.hok ed
  have hw := within_of rel
  obtain ⟨hp, g, d, t, os⟩ := s
  obtain ⟨oD, _, _, hoD, _, _⟩ := hns.count hw
  refine PySem.W.set_plain I.kIn (ox := { cls := .ref C, dict := some dx, data := .fields #[.ref t1, .none, .none, .none, .bool false, .none] }) (od := some oD) ⟨ho, rfl, rfl, hoD⟩ T.sa ?_
  refine osa_old EB I.kIn ho hns hw (by rw [List.length_map]; omega) T.o T.hd ht (fun h' tk' k hn => ?_)
  have hd : ∃ o, h'.get? dx = some o := by
    obtain ⟨o, _, _, e', _⟩ := hn
    exact ⟨o, e'⟩
  exact h _ (I.write (t' := tk') (x := dx) (e := dx) (o := exd dx ((f, y) :: fs)) (by rw [ed]; exact True.intro) (.inl rfl) k hd (exd_ok hn (relO_put ry rel)))
/-- the built-in __init__ bound to the object, called: nothing of it is told -/
theorem oinit_bw {us : List Value} {q : Addr} {Q : Value → Shared → Prop} (EB : ExB B newId initId bmB) (T : XC X.K B newId bmB C) (I : Inv X pins σ H s) (e : H a = some (exo a C none)) (hu : s.heap.get? q = some (kxs_mw initId a)) (hl : us.length ≤ sizeLine) (h : ∀ s', Inv X pins σ H s' → Q .none s') :
    wpAny (model X.prog X.w) X.A (call (.ref q) us) Q E s := by
  obtain ⟨nm, N', qn, bs, bm, hdct, sn, sub, ab, col, dd, k0, k1, k2, k3, k5, hC, hT⟩ := PySem.W.excInit_of I.kIn T.i
  obtain ⟨t1, ho⟩ := exo_at I.hok e
  obtain ⟨hp, g, d, t, os⟩ := s
  refine wpAny_call (codeAny_of_tree ?_)
  show wpAny _ X.A.in1 (callAny (.ref q) ⟨us, []⟩) _ _ _
  simp only [callAny]
  refine wpAny_bind (wpAny_load hu ?_)
  simp only [kxs_mw, show (Value.type "method-wrapper" == Value.type "method" || Value.type "method-wrapper" == Value.type "builtin_function_or_method" || Value.type "method-wrapper" == Value.type "method-wrapper") = true by decide, if_true]
  refine PySem.W.KFB.if_so (by decide) ?_
  refine wpAny_bind (PySem.W.check_bound_init EB.fb.toExcCallFacts hC ho rfl ?_)
  refine wpAny_bind (wpAny_pure (wpAny_pure ?_))
  refine ⟨plainId_quiet EB.fb.init.plain _, codeAny_builtin EB.fb.initEntry ?_⟩
  refine PySem.W.exc_init_tree (cls := .ref C) (t0 := t1) (dv := none) (c2 := .none) (c3 := .none) (b4 := .bool false) ho hl fun h' k hx _ => ?_
  have J := I.write (t' := t) (x := a) (e := a) (o := exo a C none) (by rw [e]; exact True.intro) (.inl rfl) k ⟨_, hx⟩ (exo_ok hx)
  have eu : upd H a (exo a C none) = H := by
    funext b
    by_cases hb : b = a
    · rw [hb, upd_same, e]
    · rw [upd_ne hb]
  rw [eu] at J
  exact h _ J
end

/-! ### statements of a known activation -/
structure PSa (X : Cx) (body sts : List Stmt) (t : TS) : Prop where
  run : ∀ (pins : List (Addr × Obj)) (s : Shared) (σ : L2.St) (H : Hp) (D : Ends), Inv X pins σ H s → t D σ H → PySem.wpAt (model X.prog X.w) X.A (.func body X.env) (execs sts X.env) (SP X pins D) X.xe s
section
variable {X : Cx} {body sts rest : List Stmt} {st : Stmt} {t t' : TS}
theorem psa_of (h : PSs X sts t) : PSa X body sts t := ⟨fun pins s σ H D I q => wpAt_of_wpAny (h.run pins s σ H D I q)⟩
theorem psa_cons (h : PS X st t) (h' : PSa X body rest t') : PSa X body (st :: rest) (tSeq t t') := ⟨fun pins s σ H D I q => by
  refine ks_wpAt_execs_cons (wpAt_of_wpAny (wpAny_mono (h.run pins s σ H _ I q) (fun fl s1 hs => ?_) fun _ _ x => x))
  cases fl with
  | next => obtain ⟨σ1, H1, I1, q1⟩ := hs; exact h'.run pins s1 σ1 H1 D I1 q1
  | ret u => exact hs
  | brk => exact hs
  | cont => exact hs⟩
end
end DX
end

section
namespace DX
open PySem PySem.Spec PyProof.Rows L2 NdefX
open PySem.W (Frag excInitIn excOver findIn subIn typeIn keepIn hasDictIn takerIn clsIn kxs_mw ks_superObj)
/-- what super() asks of the running def: its function f, its class D, its cell, its code -/
structure SupF (P : Program) (K : Frag) (mg : Str → Option Value) (f : Addr) (fd : FuncData) (cda cc D : Addr) (x0 : Str) : Prop where
  fn : ∃ oc od osl, K.lookup f = some ⟨oc, od, .func fd, osl⟩
  ar : ∃ ar, (fd.params.posonlyargs ++ fd.params.args).head? = some ar ∧ ar.arg = x0
  code : ∃ ccl cdd vs ccs file tf, K.lookup cda = some ⟨ccl, cdd, .fields vs, ccs⟩ ∧ vs[2]? = some (.str file tf) ∧ ((P.main.file : Str) == file) = true
  cell : ∃ cl cld csl, K.lookup cc = some ⟨cl, cld, .cell (some (.ref D)), csl⟩
  cls : ∃ cd, clsIn K D = some cd
  sup : mg "super" = none
  opq : PySem.W.nsIn K cStatics "thirdparty.any" = some none
def tSup (C : Addr) (ta : TA) (ts : TS) : TS := fun D σ H => ∃ a : Addr, σ[0]? = some (some (.ref a)) ∧ H a = some (exo a C none) ∧ ta σ H fun vs H1 => vs.length ≤ 1000 ∧ H1 a = some (exo a C none) ∧ ts D σ H1
section
variable {X : Cx} {body rest : List Stmt} {ts : TS} {ta : TA} {B newId initId : String} {bmB : List Value} {f cda cc C D : Addr} {fd : FuncData} {x0 : Str} {p0 p1 p2 p3 p4 : Pos} {e : Expr} {es : List Expr} {pl : Sem Bool}
theorem psa_super (EB : ExB B newId initId bmB) (T : XC X.K B newId bmB C) (S : SupF X.prog X.K X.mg f fd cda cc D x0) (hfu : X.env.func = some f) (hco : X.env.code = .ref cda) (hcc : X.env.cells.lookup ("__class__" : Str) = some cc)
    (hks : X.env.kindOf "super" = some .globalImplicit) (hkc : X.env.kindOf "__class__" = some .free) (hka : X.env.kindOf x0 = some .local) (htop : (X.prog.main.scope.names.lookup ("super" : Str)).isSome = false) (hboot : bootBuiltins "super" = some (.type "super"))
    (hN : X.N[0]? = some x0) (hDC : PySem.W.mroIn X.K C (.ref D) = some true) (hsi : PySem.W.ks_superIn X.K C D "__init__" = some (some (.builtin initId))) (ha : PA X (e :: es) ta) (hr : PSa X body rest ts)
    (hint : interactive X.env = false := by rfl) (hsw : swapsWith (.Call (.Attribute (.Call (.Name "super" p0) [] [] p1) "__init__" p2) (e :: es) [] p3) none p4.line X.env = pure false := by rfl)
    (he : eval (.Call (.Attribute (.Call (.Name "super" p0) [] [] p1) "__init__" p2) (e :: es) [] p3) X.env = (do
      let ov ← attributeBase (.Call (.Name "super" p0) [] [] p1) "__init__" X.env (eval (.Call (.Name "super" p0) [] [] p1) X.env)
      standAt p2.atName
      let (f, first) ← holding [ov] (getMethod ov "__init__" pl)
      callWith p3 f first (backTo p3 (starEach (e :: es) X.env)) []) := by rfl)
    (hst : starEach (e :: es) X.env = (false, eval e X.env) :: starEach es X.env := by rfl) (hpl : (backTo p3 (starEach es X.env)).any (·.1) = false := by rfl) :
    PSa X body (.Expr (.Call (.Attribute (.Call (.Name "super" p0) [] [] p1) "__init__" p2) (e :: es) [] p3) p4 :: rest) (tSup C ta ts) := by
  refine ⟨fun pins s σ H Dd I q => ?_⟩
  obtain ⟨a, h0, hea, q⟩ := q
  obtain ⟨oc, od, osl, lkf⟩ := S.fn
  obtain ⟨ar, har, rfl⟩ := S.ar
  obtain ⟨ccl, cdd, vs, ccs, file, tf, lkc, hvs, hfile⟩ := S.code
  obtain ⟨cl, cld, csl, lkcell⟩ := S.cell
  obtain ⟨cdD, hD⟩ := S.cls
  refine ks_wpAt_execs_cons (ks_wpAt_Expr_any ?_ hint hsw)
  refine ks_wpAt_MethodCall ?_ he
  have hkf := I.ok.kind
  -- loads
  obtain ⟨mb, hb1, hb2⟩ := I.mod.blt
  obtain ⟨m, hns, hl⟩ := I.loc
  obtain ⟨uself, rself, look⟩ := hl 0 ar.arg (.ref a) hN h0 (.inl hka)
  obtain rfl : uself = Value.ref a := rself
  have hmself : m ar.arg = some (.ref a) := by
    rcases look with ⟨_, z⟩ | ⟨z, _⟩
    · exact z
    · rw [hka] at z; rcases z with z | z <;> cases z
  obtain ⟨oD, hD1, hD2⟩ : ∃ oD, s.heap.get? D = some oD ∧ oD.data = .cls cdD := by
    unfold clsIn at hD
    split at hD
    · rename_i c d cd' sl ho
      cases hD
      exact ⟨_, I.kIn _ _ ho, rfl⟩
    · cases hD
  obtain ⟨t1, hoa⟩ := exo_at I.hok hea
  have Ia : PySem.W.InstAt s.heap a ({ cls := .ref C, dict := none, data := .fields #[.ref t1, .none, .none, .none, .bool false, .none] } : Obj) C none := ⟨hoa, rfl, rfl, trivial⟩
  refine ks_wpAt_super_base (env := X.env) hks hkc (by decide) hfu (I.kIn _ _ lkf) rfl har hco (I.kIn _ _ lkc) rfl hvs hfile htop ?_
  refine PySem.W.ks_loadName_global hkf hks (Calls.loadGlobal_builtin (by rw [I.ok.glob]; exact I.mod.glob.keeps I.bk) S.sup (by rw [I.ok.blt]; exact hb1.keeps I.bk) ((hb2 "super" (by decide)).trans hboot) ⟨rfl, ?_⟩)
  refine wpAny_loadName_free hkf hkc hcc ⟨_, I.kIn _ _ lkcell, rfl⟩ ?_
  refine wpAny_loadName_local hkf hka hns hmself ?_
  obtain ⟨hp, g, d, t, os⟩ := s
  refine ks_wpAny_isType_cls hD1 hD2 ⟨rfl, ?_⟩
  refine ks_wpAny_call_super hD1 hD2 hoa rfl (fun c z => by cases z) (PySem.W.looks_mroIn I.kIn hDC) (fun h1 hso k1 => ?_)
  -- the method
  have X1 : X.K.In h1 := fun b o z => k1 b o (I.kIn b o z)
  have Ia1 : PySem.W.InstAt h1 a ({ cls := .ref C, dict := none, data := .fields #[.ref t1, .none, .none, .none, .bool false, .none] } : Obj) C none := ⟨k1 _ _ hoa, rfl, rfl, trivial⟩
  cases hc : clsIn X.K C with
  | none => unfold PySem.W.ks_superIn at hsi; rw [hc] at hsi; cases hsi
  | some cd =>
    unfold PySem.W.ks_superIn at hsi
    rw [hc] at hsi
    refine PySem.W.kxs_getMethod EB.kx hso (PySem.W.looks_opaque X1 S.opq) (l₀ := cd.mro) (fun A Q E s k q => wpAny_bind ((PySem.W.looks_clsIn X1 hc) A _ E s k (wpAny_pure q))) rfl X1 hsi (Ia1.type.andThen (PySem.W.looks_subIn X1 T.sB)) (PySem.W.ks_ne X1 Ia1 hc) (by decide) ?_
    -- the bound method is pinned while the arguments are read
    have hlt : hp.objs.size ≤ h1.objs.size := Nat.le_of_lt (Heap.lt_size hso)
    have k2 : ∀ b o, hp.get? b = some o → (h1.push (kxs_mw initId a)).get? b = some o := fun b o z => Heap.get?_push_of_some _ (k1 b o z)
    have I2 : Inv X pins σ H ⟨h1.push (kxs_mw initId a), g, d, t + 1, os⟩ := I.kept (t' := t + 1) k2
    have hu : (h1.push (kxs_mw initId a)).get? h1.objs.size = some (kxs_mw initId a) := Heap.get?_push_at rfl rfl
    have fpo : FpOk X pins H h1.objs.size := I.fpOk hlt (I.hok.fresh hlt)
    have I3 := I2.pinned (fp := [h1.objs.size]) (fun b hb => by rw [List.mem_singleton] at hb; rw [hb]; exact fpo) (fun b hb => by rw [List.mem_singleton] at hb; rw [hb]; exact ⟨_, hu, fun v z => by cases z⟩)
    show wpAny _ _ (callWith p3 (.ref h1.objs.size) [] (backTo p3 (starEach (e :: es) X.env)) []) _ _ _
    rw [hst]
    refine PySem.W.kxs_callWith (i := initId) (x := a) (by show (false || (backTo p3 (starEach es X.env)).any (·.1)) = false; rw [hpl]; rfl) ?_
    refine Calls.evalArgs_plain ?_
    have hrun := ha.run p3 _ _ σ H _ I3 q
    rw [hst] at hrun
    refine thn hrun fun us s4 ⟨vs4, H4, I4, r4, hl4, he4, q4⟩ => ?_
    have hp4 := (I4.pin (h1.objs.size, kxs_mw initId a) (List.mem_append_right _ (List.mem_append_right _ (mem_pinsAt (List.mem_singleton.mpr rfl) hu)))).1
    refine ⟨hp4, ?_⟩
    have J4 : Inv X pins σ H4 s4 := I4.unpinned
    refine oinit_bw EB T J4 he4 hp4 (by rw [List.nil_append, ← Paired.length r4, sizeLine_eq]; omega) fun s5 I5 => ?_
    exact hr.run pins s5 σ H4 Dd I5 q4
end
end DX
end

section
namespace DX
open PySem PySem.Spec PyProof.Rows L2 NdefX
open PySem.W (Frag excInitIn excOver findIn subIn typeIn keepIn hasDictIn takerIn clsIn kxs_mw ks_superObj)
/-- the words of a def that captured __class__ -/
abbrev nfS (name qual : Str) (params : Arguments) (body : List Stmt) (scope : Scope) (cc cda : Addr) : NF := ⟨name, qual, params, body, scope, [(("__class__" : Str), cc)], cda⟩
section
variable {CX : CXT} {P : Program} {w : World} {K : Frag} {mg : Str → Option Value} {base : Heap} {k : Nat} {f cc cda D : Addr} {name qual : Str} {params : Arguments} {body : List Stmt} {scope : Scope} {N ps : List Str} {sp : Sp}
theorem cells_cls {A : Around} {outer : List Env} {s : Shared} {H : Hp} (e0 : Env0 P w K mg base A outer s H) (hc : ∃ cl cld csl, K.lookup cc = some ⟨cl, cld, .cell (some (.ref D)), csl⟩) : CellsAt [(("__class__" : Str), cc)] ["__class__"] [none] s.heap H := by
  obtain ⟨cl, cld, csl, lk⟩ := hc
  have hb := e0.mod.kin _ _ lk
  obtain ⟨h1, h2⟩ := e0.bs _ _ hb
  have key : ∀ (y : Str) c, [(("__class__" : Str), cc)].lookup y = some c → y = "__class__" ∧ c = cc := fun y c h => by
    rw [List.lookup_cons] at h
    split at h
    · rename_i q; exact ⟨beq_iff_eq.mp q, (Option.some.inj h).symm⟩
    · cases h
  refine ⟨rfl, fun y c h => ?_, fun x y c h1 h2 => ?_, fun i y h => ?_⟩
  · obtain ⟨_, rfl⟩ := key y c h
    exact ⟨h2, _, _, h1, rfl⟩
  · rw [(key x c h1).1, (key y c h2).1]
  · cases i with
    | zero =>
      simp only [List.getElem?_cons_zero, Option.some.injEq] at h
      subst h
      exact ⟨cc, by simp [List.lookup], fun v z => by simp at z⟩
    | succ i => simp at h
theorem fnS_of {dV kV doc pm ct oc : Value} {an od : Option Addr} {osl : Array (Option Value)} (lk : K.lookup f = some ⟨oc, od, .func (PySem.W.fnX name qual params body scope [(("__class__" : Str), cc)] dV kV doc pm an (.ref cda) ct), osl⟩) (hcd : PySem.W.codeIn K (.ref cda) qual = true)
    (hc : ∃ cl cld csl, K.lookup cc = some ⟨cl, cld, .cell (some (.ref D)), csl⟩) (S : NScope N ps ["__class__"] scope) (len : ∀ vs H Q E, sp vs H Q E → vs.length = ps.length)
    (hbody : ∀ (A : Around) (outer : List Env) (s : Shared) (H : Hp) (vs : List V) (Q : VK) (E : XK), Room k (A.deeper (envF (nfS name qual params body scope cc cda) f s.heap.objs.size)) → sp vs H Q E →
      ∃ t, PSa (ncx CX P w K mg base N (nfS name qual params body scope cc cda) f A outer s H E) body body t ∧ t { nx := fun _ H' => Q .non H', rt := Q } (startF N vs [none]) H) :
    FnOk P w K mg base CX (k + 1) f (PySem.W.fnX name qual params body scope [(("__class__" : Str), cc)] dV kV doc pm an (.ref cda) ct) ps sp := by
  refine ⟨len, fun A outer s H args us vs Q E hr e0 hb r hsp => ?_⟩
  have hl := len _ _ _ _ hsp
  have KX : K.In s.heap := e0.mod.kin.keeps fun b o e => (e0.bs b o e).1
  have lim : s.heap.NoLimit := e0.mod.nolimit.keeps fun b o e => (e0.bs b o e).1
  refine codeAny_call_function hr.depth (KX _ _ lk) rfl S.co S.gen rfl (PySem.W.codeRec_of KX hcd) (hb _ _ _ _ ?_)
  refine wpAny_newFunctionEnv S.nocell (fun ⟨n, _⟩ hy => S.par n (List.of_mem_zip hy).1) (fun h₁ hns hsb => ⟨lim.fresh _ hsb, ?_⟩) S.kind
  show codeAny _ _ (.func body (envF (nfS name qual params body scope cc cda) f s.heap.objs.size)) _ _
  refine ks_codeAny_funcAt ?_
  have kp : ∀ b o, s.heap.get? b = some o → h₁.get? b = some o := fun b o e => hsb.extBut b o (Nat.ne_of_lt (Heap.lt_size e)) (Heap.get?_push_of_some _ e)
  obtain ⟨t, ht, hq⟩ := hbody A outer s H vs Q E (hr.deeper _) hsp
  have I : Inv (ncx CX P w K mg base N (nfS name qual params body scope cc cda) f A outer s H E) [] (startF N vs [none]) H { s with heap := h₁, toks := s.toks + (ps.zip us).length } := inv_startN S hr.hd e0 hl r (cells_cls e0 hc) hns kp
  refine PySem.wpAt_mono (ht.run [] _ (startF N vs [none]) H _ I hq) (fun fl s' hs => ?_) fun e s' hs => hs
  have fin : ∀ {σ' : L2.St} {H' : Hp} {v : V} {u : Value}, Inv (ncx CX P w K mg base N (nfS name qual params body scope cc cda) f A outer s H E) [] σ' H' s' → L2.RelV v u → Q v H' → CE outer P w H s Q u s' :=
    fun {σ' H' v u} J rv q => ⟨v, H', J.os, J.bare, J.base, J.hok, rv, q⟩
  cases fl with
  | ret u =>
    obtain ⟨v, σ', H', J, rv, q⟩ := hs
    exact fin J rv q
  | next =>
    obtain ⟨σ', H', J, q⟩ := hs
    exact fin (v := V.non) (u := Value.none) J rfl q
  | brk =>
    obtain ⟨_, _, _, q⟩ := hs
    exact False.elim q
  | cont =>
    obtain ⟨_, _, _, q⟩ := hs
    exact False.elim q
end
/-- C(e, ..), an exception as a value -/
def tMkV (C : Addr) (sp : Sp) (ta : TA) : TE := fun σ H Q => ta σ H fun vs H1 => vs.length ≤ 1000 ∧ ∀ a, H1 a = none → sp (.ref a :: vs) (upd H1 a (exo a C none)) (fun v H2 => v = .non ∧ Q (.ref a) H2) (fun _ _ _ => False)
section
variable {X : Cx} {B newId initId : String} {bmB : List Value} {C fI : Addr} {k : Nat} {fd : FuncData} {ps : List Str} {sp : Sp} {x : Str} {e : Expr} {es : List Expr} {ta : TA} {p pos : Pos}
theorem mkx_run {pins : List (Addr × Obj)} {σ : L2.St} {H1 : Hp} {s1 : Shared} {Q : VK} {us : List Value} {vs : List V} (EB : ExB B newId initId bmB) (T : XC X.K B newId bmB C) (iC : findIn X.K (.ref C) "__init__" = some (some (.ref fI))) (tI : typeIn X.K (.ref fI) = some (.type "function"))
    (F1 : FnOk X.prog X.w X.K X.mg X.base (L2.CX X.prog X.w) k fI fd ps sp) (hr : Room (k + 1) X.A) (hb : Binds X.K fd ps []) (I1 : Inv X pins σ H1 s1) (r1 : Vals vs us) (hz : vs.length ≤ 1000)
    (q1 : ∀ a, H1 a = none → sp (.ref a :: vs) (upd H1 a (exo a C none)) (fun v H2 => v = .non ∧ Q (.ref a) H2) (fun _ _ _ => False)) : wpAny (model X.prog X.w) X.A (call (.ref C) us) (EP X pins σ Q) X.xe s1 := by
  obtain ⟨nm, N', qn, bs, bm, hdct, sn, sub, ab, col, dd, k0, k1, k2, k3, k5, hC, hT⟩ := PySem.W.excInit_of I1.kIn T.i
  obtain ⟨hp, g, dr, tk, os⟩ := s1
  have hsz : hp.objs.size ≤ hp.objs.size + 1 := Nat.le_succ _
  have hn : H1 (hp.objs.size + 1) = none := I1.hok.fresh hsz
  have hq := q1 (hp.objs.size + 1) hn
  have kk : ∀ b o, hp.get? b = some o → ((hp.push (PySem.W.kdv_tup us)).push (PySem.HandSPX.excO C hp.objs.size)).get? b = some o := fun b o e => Heap.get?_push_of_some _ (Heap.get?_push_of_some _ e)
  have hget : ((hp.push (PySem.W.kdv_tup us)).push (PySem.HandSPX.excO C hp.objs.size)).get? (hp.objs.size + 1) = some (PySem.HandSPX.excO C hp.objs.size) := by heap_get
  have I2 : Inv X pins σ (upd H1 (hp.objs.size + 1) (exo (hp.objs.size + 1) C none)) ⟨(hp.push (PySem.W.kdv_tup us)).push (PySem.HandSPX.excO C hp.objs.size), g, dr, tk, os⟩ :=
    I1.laid (t' := tk) (a := hp.objs.size + 1) (o := exo (hp.objs.size + 1) C none) (h' := (hp.push (PySem.W.kdv_tup us)).push (PySem.HandSPX.excO C hp.objs.size)) kk hsz (exo_ok hget)
  have r2 : Vals (V.ref (hp.objs.size + 1) :: vs) (Value.ref (hp.objs.size + 1) :: us) := .cons rfl r1
  have hl : (Value.ref (hp.objs.size + 1) :: us ++ []).length = ps.length := by
    have e := r2.length
    rw [F1.len _ _ _ _ hq] at e
    rw [List.append_nil]
    exact e.symm
  have hus : us.length ≤ sizeLine := by
    rw [← Paired.length r1, sizeLine_eq]
    omega
  have hbb := hb _ (Value.ref (hp.objs.size + 1) :: us) I2.kIn hl
  rw [List.append_nil] at hbb
  refine wpAny_call (PySem.HandSPX.call_own EB.fb hT hC (PySem.W.looks_findIn I1.kIn iC) (fun self => PySem.W.bind_fn I1.kIn self tI) hus
    (codeAny_mono (F1.run _ X.stack _ _ ⟨Value.ref (hp.objs.size + 1) :: us, []⟩ (Value.ref (hp.objs.size + 1) :: us) _ _ (fun _ _ _ => False) (hr.make C us []) (I2.env0.make C us []) hbb r2 hq) fun r s' hq' => ?_))
  cases r with
  | error er => exact passL pins σ _ _ er s' I2 hq'
  | ok fl =>
    cases fl with
    | ret u =>
      obtain ⟨v, H2, J, rv, ev, q2⟩ := I2.after hq'
      subst ev
      exact ⟨rv, .ref (hp.objs.size + 1), H2, J, rfl, q2⟩
    | next => exact False.elim hq'
    | brk => exact False.elim hq'
    | cont => exact False.elim hq'
theorem pe_mkx (EB : ExB B newId initId bmB) (T : XC X.K B newId bmB C) (iC : findIn X.K (.ref C) "__init__" = some (some (.ref fI))) (tI : typeIn X.K (.ref fI) = some (.type "function"))
    (F1 : FnOk X.prog X.w X.K X.mg X.base (L2.CX X.prog X.w) k fI fd ps sp) (hr : Room (k + 1) X.A) (hb : Binds X.K fd ps []) (hg : Gl X x) (hm : X.mg x = some (.ref C)) (ha : PA X (e :: es) ta)
    (hdb : (x == ("__debug__" : Str)) = false := by decide) (he : starEach (e :: es) X.env = (false, eval e X.env) :: starEach es X.env := by rfl) (hpl : (backTo pos (starEach es X.env)).any (·.1) = false := by rfl) :
    PE X (.Call (.Name x p) (e :: es) [] pos) (tMkV C sp ta) := by
  refine ⟨fun pins s σ H Q I h => ?_⟩
  refine wpAny_Call_Name_kw (ld_glob I hg hm ?_ hdb)
  refine PySem.W.callWith_K (h₀ := X.base) I.ok.mod.kin T.kC (thn (ha.run pos pins s σ H _ I h) fun us s1 ⟨vs, H1, I1, r1, hz, q1⟩ => ⟨I1.kIn, ?_⟩) he hpl
  exact mkx_run EB T iC tI F1 hr hb I1 r1 hz q1
theorem pe_mkx0 (EB : ExB B newId initId bmB) (T : XC X.K B newId bmB C) (iC : findIn X.K (.ref C) "__init__" = some (some (.ref fI))) (tI : typeIn X.K (.ref fI) = some (.type "function"))
    (F1 : FnOk X.prog X.w X.K X.mg X.base (L2.CX X.prog X.w) k fI fd ps sp) (hr : Room (k + 1) X.A) (hb : Binds X.K fd ps []) (hg : Gl X x) (hm : X.mg x = some (.ref C)) (hdb : (x == ("__debug__" : Str)) = false := by decide) :
    PE X (.Call (.Name x p) [] [] pos) (tMkV C sp tNil) := by
  refine ⟨fun pins s σ H Q I h => ?_⟩
  refine wpAny_Call_Name_kw (ld_glob I hg hm ?_ hdb)
  exact PySem.W.callWith_K0 I.kIn T.kC (mkx_run EB T iC tI F1 hr hb I .nil (Nat.zero_le _) h.2)
end
end DX
end

section
namespace DX
open PySem PySem.Spec PyProof.Rows L2 NdefX DL Evl
open PySem.W (Frag excInitIn excOver findIn subIn typeIn keepIn hasDictIn takerIn clsIn)

theorem freezeO {C : LC} {e w : Wd} {S : Store} {p : Addr} {u : HO} (f : From e w) (k : w.ok C S) (n : e.H p = none) (n0 : w.H0 p = none) (nm : p ∉ w.mu) (hu : w.H p = some u) : From e ⟨w.mu, upd w.H0 p u, w.H⟩ ∧ Wd.ok C S ⟨w.mu, upd w.H0 p u, w.H⟩ := by
  have e1 : Ex w.H0 (upd w.H0 p u) := Ex.new n0
  refine ⟨⟨f.ex0.trans e1, f.pre, f.all, fun a o h1 h2 h3 h4 => ?_⟩, ⟨fun a o h => ?_, fun a h => ?_, k.nd, k.len, fun i c a h1 h2 => (k.cel i c a h1 h2).mono (Sm.of e1) (List.prefix_refl _), k.tab⟩⟩
  · obtain ⟨k1, k2, k3⟩ := f.fr a o h1 h2 h3 h4
    have : a ≠ p := fun z => by rw [z, n] at h1; cases h1
    exact ⟨k1, (upd_ne this).trans k2, k3⟩
  · show w.H a = some o
    have h : upd w.H0 p u a = some o := h
    by_cases q : a = p
    · subst q; rw [upd_same] at h; cases h; exact hu
    · rw [upd_ne q] at h; exact k.ex a o h
  · show upd w.H0 p u a = none
    rw [upd_ne (fun z => nm (by rw [← z]; exact h))]; exact k.out a h
/-- an exception that is being made -/
structure ExSt (C : LC) (e w : Wd) (a Ca : Addr) (fs : List (Str × D)) : Prop where
  h0 : w.H0 a = none
  m0 : a ∉ w.mu
  e0 : e.H a = none
  st : (fs = [] ∧ w.H a = some (exo a Ca none)) ∨ ∃ d us, w.H a = some (exo a Ca (some d)) ∧ w.H d = some (exd d us) ∧ w.H0 d = none ∧ d ∉ w.mu ∧ e.H d = none ∧ d ≠ a ∧ RepF C w.mu w.H0 fs us
theorem ExSt.to {C : LC} {e w w' : Wd} {a Ca : Addr} {fs : List (Str × D)} (f : From w w') (x : ExSt C e w a Ca fs) : ExSt C e w' a Ca fs := by
  rcases x.st with ⟨h1, h2⟩ | ⟨d, us, h1, h2, h3, h4, h5, h6, h7⟩
  · obtain ⟨k1, k2, k3⟩ := f.fr a _ h2 x.h0 x.m0 (fun _ => exo_tbl)
    exact ⟨k2, k3, x.e0, .inl ⟨h1, k1⟩⟩
  · obtain ⟨k1, k2, k3⟩ := f.fr a _ h1 x.h0 x.m0 (fun _ => exo_tbl)
    obtain ⟨j1, j2, j3⟩ := f.fr d _ h2 h3 h4 (fun _ z => by cases (show (HO.ext _ : HO) = .tbl _ from z))
    exact ⟨k2, k3, x.e0, .inr ⟨d, us, k1, j1, j2, j3, h5, h6, h7.mono (Sm.of f.ex0) f.pre⟩⟩
theorem freezeX {C : LC} {e w : Wd} {S : Store} {a : Addr} {c : Str} {fs : List (Str × D)} (f : From e w) (k : w.ok C S) (x : ExSt C e w a (He.ga C.K c) fs) : ∃ H0', From e ⟨w.mu, H0', w.H⟩ ∧ Wd.ok C S ⟨w.mu, H0', w.H⟩ ∧ Rep C w.mu H0' (.exc c fs) (.ref a) := by
  rcases x.st with ⟨h1, h2⟩ | ⟨d, us, h1, h2, h3, h4, h5, h6, h7⟩
  · obtain ⟨f1, k1⟩ := freezeO f k x.e0 x.h0 x.m0 h2
    refine ⟨_, f1, k1, ?_⟩
    simp only [Rep]
    exact ⟨a, rfl, .inl ⟨h1, upd_same⟩⟩
  · obtain ⟨f1, k1⟩ := freezeO f k x.e0 x.h0 x.m0 h1
    have z3 : upd w.H0 a (exo a (He.ga C.K c) (some d)) d = none := by rw [upd_ne h6]; exact h3
    obtain ⟨f2, k2⟩ := freezeO (w := ⟨w.mu, upd w.H0 a (exo a (He.ga C.K c) (some d)), w.H⟩) f1 k1 h5 z3 h4 h2
    refine ⟨_, f2, k2, ?_⟩
    have e1 : Ex w.H0 (upd w.H0 a (exo a (He.ga C.K c) (some d))) := Ex.new x.h0
    have e2 : Ex (upd w.H0 a (exo a (He.ga C.K c) (some d))) (upd (upd w.H0 a (exo a (He.ga C.K c) (some d))) d (exd d us)) := Ex.new z3
    simp only [Rep]
    refine ⟨a, rfl, .inr ⟨d, us, ?_, upd_same, ?_⟩⟩
    · rw [upd_ne (Ne.symm h6), upd_same]
    · exact h7.mono (Sm.of (e1.trans e2)) (List.prefix_refl _)
theorem heap_at (a : Addr) (o : Obj) (ho : o.isFreed = false) : ∃ h : Heap, h.get? a = some o := by
  refine ⟨(⟨Array.replicate a o, {}⟩ : Heap).push o, ?_⟩
  have h := Heap.get?_push_size (⟨Array.replicate a o, {}⟩ : Heap) ho
  rw [show (⟨Array.replicate a o, {}⟩ : Heap).objs.size = a from Array.size_replicate] at h
  exact h
theorem wrXo {a C : Addr} {d : Option Addr} : Wr a (exo a C d) := ⟨(fun _ => exo_tbl), fun q z => by
  have z' : HO.ext _ = HO.ext _ := z
  have e := HO.ext.inj z'
  obtain ⟨h, hh⟩ := heap_at a ({ cls := .ref C, dict := d, data := .fields #[.ref 0, .none, .none, .none, .bool false, .none] } : Obj) rfl
  have e1 := congrFun e h
  have p : ∃ t1 : Addr, h.get? a = some ({ cls := .ref C, dict := d, data := .fields #[.ref t1, .none, .none, .none, .bool false, .none] } : Obj) := ⟨0, hh⟩
  rw [e1] at p
  obtain ⟨oc, vs, t, e2, e3, e4⟩ := p
  rw [hh] at e2
  cases e2
  cases e3
  simp at e4⟩
theorem crep_noX {C : LC} {mu : List Addr} {H : Hp} {φ : Heap → Prop} {o : Option HO} (ho : o = some (HO.ext φ)) : ∀ {x : DL.D}, CRep C mu H o x → False
  | .lst _, ⟨_, z, _⟩ => by rw [ho] at z; cases z
  | .dct _, ⟨_, z, _⟩ => by rw [ho] at z; cases z
  | .dtt _, ⟨_, z, _⟩ => by rw [ho] at z; cases z
  | .ins _ _, ⟨_, _, z, _⟩ => by rw [ho] at z; cases z
theorem wrXd {dx : Addr} {fs : List (Str × V)} : Wr dx (exd dx fs) := ⟨(fun _ z => by cases (show (HO.ext _ : HO) = .tbl _ from z)), fun q z => by
  have z' : HO.ext _ = HO.ext _ := z
  have e := HO.ext.inj z'
  obtain ⟨h, hh⟩ := heap_at dx ({ cls := .none, data := .fields #[.none, .str q 0] } : Obj) rfl
  have e1 := congrFun e h
  have p : ∃ (oc : Obj) (vs : Array Value) (t : Tok), h.get? dx = some oc ∧ oc.data = .fields vs ∧ vs[1]? = some (.str q t) := ⟨_, _, 0, hh, rfl, rfl⟩
  rw [← e1] at p
  obtain ⟨mA, ⟨o, es, ep, h1, h2, _⟩, _⟩ := p
  rw [hh] at h1
  cases h1
  cases h2⟩
/-! ### self.f = e -/
def tOstX (K : Frag) (Ca : Addr) (f : Str) (te : TE) : TS := fun D σ H => te σ H fun y H1 => ∃ a : Addr, σ[0]? = some (some (.ref a)) ∧ takerIn K Ca f = some none ∧
  ((H1 a = some (exo a Ca none) ∧ ∀ dx, H1 dx = none → dx ≠ a → D.nx σ (upd (upd H1 dx (exd dx [(f, y)])) a (exo a Ca (some dx)))) ∨
    ∃ (dx : Addr) (fs : List (Str × V)), H1 a = some (exo a Ca (some dx)) ∧ H1 dx = some (exd dx fs) ∧ fs.length ≤ 900 ∧ D.nx σ (upd H1 dx (exd dx ((f, y) :: fs))))
theorem ps_ostX {X : Cx} {B newId initId : String} {bmB : List Value} {Ca : Addr} {f : Str} {o e : Expr} {te : TE} {p' pos : Pos} (EB : ExB B newId initId bmB) (T : XC X.K B newId bmB Ca) (ho : PE X o (tVar 0)) (he : PE X e te) (hs : swapsWith e (some (.Attribute o f p')) pos.line X.env = pure false := by rfl) : PS X (.Assign [.Attribute o f p'] e pos) (tOstX X.K Ca f te) := by
  refine ⟨fun pins s σ H D I h => ?_⟩
  refine plainObj_wpAny_Assign_Attribute (thn (he.run pins s σ H _ I h) fun v s1 ⟨y, H1, I1, r1, a, h0, hno, q⟩ => thn (ho.run pins s1 σ H1 (fun x H2 => x = .ref a ∧ H2 = H1) I1 ⟨_, h0, rfl, rfl⟩) fun u s2 ⟨x, H2, I2, r2, ex, eH⟩ => ?_) hs
  subst ex eH
  obtain rfl : u = Value.ref a := r2
  rcases q with ⟨ea, q⟩ | ⟨dx, fs, ea, ed, hl, q⟩
  · exact ost_new EB T I2 ea hno r1 fun dx s' n ne J => ⟨σ, _, J, q dx n ne⟩
  · exact ost_old EB T I2 ea ed hl hno r1 fun s' J => ⟨σ, _, J, q⟩
def fldGo : List (Str × (G → M D)) → List (Str × D) → G → M (List (Str × D))
  | [], acc, _ => ret acc
  | (f, m) :: r, acc, g => DL.bind (nox (m g)) fun d => if acc.length ≤ 800 then fldGo r ((f, d) :: acc) g else stuck
theorem RepF.length {C : LC} {mu : List Addr} {H : Hp} : ∀ {ds : List (Str × D)} {us : List (Str × V)}, RepF C mu H ds us → ds.length = us.length
  | [], us, h => by simp only [RepF] at h; subst h; rfl
  | (k, d) :: ds, us, h => by
    simp only [RepF] at h
    obtain ⟨v, us', rfl, _, h⟩ := h
    simp only [List.length_cons, RepF.length h]
def EvFS (C : LC) (Ca : Addr) (ts : TS) (l : List (Str × (G → M D))) : Prop := ∀ e g s w S D a acc, Wd.ok C S w → From e w → RepG C e w s g → s[0]? = some (some (.ref a)) → ExSt C e w a Ca acc →
  (fldGo l acc g S).post (fun fs S' => ∀ w', From e w' → w'.ok C S' → ExSt C e w' a Ca fs → D.nx s w'.H) K0 → ts D s w.H
def DF {ι : Type} (C : LC) (X : ι → Cx) (Ca : Addr) (sts : List Stmt) (l : List (Str × (G → M D))) : Prop := ∃ ts, (∀ i, PSs (X i) sts ts) ∧ EvFS C Ca ts l
section
variable {ι : Type} {C : LC} {X : ι → Cx} {Ca : Addr} {B newId initId : String} {bmB : List Value} {f : Str} {o e : Expr} {p' pos : Pos} {m : G → M D} {rest : List Stmt} {l : List (Str × (G → M D))}
theorem df_nil : DF C X Ca [] [] := ⟨_, fun _ => pss_nil, fun e g s w S D a acc k fr r h0 x p => p w fr k x⟩
theorem df_cons (EB : ExB B newId initId bmB) (T : ∀ i, XC (X i).K B newId bmB Ca) (ht : takerIn C.K Ca f = some none) (ho : ∀ i, PE (X i) o (tVar 0)) (he : DE C X W0 e m) (hr : DF C X Ca rest l) (hK : ∀ i, (X i).K = C.K := by exact fun _ => rfl)
    (hs : ∀ i, swapsWith e (some (.Attribute o f p')) pos.line (X i).env = pure false := by exact fun _ => rfl) : DF C X Ca (.Assign [.Attribute o f p'] e pos :: rest) ((f, m) :: l) := by
  obtain ⟨te, pe, ee⟩ := he
  obtain ⟨tr, pr, er⟩ := hr
  refine ⟨tSeq (tOstX C.K Ca f te) tr, fun i => pss_cons (by have h := ps_ostX (pos := pos) (p' := p') EB (T i) (ho i) (pe i) (hs i) (f := f); rw [hK i] at h; exact h) (pr i), fun e g s w S D a acc k fr r h0 x p => ?_⟩
  simp only [fldGo] at p
  refine ee e g s w S _ k fr r (post_K0W (post_mono (post_nox (post_bind.mp p)) (fun d S1 y v w1 f1 k1 rv => ?_) fun _ _ z => z))
  split at y
  case isFalse => exact y.elim
  rename_i hlen
  refine ⟨a, h0, ht, ?_⟩
  have x1 := x.to f1
  have fe1 := fr.trans f1
  rcases x1.st with ⟨h1, h2⟩ | ⟨d', us, h1, h2, h3, h4, h5, h6, h7⟩
  · refine .inl ⟨h2, fun dx nd ne => ?_⟩
    have ned : e.H dx = none := fresh_from fe1 nd
    have n0d : w1.H0 dx = none := k1.none0 nd
    have nmd : dx ∉ w1.mu := k1.nmu nd
    have fa : From e ⟨w1.mu, w1.H0, upd w1.H dx (exd dx [(f, v)])⟩ := fe1.wr ned
    have ka : Wd.ok C S1 ⟨w1.mu, w1.H0, upd w1.H dx (exd dx [(f, v)])⟩ := k1.new nd
    have wa : upd w1.H dx (exd dx [(f, v)]) a = some (exo a Ca none) := by rw [upd_ne (Ne.symm ne)]; exact h2
    have fb : From e ⟨w1.mu, w1.H0, upd (upd w1.H dx (exd dx [(f, v)])) a (exo a Ca (some dx))⟩ := From.wr (w := ⟨w1.mu, w1.H0, upd w1.H dx (exd dx [(f, v)])⟩) fa x1.e0
    have kb : Wd.ok C S1 ⟨w1.mu, w1.H0, upd (upd w1.H dx (exd dx [(f, v)])) a (exo a Ca (some dx))⟩ := Wd.ok.wr (w := ⟨w1.mu, w1.H0, upd w1.H dx (exd dx [(f, v)])⟩) ka x1.h0 x1.m0 wa wrXo
    refine er e g s ⟨w1.mu, w1.H0, upd (upd w1.H dx (exd dx [(f, v)])) a (exo a Ca (some dx))⟩ S1 D a ((f, d) :: acc) kb fb ?_ h0 ⟨x1.h0, x1.m0, x1.e0, .inr ⟨dx, [(f, v)], upd_same, ?_, n0d, nmd, ned, ne, ?_⟩⟩ y
    · refine ⟨r.len, fun i x hx => ?_, r.sep⟩
      obtain ⟨o, q1, q2⟩ := (r.to f1).at_ i x hx
      refine ⟨o, q1, ?_⟩
      cases x with
      | un => trivial
      | sh _ => exact q2
      | ow _ =>
        obtain ⟨p, e1, e2, e3, e4, e5⟩ := q2
        refine ⟨p, e1, e2, e3, e4, ?_⟩
        obtain ⟨u, hu, wu⟩ := crep_wr (p := p) e5
        have np : p ≠ a := fun z => by subst z; exact crep_noX h2 e5
        have nd' : p ≠ dx := fun z => by subst z; rw [nd] at hu; cases hu
        show CRep C w1.mu w1.H0 (upd (upd w1.H dx _) a _ p) _
        rw [upd_ne np, upd_ne nd']; exact e5
    · show upd (upd w1.H dx _) a _ dx = _
      rw [upd_ne ne, upd_same]
    · subst h1; simp only [RepF]; exact ⟨v, [], rfl, rv, rfl⟩
  · refine .inr ⟨d', us, h1, h2, by rw [← RepF.length h7]; omega, ?_⟩
    have fb : From e ⟨w1.mu, w1.H0, upd w1.H d' (exd d' ((f, v) :: us))⟩ := fe1.wr h5
    have kb : Wd.ok C S1 ⟨w1.mu, w1.H0, upd w1.H d' (exd d' ((f, v) :: us))⟩ := k1.wr h3 h4 h2 wrXd
    refine er e g s ⟨w1.mu, w1.H0, upd w1.H d' (exd d' ((f, v) :: us))⟩ S1 D a ((f, d) :: acc) kb fb ?_ h0 ⟨x1.h0, x1.m0, x1.e0, .inr ⟨d', (f, v) :: us, ?_, upd_same, h3, h4, h5, h6, ?_⟩⟩ y
    · refine ⟨r.len, fun i x hx => ?_, r.sep⟩
      obtain ⟨o, q1, q2⟩ := (r.to f1).at_ i x hx
      refine ⟨o, q1, ?_⟩
      cases x with
      | un => trivial
      | sh _ => exact q2
      | ow _ =>
        obtain ⟨p, e1, e2, e3, e4, e5⟩ := q2
        refine ⟨p, e1, e2, e3, e4, ?_⟩
        have np : p ≠ d' := fun z => by subst z; exact crep_noX h2 e5
        show CRep C w1.mu w1.H0 (upd w1.H d' _ p) _
        rw [upd_ne np]; exact e5
    · show upd w1.H d' _ a = _
      rw [upd_ne (Ne.symm h6)]; exact h1
    · simp only [RepF]; exact ⟨v, us, rfl, rv, h7⟩
end
end DX
end

section
namespace DX
open PySem PySem.Spec PyProof.Rows L2 NdefX DL Evl
open PySem.W (Frag excInitIn excOver findIn subIn typeIn keepIn hasDictIn takerIn clsIn)

structure DN (k : Nat) (F : NF) (f : Addr) : Type where
  A : Around
  outer : List Env
  s : Shared
  H : Hp
  hr : Room k (A.deeper (envF F f s.heap.objs.size))
abbrev XN (P : Program) (w : World) (K : Frag) (mg : Str → Option Value) (base : Heap) (N : List Str) (k : Nat) (F : NF) (f : Addr) (E : XK) : DN k F f → Cx := fun i => ncx (L2.CX P w) P w K mg base N F f i.A i.outer i.s i.H E
def startI (n : Nat) (ds : List D) : G := .un :: (ds.map Slot.sh ++ List.replicate (n - 1 - ds.length) Slot.un)
def initF (n : Nat) (sup : G → M (List D)) (l : List (Str × (G → M D))) (ds : List D) : M (List (Str × D)) := DL.bind (nox (sup (startI n ds))) fun xs => if xs.length ≤ 1000 then fldGo l [] (startI n ds) else stuck
def spI (C : LC) (Ca : Addr) (n : Nat) (F : List D → M (List (Str × D))) : Sp := fun vs H Q E => ∃ w0 S ds a args, vs = .ref a :: args ∧ Wd.ok C S w0 ∧ w0.H a = none ∧ H = upd w0.H a (exo a Ca none) ∧ RepL C w0.mu w0.H0 ds args ∧ ds.length = n ∧
  (F ds S).post (fun fs S' => ∀ w', From w0 w' → w'.ok C S' → ExSt C w0 w' a Ca fs → Q .non w'.H) K0
theorem startI_rep {C : LC} {w w' : Wd} {N : List Str} {a : Addr} {ds : List D} {vs : List V} (f : From w w') (hN : vs.length + 2 ≤ N.length) (r : RepL C w.mu w.H0 ds vs) : RepG C w w' (startF N (.ref a :: vs) [none]) (startI N.length ds) := by
  have hl := r.length
  have e0 : startF N (.ref a :: vs) [none] = some (.ref a) :: (vs.map some ++ List.replicate (N.length - 1 - vs.length) none) := by
    unfold startF
    rw [List.map_cons, List.cons_append]
    congr 2
    rw [List.singleton_append, List.length_cons, List.length_singleton]
    have : N.length - 1 - vs.length = (N.length - (vs.length + 1) - 1) + 1 := by omega
    rw [this, List.replicate_succ]
  rw [e0]
  refine ⟨by simp only [startI, List.length_cons, List.length_append, List.length_map, List.length_replicate, hl], fun i x hx => ?_, fun i j p di dj _ h => ?_⟩
  · unfold startI at hx
    cases i with
    | zero => simp only [List.getElem?_cons_zero, Option.some.injEq] at hx; subst hx; exact ⟨_, rfl, trivial⟩
    | succ i =>
      rw [List.getElem?_cons_succ] at hx ⊢
      by_cases q : i < ds.length
      · rw [List.getElem?_append_left (by rw [List.length_map]; exact q), List.getElem?_map] at hx
        rw [List.getElem?_append_left (by rw [List.length_map, ← hl]; exact q), List.getElem?_map]
        cases e : ds[i]? with
        | none => rw [e] at hx; cases hx
        | some d =>
          rw [e] at hx; cases hx
          obtain ⟨v, h1, h2⟩ := r.get e
          rw [h1]
          exact ⟨_, rfl, v, rfl, h2.to f⟩
      · rw [List.getElem?_append_right (by rw [List.length_map]; omega), List.length_map] at hx
        rw [List.getElem?_append_right (by rw [List.length_map, ← hl]; omega), List.length_map]
        rw [List.getElem?_replicate] at hx ⊢
        rw [← hl]
        split at hx
        · rename_i hi
          rw [if_pos hi]
          cases hx
          exact ⟨_, rfl, trivial⟩
        · cases hx
  · exfalso
    have hm := List.mem_of_getElem? h
    unfold startI at hm
    rcases List.mem_cons.mp hm with hm | hm
    · cases hm
    · rcases List.mem_append.mp hm with hm | hm
      · obtain ⟨d, _, e⟩ := List.mem_map.mp hm; cases e
      · have := (List.mem_replicate.mp hm).2; cases this
section
variable {P : Program} {w : World} {K : Frag} {mg : Str → Option Value} {base : Heap} {C : LC} {B newId initId : String} {bmB : List Value} {k : Nat} {f cc cda Ca : Addr} {name qual : Str} {params : Arguments} {rest : List Stmt} {scope : Scope} {N ps : List Str} {p0 p1 p2 p3 p4 : Pos} {e0 : Expr} {sup : G → M (List D)} {l : List (Str × (G → M D))} {pl : Sem Bool}
abbrev supBody (e0 : Expr) (p0 p1 p2 p3 p4 : Pos) (rest : List Stmt) : List Stmt := .Expr (.Call (.Attribute (.Call (.Name "super" p0) [] [] p1) "__init__" p2) [e0] [] p3) p4 :: rest
theorem ok_init {dV kV doc pm ct oc : Value} {an od : Option Addr} {osl : Array (Option Value)} (EB : ExB B newId initId bmB) (T : XC K B newId bmB Ca)
    (lk : K.lookup f = some ⟨oc, od, .func (PySem.W.fnX name qual params (supBody e0 p0 p1 p2 p3 p4 rest) scope [(("__class__" : Str), cc)] dV kV doc pm an (.ref cda) ct), osl⟩) (hcd : PySem.W.codeIn K (.ref cda) qual = true)
    (SF : SupF P K mg f (PySem.W.fnX name qual params (supBody e0 p0 p1 p2 p3 p4 rest) scope [(("__class__" : Str), cc)] dV kV doc pm an (.ref cda) ct) cda cc Ca "self") (S : NScope N ps ["__class__"] scope)
    (hks : scope.names.lookup ("super" : Str) = some .globalImplicit) (hkc : scope.names.lookup ("__class__" : Str) = some .free) (hka : scope.names.lookup ("self" : Str) = some .local) (htop : (P.main.scope.names.lookup ("super" : Str)).isSome = false) (hboot : bootBuiltins "super" = some (.type "super"))
    (hN : N[0]? = some ("self" : Str)) (hps : 1 ≤ ps.length) (hsi : PySem.W.ks_superIn K Ca Ca "__init__" = some (some (.builtin initId))) (hDC : PySem.W.mroIn K Ca (.ref Ca) = some true)
    (hsup : ∀ E, DA C (XN P w K mg base N k (nfS name qual params (supBody e0 p0 p1 p2 p3 p4 rest) scope cc cda) f E) W0 [e0] sup) (hf : ∀ E, DF C (XN P w K mg base N k (nfS name qual params (supBody e0 p0 p1 p2 p3 p4 rest) scope cc cda) f E) Ca rest l)
    (he : ∀ E i, eval (.Call (.Attribute (.Call (.Name "super" p0) [] [] p1) "__init__" p2) [e0] [] p3) (XN P w K mg base N k (nfS name qual params (supBody e0 p0 p1 p2 p3 p4 rest) scope cc cda) f E i).env = (do
      let ov ← attributeBase (.Call (.Name "super" p0) [] [] p1) "__init__" (XN P w K mg base N k (nfS name qual params (supBody e0 p0 p1 p2 p3 p4 rest) scope cc cda) f E i).env (eval (.Call (.Name "super" p0) [] [] p1) (XN P w K mg base N k (nfS name qual params (supBody e0 p0 p1 p2 p3 p4 rest) scope cc cda) f E i).env)
      standAt p2.atName
      let (f', first) ← holding [ov] (getMethod ov "__init__" pl)
      callWith p3 f' first (backTo p3 (starEach [e0] (XN P w K mg base N k (nfS name qual params (supBody e0 p0 p1 p2 p3 p4 rest) scope cc cda) f E i).env)) []) := by intro _ _; rfl)
    (hst : ∀ E i, starEach [e0] (XN P w K mg base N k (nfS name qual params (supBody e0 p0 p1 p2 p3 p4 rest) scope cc cda) f E i).env = (false, eval e0 (XN P w K mg base N k (nfS name qual params (supBody e0 p0 p1 p2 p3 p4 rest) scope cc cda) f E i).env) :: starEach [] (XN P w K mg base N k (nfS name qual params (supBody e0 p0 p1 p2 p3 p4 rest) scope cc cda) f E i).env := by intro _ _; rfl)
    (hint : ∀ E i, interactive (XN P w K mg base N k (nfS name qual params (supBody e0 p0 p1 p2 p3 p4 rest) scope cc cda) f E i).env = false := by intro _ _; rfl)
    (hsw : ∀ E i, swapsWith (.Call (.Attribute (.Call (.Name "super" p0) [] [] p1) "__init__" p2) [e0] [] p3) none p4.line (XN P w K mg base N k (nfS name qual params (supBody e0 p0 p1 p2 p3 p4 rest) scope cc cda) f E i).env = pure false := by intro _ _; rfl) :
    FnOk P w K mg base (L2.CX P w) (k + 1) f (PySem.W.fnX name qual params (supBody e0 p0 p1 p2 p3 p4 rest) scope [(("__class__" : Str), cc)] dV kV doc pm an (.ref cda) ct) ps (spI C Ca (ps.length - 1) (initF N.length sup l)) := by
  have hpl : ps.length + 1 ≤ N.length := by
    have q := congrArg List.length S.pre
    rw [List.length_take, List.length_append] at q
    simp only [List.length_cons, List.length_nil] at q
    omega
  refine fnS_of lk hcd SF.cell S (fun vs H Q E ⟨w0, S, ds, a, args, e1, _, _, _, r, hl, _⟩ => by rw [e1, List.length_cons, ← r.length, hl]; omega) fun A outer s H vs Q E hr hsp => ?_
  obtain ⟨w0, S0, ds, a, args, rfl, k0, na, rfl, r, hl, h⟩ := hsp
  obtain ⟨ta, pa, ea⟩ := hsup E
  obtain ⟨ts, pt, et⟩ := hf E
  refine ⟨_, psa_super EB T SF rfl rfl rfl hks hkc hka htop hboot hN hDC hsi (pa ⟨A, outer, s, _, hr⟩) (psa_of (pt ⟨A, outer, s, _, hr⟩)) (hint E ⟨A, outer, s, _, hr⟩) (hsw E ⟨A, outer, s, _, hr⟩) (he E ⟨A, outer, s, _, hr⟩) (hst E ⟨A, outer, s, _, hr⟩) rfl, ?_⟩
  have f0 : From w0 ⟨w0.mu, w0.H0, upd w0.H a (exo a Ca none)⟩ := From.new na
  have kA : Wd.ok C S0 ⟨w0.mu, w0.H0, upd w0.H a (exo a Ca none)⟩ := k0.new na
  have h0 : (startF N (.ref a :: args) [none])[0]? = some (some (.ref a)) := by simp [startF]
  have rg := startI_rep (a := a) (N := N) f0 (by rw [← r.length, hl]; omega) r
  have x0 : ExSt C w0 ⟨w0.mu, w0.H0, upd w0.H a (exo a Ca none)⟩ a Ca [] := ⟨k0.none0 na, k0.nmu na, na, .inl ⟨rfl, upd_same⟩⟩
  refine ⟨a, h0, upd_same, ?_⟩
  refine ea w0 (startI N.length ds) _ ⟨w0.mu, w0.H0, upd w0.H a (exo a Ca none)⟩ S0 _ kA f0 rg (post_K0W (post_mono (post_nox (post_bind.mp h)) (fun xs S1 y us w1 f1 k1 rv => ?_) fun _ _ z => z))
  split at y
  case isFalse => exact y.elim
  rename_i hx
  have x1 := x0.to f1
  have hw1 : w1.H a = some (exo a Ca none) := by
    rcases x1.st with ⟨_, z⟩ | ⟨d, us, _, _, _, _, _, _, z⟩
    · exact z
    · rename_i z1 _ _ _ _ _
      obtain ⟨k1', _, _⟩ := f1.fr a _ upd_same x0.h0 x0.m0 (fun _ => exo_tbl)
      exact k1'
  refine ⟨by rw [← rv.length]; exact hx, hw1, ?_⟩
  exact et w0 (startI N.length ds) _ w1 S1 _ a [] k1 (f0.trans f1) (rg.to f1) h0 x1 (post_mono y (fun fs S2 q w' f' k' x' => q w' f' k' x') fun _ _ z => z)
end
section
variable {ι : Type} {C : LC} {X : ι → Cx} {W : WX} {e o : Expr} {es : List Expr} {pos p : Pos} {B newId initId : String} {bmB : List Value} {ma : G → M D}
def mexc (c : Str) (n : Nat) (F : List D → M (List (Str × D))) (m : G → M (List D)) : G → M D := fun g => DL.bind (m g) fun ds => if ds.length = n ∧ n ≤ 900 then nox (DL.bind (F ds) fun fs => ret (.exc c fs)) else stuck
theorem ev_exc {c : Str} {n : Nat} {F : List D → M (List (Str × D))} {ta : TA} {m : G → M (List D)} (ea : EvL C W ta m) : EvD C W (tMkV (He.ga C.K c) (spI C (He.ga C.K c) n F) ta) (mexc c n F m) := fun e g s w S Q k f r z => by
  refine ea e g s w S _ k f r (post_mono (post_bind.mp z) (fun ds S1 y vs w1 f1 k1 rv => ?_) fun _ _ x => x)
  split at y
  case isFalse => exact y.elim
  rename_i hl
  refine ⟨by rw [← rv.length]; omega, fun a na => ⟨w1, S1, ds, a, vs, rfl, k1, na, rfl, rv, hl.1, ?_⟩⟩
  refine post_mono (post_bind.mp (post_nox y)) (fun fs S2 q w2 f2 k2 x2 => ⟨rfl, ?_⟩) fun _ _ z => z
  obtain ⟨H0', f3, k3, r3⟩ := freezeX f2 k2 x2
  exact (show KD C w Q (.exc c fs) S2 from q) (.ref a) ⟨w2.mu, H0', w2.H⟩ (f1.trans f3) k3 r3
theorem de_exc {c x : Str} {n k : Nat} {fI : Addr} {fd : FuncData} {ps : List Str} {F : List D → M (List (Str × D))} {m : G → M (List D)} (EB : ExB B newId initId bmB) (T : ∀ i, XC (X i).K B newId bmB (He.ga C.K c)) (iC : ∀ i, findIn (X i).K (.ref (He.ga C.K c)) "__init__" = some (some (.ref fI))) (tI : ∀ i, typeIn (X i).K (.ref fI) = some (.type "function"))
    (hF : ∀ i, FnOk (X i).prog (X i).w (X i).K (X i).mg (X i).base (L2.CX (X i).prog (X i).w) k fI fd ps (spI C (He.ga C.K c) n F)) (hr : ∀ i, Room (k + 1) (X i).A) (hb : ∀ i, Binds (X i).K fd ps []) (hg : ∀ i, Gl (X i) x) (hm : ∀ i, (X i).mg x = some (.ref (He.ga C.K c))) (ha : DA C X W (e :: es) m)
    (hdb : (x == ("__debug__" : Str)) = false := by decide) (he : ∀ i, starEach (e :: es) (X i).env = (false, eval e (X i).env) :: starEach es (X i).env := by exact fun _ => rfl) (hpl : ∀ i, (backTo pos (starEach es (X i).env)).any (·.1) = false := by exact fun _ => rfl) :
    DE C X W (.Call (.Name x p) (e :: es) [] pos) (mexc c n F m) := by
  obtain ⟨ta, pa, ea⟩ := ha
  exact ⟨_, fun i => pe_mkx EB (T i) (iC i) (tI i) (hF i) (hr i) (hb i) (hg i) (hm i) (pa i) hdb (he i) (hpl i), ev_exc ea⟩
theorem de_exc0 {c x : Str} {k : Nat} {fI : Addr} {fd : FuncData} {ps : List Str} {F : List D → M (List (Str × D))} (EB : ExB B newId initId bmB) (T : ∀ i, XC (X i).K B newId bmB (He.ga C.K c)) (iC : ∀ i, findIn (X i).K (.ref (He.ga C.K c)) "__init__" = some (some (.ref fI))) (tI : ∀ i, typeIn (X i).K (.ref fI) = some (.type "function"))
    (hF : ∀ i, FnOk (X i).prog (X i).w (X i).K (X i).mg (X i).base (L2.CX (X i).prog (X i).w) k fI fd ps (spI C (He.ga C.K c) 0 F)) (hr : ∀ i, Room (k + 1) (X i).A) (hb : ∀ i, Binds (X i).K fd ps []) (hg : ∀ i, Gl (X i) x) (hm : ∀ i, (X i).mg x = some (.ref (He.ga C.K c)))
    (hdb : (x == ("__debug__" : Str)) = false := by decide) :
    DE C X W (.Call (.Name x p) [] [] pos) (mexc c 0 F (fun _ => ret [])) :=
  ⟨_, fun i => pe_mkx0 EB (T i) (iC i) (tI i) (hF i) (hr i) (hb i) (hg i) (hm i) hdb, ev_exc (ta := tNil) (m := fun _ => ret []) fun e g s w S Q k f r p => p [] w (From.refl w) k (by simp only [RepL])⟩
end
end DX
end

section
namespace DX
open PySem PySem.Spec PyProof.Rows L2 NdefX DL Evl
open PySem.W (Frag excInitIn excOver findIn subIn typeIn keepIn hasDictIn takerIn clsIn)
/-! ### e.f -/
/-- what a class must say for its instances' own attributes to be read -/
structure XA (K : Frag) (C : Addr) (n : Str) : Prop where
  ga : findIn K (.ref C) "__getattribute__" = some (some (.builtin "BaseException.__getattribute__"))
  gg : findIn K (.ref C) "__getattr__" = some none
  exC : subIn K (.ref C) (.type "BaseException") = some true
  hd : hasDictIn K C = true
  no : findIn K (.ref C) n = some none
def xaB (K : Frag) (C : Addr) (n : Str) : Bool := decide (findIn K (.ref C) "__getattribute__" = some (some (.builtin "BaseException.__getattribute__"))) && (decide (findIn K (.ref C) "__getattr__" = some none) && (decide (subIn K (.ref C) (.type "BaseException") = some true) && (hasDictIn K C && decide (findIn K (.ref C) n = some none))))
theorem xaB_ok {K : Frag} {C : Addr} {n : Str} (h : xaB K C n = true) : XA K C n := by
  unfold xaB at h
  simp only [Bool.and_eq_true, decide_eq_true_eq] at h
  obtain ⟨h1, h2, h3, h4, h5⟩ := h
  exact ⟨h1, h2, h3, h4, h5⟩
def tXat (K : Frag) (n : Str) (te : TE) : TE := fun σ H Q => te σ H fun x H1 => ∃ (a C d : Addr) (us : List (Str × V)) (v : V), x = .ref a ∧ XA K C n ∧ H1 a = some (exo a C (some d)) ∧ H1 d = some (exd d us) ∧ us.lookup n = some v ∧ Q v H1
theorem pe_xat {X : Cx} {e : Expr} {te : TE} {n : Str} {pos : Pos} (he : PE X e te) (hb : attributeBase e n X.env (eval e X.env) = eval e X.env := by rfl) : PE X (.Attribute e n pos) (tXat X.K n te) := by
  refine ⟨fun pins s σ H Q I h => ?_⟩
  refine attr_of hb (thn (he.run pins s σ H _ I h) fun u s1 ⟨x, H1, I1, rx, a, C, d, us, v, ex, T, ea, ed, l, q⟩ => ?_)
  subst ex
  obtain rfl : u = Value.ref a := rx
  obtain ⟨t1, ho⟩ := exo_at I1.hok ea
  obtain ⟨mA, hns, hr⟩ := exd_at I1.hok ed
  obtain ⟨od, hod, hl⟩ := lookIn_ns hns
  obtain ⟨u, hu, ru⟩ := RelO.some_of (v := v) (o := mA n) (by rw [← l]; exact hr n)
  have J : PySem.W.InstAt s1.heap a ({ cls := .ref C, dict := some d, data := .fields #[.ref t1, .none, .none, .none, .bool false, .none] } : Obj) C (some od) := ⟨ho, rfl, rfl, hod⟩
  exact HandSPX.exc_get I1.kIn J T.ga T.gg T.exC (PySem.W.findObj_own T.hd T.no rfl (by rw [hl, hu])) (handed_of ru) ⟨v, H1, I1.tok _, ru, q⟩
section
variable {ι : Type} {C : LC} {X : ι → Cx} {W : WX} {e o : Expr} {es : List Expr} {pos p : Pos} {ma : G → M D}
def vXat (cs : List Str) (n : Str) : D → M D
  | .exc c fs => if c ∈ cs then match fs.lookup n with
    | some d => ret d
    | none => stuck else stuck
  | _ => stuck
theorem lkp {α : Type} (f g : Str) (y : α) (fs : List (Str × α)) : ((f, y) :: fs).lookup g = if g = f then some y else fs.lookup g := by
  by_cases h : g = f
  · subst h
    simp [List.lookup]
  · have e : (g == f) = false := by simpa using h
    rw [if_neg h]
    simp [List.lookup, e]
theorem RepF.get {mu : List Addr} {H : Hp} {n : Str} {d : D} : ∀ {fs : List (Str × D)} {us : List (Str × V)}, RepF C mu H fs us → fs.lookup n = some d → ∃ v, us.lookup n = some v ∧ Rep C mu H d v
  | [], us, r, h => by cases h
  | (k, d') :: fs, us, r, h => by
    simp only [RepF] at r
    obtain ⟨v, us', rfl, r1, r2⟩ := r
    rw [lkp] at h ⊢
    by_cases q : n = k
    · rw [if_pos q] at h ⊢
      cases h
      exact ⟨v, rfl, r1⟩
    · rw [if_neg q] at h ⊢
      exact RepF.get r2 h
theorem de_xat {n : Str} {cs : List Str} (ha : DE C X W e ma) (hcs : ∀ c ∈ cs, XA C.K (He.ga C.K c) n) (hK : ∀ i, (X i).K = C.K := by exact fun _ => rfl) (hb : ∀ i, attributeBase e n (X i).env (eval e (X i).env) = eval e (X i).env := by exact fun _ => rfl) :
    DE C X W (.Attribute e n pos) (fun g => DL.bind (ma g) fun d => nox (vXat cs n d)) := by
  obtain ⟨te, pe, ee⟩ := ha
  refine ⟨tXat C.K n te, fun i => by have h := pe_xat (pos := pos) (n := n) (pe i) (hb i); rw [hK i] at h; exact h, fun e g s w S Q k f r z => ?_⟩
  refine ee e g s w S _ k f r (post_mono (post_bind.mp z) (fun d S1 y v w1 f1 k1 rv => ?_) fun _ _ x => x)
  have y := post_nox y
  unfold vXat at y
  split at y
  case h_2 => exact y.elim
  rename_i c fs _y0
  split at y
  case isFalse => exact y.elim
  rename_i hc
  cases hl : fs.lookup n with
  | none => rw [hl] at y; exact y.elim
  | some d' =>
    rw [hl] at y
    simp only [Rep] at rv
    obtain ⟨a, rfl, h⟩ := rv
    rcases h with ⟨h1, _⟩ | ⟨dd, us, h1, h2, h3⟩
    · subst h1; cases hl
    · obtain ⟨v', l', r'⟩ := RepF.get h3 hl
      exact ⟨a, _, dd, us, v', rfl, hcs c hc, k1.ex _ _ h1, k1.ex _ _ h2, l', y v' w1 f1 k1 r'⟩
/-! ### isinstance(e, T) -/
structure XI (K : Frag) (C : Addr) : Prop where
  cl : (clsIn K C).isSome = true
  ga : findIn K (.ref C) "__getattribute__" = some (some (.builtin "BaseException.__getattribute__"))
  gg : findIn K (.ref C) "__getattr__" = some none
  exC : subIn K (.ref C) (.type "BaseException") = some true
  ha : findIn K (.ref C) "__class__" = some (some (.builtin "object.__class__"))
  hn : PySem.W.specialIn K (.builtin "object.__class__") "__get__" = some (some (.builtin "getset_descriptor.__get__"))
  ht : PySem.W.takesIn K (.builtin "object.__class__") = some true
  hm : PySem.W.mroIn K C (.type "object") = some true
def xiB (K : Frag) (C : Addr) : Bool := (clsIn K C).isSome && (decide (findIn K (.ref C) "__getattribute__" = some (some (.builtin "BaseException.__getattribute__"))) && (decide (findIn K (.ref C) "__getattr__" = some none) && (decide (subIn K (.ref C) (.type "BaseException") = some true) &&
  (decide (findIn K (.ref C) "__class__" = some (some (.builtin "object.__class__"))) && (decide (PySem.W.specialIn K (.builtin "object.__class__") "__get__" = some (some (.builtin "getset_descriptor.__get__"))) && (decide (PySem.W.takesIn K (.builtin "object.__class__") = some true) && decide (PySem.W.mroIn K C (.type "object") = some true)))))))
theorem xiB_ok {K : Frag} {C : Addr} (h : xiB K C = true) : XI K C := by
  unfold xiB at h
  simp only [Bool.and_eq_true, decide_eq_true_eq] at h
  obtain ⟨h1, h2, h3, h4, h5, h6, h7, h8⟩ := h
  exact ⟨h1, h2, h3, h4, h5, h6, h7, h8⟩
def rIsX (K : Frag) : List V → Hp → VK → Prop := fun xs H Q => ∃ (a C : Addr) (c : V) (u : Value) (b : Bool), xs = [.ref a, c] ∧ (H a = some (exo a C none) ∨ ∃ d us, H a = some (exo a C (some d)) ∧ H d = some (exd d us)) ∧ XI K C ∧ ClsV c u ∧ PySem.W.kitOne K (.ref C) u = some b ∧ Q (.bl b) H
theorem call_isX {X : Cx} : CallR X (.builtin "isinstance") (rIsX X.K) := by
  intro pins s σ H xs us Q I r h
  obtain ⟨a, C, c, u, b, rfl, he, T, k, e, q⟩ := h
  obtain ⟨u1, u2, rfl, r1, r2⟩ := vals2 r
  have e2 := k.eq r2
  subst e2
  obtain rfl : u1 = Value.ref a := r1
  have kit := fun {ox : Obj} {od : Option Obj} => PySem.W.kitx_exc (x := a) (ox := ox) (od := od) T.cl T.ga T.gg T.exC T.ha T.hn T.ht T.hm
  rcases he with he | ⟨d, us, he, hd⟩
  · obtain ⟨t1, ho⟩ := exo_at I.hok he
    have J : PySem.W.InstAt s.heap a ({ cls := .ref C, dict := none, data := .fields #[.ref t1, .none, .none, .none, .bool false, .none] } : Obj) C none := ⟨ho, rfl, rfl, trivial⟩
    exact PySem.W.kia_one kit I.kIn J e (fun z => nomatch z) fun tk => ⟨.bl b, H, I.tok tk, rfl, q⟩
  · obtain ⟨t1, ho⟩ := exo_at I.hok he
    obtain ⟨mA, hns, hr⟩ := exd_at I.hok hd
    obtain ⟨od, hod, hl⟩ := lookIn_ns hns
    have J : PySem.W.InstAt s.heap a ({ cls := .ref C, dict := some d, data := .fields #[.ref t1, .none, .none, .none, .bool false, .none] } : Obj) C (some od) := ⟨ho, rfl, rfl, hod⟩
    exact PySem.W.kia_one kit I.kIn J e (fun z => nomatch z) fun tk => ⟨.bl b, H, I.tok tk, rfl, q⟩
/-- the answers: by the class's name -/
def vIsX (t : Str → Option Bool) : D → M D
  | .exc c _ => match t c with
    | some b => ret (.bl b)
    | none => stuck
  | _ => stuck
theorem de_isX {a b : Expr} {t : Str → Option Bool} {cv : V} {uv : Value} (hcv : ClsV cv uv) (ht : ∀ c b, t c = some b → XI C.K (He.ga C.K c) ∧ PySem.W.kitOne C.K (.ref (He.ga C.K c)) uv = some b) (hg : ∀ i, Gl (X i) "isinstance") (hm : ∀ i, (X i).mg "isinstance" = none)
    (ha : DE C X W a ma) (hb : ∀ i, PE (X i) b (tC cv)) (hK : ∀ i, (X i).K = C.K := by exact fun _ => rfl) (he : ∀ i, starEach [a, b] (X i).env = (false, eval a (X i).env) :: starEach [b] (X i).env := by exact fun _ => rfl) (hs2 : ∀ i, starEach [b] (X i).env = (false, eval b (X i).env) :: starEach [] (X i).env := by exact fun _ => rfl)
    (hpl : ∀ i, (backTo pos (starEach [b] (X i).env)).any (·.1) = false := by exact fun _ => rfl) :
    DE C X W (.Call (.Name "isinstance" p) [a, b] [] pos) (fun g => DL.bind (ma g) fun d => nox (vIsX t d)) := by
  obtain ⟨te, pe, ee⟩ := ha
  refine ⟨tCB (rIsX C.K) (tCons te (tCons (tC cv) tNil)), fun i => pe_callB (by have h := call_isX (X := X i); rw [hK i] at h; exact h) (hg i) (hm i) PyProof.Rows.boot_isinstance (pa_cons (pe i) (pa_cons (hb i) pa_nil (hs2 i)) (he i)) (by decide) (by decide) (he i) (hpl i), fun e g s w S Q k f r z => ?_⟩
  refine ee e g s w S _ k f r (post_mono (post_bind.mp z) (fun d S1 y v w1 f1 k1 rv => ?_) fun _ _ x => x)
  have y := post_nox y
  unfold vIsX at y
  split at y
  case h_2 => exact y.elim
  rename_i c fs _y0
  simp only [Rep] at rv
  obtain ⟨a, rfl, h⟩ := rv
  cases hb : t c with
  | none => rw [hb] at y; exact y.elim
  | some b =>
    rw [hb] at y
    obtain ⟨x1, x2⟩ := ht c b hb
    refine ⟨a, _, cv, uv, b, rfl, ?_, x1, hcv, x2, (show KD C w Q (.bl b) S1 from y) _ w1 f1 k1 (by simp only [Rep])⟩
    rcases h with ⟨_, h⟩ | ⟨dd, us, h1, h2, _⟩
    · exact .inl (k1.ex _ _ h)
    · exact .inr ⟨dd, us, k1.ex _ _ h1, k1.ex _ _ h2⟩
end
end DX
end

section
namespace DX
open PySem PySem.Spec PyProof.Rows L2 NdefX DL Evl He
open PySem.W (Frag excInitIn excOver findIn subIn typeIn keepIn hasDictIn takerIn clsIn)
/-! ### the Hook, with defs that captured __class__ and any further looks -/
def asX (g : Addr → Option Obj) : Nat → List Addr
  | 0 => [mainGlobals, cStatics]
  | n + 1 => growD g (asX g n)
abbrev FnC : Type := Option (Str × Str × Arguments × FuncBody × Scope × Addr × List Str × Addr)
def fnC (K : Frag) (p : Str × Option Str) : FnC := match K.lookup (fAd K p) with
  | some ⟨_, _, .func fd, _⟩ => some (fd.name, fd.qualname, fd.params, fd.body, fd.scope, fd.globals, fd.closure.map (·.1), fd.builtins)
  | _ => none
def valC (d : DefD) : FnC := some (d.name, d.qual, d.params, .stmts d.body, d.scope, mainGlobals, ["__class__"], builtinsNs)
abbrev AlX : Type := Bool × List FnW × List FnC
def obsX (fa : List Fa) (fn fc : List DefD) (fx : Frag → Bool) (K : Frag) : AlX := ((fa.all fun f => f.ok K) && (fn.all (fun d => d.ok K) && fx K), fn.map fun d => fnW K d.at_, fc.map fun d => fnC K d.at_)
def valX (fn fc : List DefD) : AlX := (true, fn.map DefD.val, fc.map valC)
def SaysX (fa : List Fa) (fn fc : List DefD) (fx : Frag → Bool) (K : Frag) : Prop := obsX fa fn fc fx K = valX fn fc
def obsXG (n : Nat) (fa : List Fa) (fn fc : List DefD) (fx : Frag → Bool) (g : Addr → Option Obj) : AlX := obsX fa fn fc fx (frG g (asX g n))
def hookX (n : Nat) (fa : List Fa) (fn fc : List DefD) (fx : Frag → Bool) : PySem.W.Hook where
  α := AlX
  obs := fun s => obsXG n fa fn fc fx s.heap.get?
  val := fun _ => valX fn fc
  says := fun _ h => ∃ K : Frag, K.In h ∧ SaysX fa fn fc fx K
  of := fun _ _ e => ⟨_, frG_in, e⟩
  keeps := fun _ _ _ ⟨K, hK, c⟩ k => ⟨K, Frag.In.keeps hK k, c⟩
theorem obsXG_eq {n : Nat} {fa : List Fa} {fn fc : List DefD} {fx : Frag → Bool} {g : Addr → Option Obj} {s : Shared} (h : ∀ a, g a = s.heap.get? a) : obsXG n fa fn fc fx g = (hookX n fa fn fc fx).obs s := by
  have e : g = s.heap.get? := funext h
  rw [e] <;> rfl
section
variable {fa : List Fa} {fn fc : List DefD} {fx : Frag → Bool} {K : Frag}
theorem SaysX.fact (c : SaysX fa fn fc fx K) (i : Nat) {f : Fa} (h : fa[i]? = some f := by rfl) : f.ok K = true := by
  have c1 := (ba (show ((fa.all fun f => f.ok K) && (fn.all (fun d => d.ok K) && fx K)) = true from congrArg (fun z : AlX => z.1) c)).1
  exact List.all_eq_true.mp c1 f (List.mem_of_getElem? h)
theorem SaysX.mem (c : SaysX fa fn fc fx K) {f : Fa} (h : f ∈ fa) : f.ok K = true := by
  have c1 := (ba (show ((fa.all fun f => f.ok K) && (fn.all (fun d => d.ok K) && fx K)) = true from congrArg (fun z : AlX => z.1) c)).1
  exact List.all_eq_true.mp c1 f h
theorem SaysX.more (c : SaysX fa fn fc fx K) : fx K = true :=
  (ba (ba (show ((fa.all fun f => f.ok K) && (fn.all (fun d => d.ok K) && fx K)) = true from congrArg (fun z : AlX => z.1) c)).2).2
theorem SaysX.def_ (c : SaysX fa fn fc fx K) (i : Nat) {d : DefD} (h : fn[i]? = some d := by rfl) : ∃ fd, FunD K d.name d.qual d.params d.body d.scope (d.dvs K) (d.kws K) (fAd K d.at_) fd := by
  have c2 := (ba (ba (show ((fa.all fun f => f.ok K) && (fn.all (fun d => d.ok K) && fx K)) = true from congrArg (fun z : AlX => z.1) c)).2).1
  have e : fn.map (fun d => fnW K d.at_) = fn.map DefD.val := congrArg (fun z : AlX => z.2.1) c
  have e2 : (fn.map fun d => fnW K d.at_)[i]? = (fn.map DefD.val)[i]? := by rw [e]
  rw [List.getElem?_map, List.getElem?_map, h] at e2
  exact DefD.funD (Option.some.inj e2) (List.all_eq_true.mp c2 d (List.mem_of_getElem? h))
theorem SaysX.clo (c : SaysX fa fn fc fx K) (i : Nat) {d : DefD} (h : fc[i]? = some d := by rfl) : fnC K d.at_ = valC d := by
  have e : fc.map (fun d => fnC K d.at_) = fc.map valC := congrArg (fun z : AlX => z.2.2) c
  have e2 : (fc.map fun d => fnC K d.at_)[i]? = (fc.map valC)[i]? := by rw [e]
  rw [List.getElem?_map, List.getElem?_map, h] at e2
  exact Option.some.inj e2
end
/-! ### an exception class with its own __init__ -/
def initB (file : Str) (K : Frag) (B newId initId : String) (bmB : List Value) (c qual : Str) : Bool :=
  xcB K B newId bmB (ga K c) && (decide (findIn K (.ref (ga K c)) "__init__" = some (some (.ref (ma K (ga K c) "__init__")))) && (decide (typeIn K (.ref (ma K (ga K c) "__init__")) = some (.type "function")) &&
  (decide (PySem.W.ks_superIn K (ga K c) (ga K c) "__init__" = some (some (.builtin initId))) && (decide (PySem.W.mroIn K (ga K c) (.ref (ga K c)) = some true) && ((clsIn K (ga K c)).isSome &&
  (match K.lookup (ma K (ga K c) "__init__") with
    | some ⟨_, _, .func fd, _⟩ => PySem.W.codeIn K fd.code qual && (decide (fd.defaults = .none) && ((match fd.code with
      | .ref cda => (match K.lookup cda with
        | some ⟨_, _, .fields vs, _⟩ => (match (vs[2]? : Option Value) with
          | some (.str f _) => file == f
          | _ => false)
        | _ => false)
      | _ => false) && (match fd.closure with
      | [(_, cc)] => (match K.lookup cc with
        | some ⟨_, _, .cell (some (.ref D)), _⟩ => decide (D = ga K c)
        | _ => false)
      | _ => false)))
    | _ => false))))))
/-- what is known of such a class -/
structure InitX (P : Program) (K : Frag) (B newId initId : String) (bmB : List Value) (c : Str) (d : DefD) (f cc cda : Addr) (fd : FuncData) : Prop where
  xc : XC K B newId bmB (ga K c)
  iC : findIn K (.ref (ga K c)) "__init__" = some (some (.ref f))
  tI : typeIn K (.ref f) = some (.type "function")
  si : PySem.W.ks_superIn K (ga K c) (ga K c) "__init__" = some (some (.builtin initId))
  dc : PySem.W.mroIn K (ga K c) (.ref (ga K c)) = some true
  cl : ∃ cd, clsIn K (ga K c) = some cd
  lk : ∃ oc od osl kV doc pm an ct, fd = PySem.W.fnX d.name d.qual d.params d.body d.scope [(("__class__" : Str), cc)] .none kV doc pm an (.ref cda) ct ∧ K.lookup f = some ⟨oc, od, .func fd, osl⟩
  cd : PySem.W.codeIn K (.ref cda) d.qual = true
  code : ∃ ccl cdd vs ccs file tf, K.lookup cda = some ⟨ccl, cdd, .fields vs, ccs⟩ ∧ vs[2]? = some (.str file tf) ∧ ((P.main.file : Str) == file) = true
  cell : ∃ cl cld csl, K.lookup cc = some ⟨cl, cld, .cell (some (.ref (ga K c))), csl⟩
theorem initB_ok {P : Program} {file : Str} (hfile : P.main.file = file) {K : Frag} {B newId initId : String} {bmB : List Value} {c : Str} {d : DefD} (hat : d.at_ = (c, some ("__init__" : Str))) (h : initB file K B newId initId bmB c d.qual = true) (e : fnC K d.at_ = valC d) : ∃ cc cda fd, InitX P K B newId initId bmB c d (ma K (ga K c) "__init__") cc cda fd := by
  unfold initB at h
  obtain ⟨h1, h⟩ := ba h
  obtain ⟨h2, h⟩ := ba h
  obtain ⟨h3, h⟩ := ba h
  obtain ⟨h4, h⟩ := ba h
  obtain ⟨h5, h⟩ := ba h
  obtain ⟨h6, h⟩ := ba h
  rw [hat] at e
  unfold fnC at e
  have efa : fAd K (c, some ("__init__" : Str)) = ma K (ga K c) "__init__" := rfl
  rw [efa] at e
  cases q : K.lookup (ma K (ga K c) "__init__") with
  | none => rw [q] at h; cases h
  | some o =>
    obtain ⟨oc, od, dt, osl⟩ := o
    rw [q] at h e
    cases dt with
    | func fd =>
      have h : (PySem.W.codeIn K fd.code d.qual && (decide (fd.defaults = .none) && ((match fd.code with
        | .ref cda => (match K.lookup cda with
          | some ⟨_, _, .fields vs, _⟩ => (match (vs[2]? : Option Value) with
            | some (.str f _) => file == f
            | _ => false)
          | _ => false)
        | _ => false) && (match fd.closure with
        | [(_, cc)] => (match K.lookup cc with
          | some ⟨_, _, .cell (some (.ref D)), _⟩ => decide (D = ga K c)
          | _ => false)
        | _ => false)))) = true := h
      obtain ⟨k1, h⟩ := ba h
      obtain ⟨k2, h⟩ := ba h
      obtain ⟨k3, k4⟩ := ba h
      have k2' : fd.defaults = .none := of_decide_eq_true k2
      clear k2 h
      have e : (some (fd.name, fd.qualname, fd.params, fd.body, fd.scope, fd.globals, fd.closure.map (·.1), fd.builtins) : FnC) = some (d.name, d.qual, d.params, FuncBody.stmts d.body, d.scope, mainGlobals, [("__class__" : Str)], builtinsNs) := e
      obtain ⟨n1, n2, n3, n4, n5, n6, n7, n8, n9, n10, n11, n12, n13, n14, n15⟩ := fd
      simp only [Option.some.injEq, Prod.mk.injEq] at e
      obtain ⟨g1, g2, g3, g4, g5, g6, g7, g8⟩ := e
      dsimp only at k1 k2' k3 k4
      subst g1 g2 g3 g4 g5 g6 g8 k2'
      cases n13 with
      | ref cda =>
        cases n7 with
        | nil => cases k4
        | cons p r =>
          cases r with
          | cons _ _ => cases k4
          | nil =>
            obtain ⟨y, cc⟩ := p
            simp only [List.map_cons, List.map_nil, List.cons.injEq, and_true] at g7
            subst g7
            refine ⟨cc, cda, _, xcB_ok h1, of_decide_eq_true h2, of_decide_eq_true h3, of_decide_eq_true h4, of_decide_eq_true h5, Option.isSome_iff_exists.mp h6, ⟨oc, od, osl, n9, n10, n11, n12, n14, rfl, q⟩, k1, ?_, ?_⟩
            · dsimp only at k3
              cases q2 : K.lookup cda with
              | none => rw [q2] at k3; cases k3
              | some o2 =>
                obtain ⟨c2, d2, dt2, sl2⟩ := o2
                rw [q2] at k3
                cases dt2 <;> try cases k3
                rename_i vs
                dsimp only at k3
                cases q3 : vs[2]? with
                | none => rw [q3] at k3; cases k3
                | some v3 =>
                  rw [q3] at k3
                  cases v3 <;> try cases k3
                  rename_i f3 t3
                  exact ⟨c2, d2, vs, sl2, f3, t3, rfl, q3, by rw [hfile]; exact k3⟩
            · dsimp only at k4
              cases q2 : K.lookup cc with
              | none => rw [q2] at k4; cases k4
              | some o2 =>
                obtain ⟨c2, d2, dt2, sl2⟩ := o2
                rw [q2] at k4
                cases dt2 <;> try cases k4
                rename_i vo
                cases vo <;> try cases k4
                rename_i v
                cases v <;> try cases k4
                rename_i D
                exact ⟨c2, d2, sl2, by rw [show D = ga K c from of_decide_eq_true k4]⟩
      | _ => cases k3
    | _ => cases h
theorem sOk_repr {s : Str} (h : sOk s) (hl : s.length ≤ 90000) : sOk (reprText s) := by
  have hc : ∀ c ∈ s.cps.toList, c < 0x110000 := fun c hc => by
    have h1 := h.1
    unfold PyData.strOk at h1
    rw [Array.all_eq_true_iff_forall_mem] at h1
    exact of_decide_eq_true (h1 c (by simpa using hc))
  refine ⟨?_, Nat.le_trans (StrLaws.reprText_len s fun c hm => Nat.lt_trans (hc c hm) (by decide)) (by omega)⟩
  have hq : reprQuote s < 0x110000 := by unfold reprQuote; split <;> decide
  have dig : ∀ l : List Char, ∀ x ∈ l.map Char.toNat, x < 0x110000 := fun l x hx => by
    obtain ⟨ch, _, rfl⟩ := List.mem_map.mp hx
    have := ch.valid
    rcases this with h | h
    · exact Nat.lt_trans h (by decide)
    · exact h.2
  have rc : ∀ c, c < 0x110000 → ∀ x ∈ Builtin.Str.reprChar (reprQuote s) c, x < 0x110000 := fun c hcc x hx => by
    unfold Builtin.Str.reprChar at hx
    dsimp only at hx
    repeat' split at hx
    all_goals simp only [List.mem_append, List.mem_cons, List.not_mem_nil, or_false, List.mem_replicate] at hx
    all_goals first
      | omega
      | (rcases hx with hx | hx <;> first | omega | exact dig _ _ hx | (rcases hx with hx | hx <;> first | omega | exact dig _ _ hx | (rcases hx with hx | hx <;> first | omega | exact dig _ _ hx)))
  have fold : ∀ (l : List Nat) (acc : Array Nat), (∀ c ∈ l, c < 0x110000) → (∀ x ∈ acc, x < 0x110000) → ∀ x ∈ l.foldl (fun out c => out ++ (Builtin.Str.reprChar (reprQuote s) c).toArray) acc, x < 0x110000 := by
    intro l
    induction l with
    | nil => intro acc _ ha; exact ha
    | cons c l ih =>
      intro acc hl ha
      rw [List.foldl_cons]
      refine ih _ (fun d hd => hl d (List.mem_cons_of_mem _ hd)) fun x hx => ?_
      rcases Array.mem_append.mp hx with hx | hx
      · exact ha x hx
      · exact rc c (hl c List.mem_cons_self) x (by simpa using hx)
  unfold PyData.strOk
  rw [Array.all_eq_true_iff_forall_mem]
  intro x hx
  unfold reprText at hx
  rcases Array.mem_push.mp hx with hx | hx
  · rw [← Array.foldl_toList] at hx
    exact decide_eq_true (fold _ _ hc (fun y hy => by simp at hy; rw [hy]; exact hq) x hx)
  · rw [hx]; exact decide_eq_true hq
end DX
end

section
namespace DL
open PySem PySem.Spec PyProof.Rows L2 Evl DX
def blkB (N : List Str) (sc scope : Scope) (own : List (Str × Nat)) : Bool :=
  decide (scope.kind = .function) && (scope.names.all (fun y => decide (scope.names.lookup y.1 = some y.2)) && (own.all (fun p => decide (N[p.2]? = some p.1)) && (scope.names.all (fun y => !decide (y.2 = .free) || (decide (sc.names.lookup y.1 = some .cell) || decide (sc.names.lookup y.1 = some .free))) &&
  scope.names.all (fun y => !(decide (y.2 = .local) || decide (y.2 = .cell)) || (decide (y.1 ∈ own.map (·.1)) || decide (y.1 ∉ N))))))
theorem blk_by {N : List Str} {sc scope : Scope} {own : List (Str × Nat)} (h : blkB N sc scope own = true) : BlkOk N sc scope own := by
  unfold blkB at h
  simp only [Bool.and_eq_true, decide_eq_true_eq, List.all_eq_true, Bool.or_eq_true, Bool.not_eq_true', decide_eq_false_iff_not, Bool.or_eq_false_iff] at h
  obtain ⟨h1, h2, h3, h4, h5⟩ := h
  refine ⟨h1, h2, h3, fun y hy e => ?_, fun y hy e => ?_⟩
  · rcases h4 y hy with z | z
    · exact absurd e z
    · exact z
  · rcases h5 y hy with z | z
    · exact absurd e (fun q => q.elim z.1 z.2)
    · exact z
def fscB (N ps : List Str) (sc : Scope) : Bool :=
  decide (sc.kind = .function) && (!sc.isCoroutine && (!sc.isGenerator && (decide N.Nodup && (decide (N.take ps.length = ps) && (ps.all (fun x => decide (sc.names.lookup x = some .local) || decide (sc.names.lookup x = some .cell)) && sc.names.all (fun y => !decide (y.2 = .free)))))))
theorem fsc_by {N ps : List Str} {sc : Scope} (h : fscB N ps sc = true) : FnScope N ps sc := by
  unfold fscB at h
  simp only [Bool.and_eq_true, decide_eq_true_eq, List.all_eq_true, Bool.or_eq_true, Bool.not_eq_true', decide_eq_false_iff_not] at h
  obtain ⟨h1, h2, h3, h4, h5, h6, h7⟩ := h
  exact ⟨h1, h2, h3, h4, h5, h6, h7⟩
theorem hu1 {A : Around} {k : Nat} (r : Room k A) : A.units + 1 < cLine := by have := r.un; omega
theorem hu64 {A : Around} {k : Nat} (r : Room k A) : A.units + 64 < cLine := by have := r.un; omega
theorem hu65 {A : Around} {k : Nat} (r : Room k A) : A.units + 65 < cLine := by have := r.un; omega
section
variable {P : Program} {w : World} {K : PySem.W.Frag} {mg : Str → Option Value} {base : Heap} {C : LC}
theorem fn_okF {x qual : Str} {params : Arguments} {body : List Stmt} {scope : Scope} {f : Addr} {fd : FuncData} {N ps : List Str} {k : Nat} {m : SM} (F : FunD K x qual params body scope [] [] f fd) (S : FnScope N ps scope) (hb : ∀ E, DSs C (XD P w K mg base N k qual scope f E) (WD E) body m) :
    FnOk P w K mg base (L2.CX P w) (k + 1) f fd ps (spD C ps.length (runB m N.length)) :=
  F.ok S (fun vs H Q E ⟨w, S, ds, _, _, r, hl, _⟩ => by rw [← r.length, hl]) fun cdv A outer s H vs Q E hr hsp => by
    obtain ⟨ts, pt, ev⟩ := hb E
    obtain ⟨w0, S0, ds, rfl, k0, r, _, h⟩ := hsp
    exact ⟨ts, pt ⟨cdv, A, outer, s, w0.H, hr⟩, run_post ev k0 r h⟩
end
/-- a def as its callers see it -/
def OkD (P : Program) (w : World) (K : PySem.W.Frag) (mg : Str → Option Value) (base : Heap) (C : LC) (k : Nat) (f : Addr) (ps : List Str) (n : Nat) (F : List D → M DV) : Prop :=
  ∃ fd, FnOk P w K mg base (L2.CX P w) k f fd ps (spD C n F) ∧ Binds K fd ps [] ∧ PySem.W.keepIn K (.ref f) = true
/-- an exception class as its makers see it -/
def OkI (P : Program) (w : World) (K : PySem.W.Frag) (mg : Str → Option Value) (base : Heap) (C : LC) (k : Nat) (B newId : String) (bmB : List Value) (c : Str) (ps : List Str) (n : Nat) (F : List D → M (List (Str × D))) : Prop :=
  ∃ fd, XC K B newId bmB (He.ga K c) ∧ PySem.W.findIn K (.ref (He.ga K c)) "__init__" = some (some (.ref (He.ma K (He.ga K c) "__init__"))) ∧ PySem.W.typeIn K (.ref (He.ma K (He.ga K c) "__init__")) = some (.type "function") ∧
    FnOk P w K mg base (L2.CX P w) k (He.ma K (He.ga K c) "__init__") fd ps (spI C (He.ga K c) n F) ∧ Binds K fd ps []
section
variable {ι : Type} {C : LC} {X : ι → Cx} {W : WX} {a b c e o : Expr} {es : List Expr} {pos p : Pos}
theorem do_callD {k n : Nat} {f : Addr} {ps : List Str} {F : List D → M DV} {x : Str} {m : G → M (List D)} {P : Program} {w : World} {K : PySem.W.Frag} {mg : Str → Option Value} {base : Heap} (hF : OkD P w K mg base C k f ps n F) (hX : ∀ i, (X i).prog = P ∧ (X i).w = w ∧ (X i).K = K ∧ (X i).mg = mg ∧ (X i).base = base) (hr : ∀ i, Room k (X i).A) (hg : ∀ i, Gl (X i) x) (hm : mg x = some (.ref f))
    (hx : Pas X W) (ha : DA C X W (e :: es) m) (hdb : (x == ("__debug__" : Str)) = false := by decide) (he : ∀ i, starEach (e :: es) (X i).env = (false, eval e (X i).env) :: starEach es (X i).env := by exact fun _ => rfl) (hpl : ∀ i, (backTo pos (starEach es (X i).env)).any (·.1) = false := by exact fun _ => rfl) :
    DO C X W (.Call (.Name x p) (e :: es) [] pos) (mfn n F m) := by
  obtain ⟨fd, h1, h2, h3⟩ := hF
  exact do_call (fd := fd) (ps := ps) (fun i => by obtain ⟨rfl, rfl, rfl, rfl, rfl⟩ := hX i; exact h1) hr hg (fun i => by rw [(hX i).2.2.2.1]; exact hm) (fun i => by rw [(hX i).2.2.1]; exact h3) (fun i => by rw [(hX i).2.2.1]; exact h2) hx ha hdb he hpl
theorem do_callD0 {k : Nat} {f : Addr} {ps : List Str} {F : List D → M DV} {x : Str} {P : Program} {w : World} {K : PySem.W.Frag} {mg : Str → Option Value} {base : Heap} (hF : OkD P w K mg base C k f ps 0 F) (hX : ∀ i, (X i).prog = P ∧ (X i).w = w ∧ (X i).K = K ∧ (X i).mg = mg ∧ (X i).base = base) (hr : ∀ i, Room k (X i).A) (hg : ∀ i, Gl (X i) x) (hm : mg x = some (.ref f))
    (hx : Pas X W) (hdb : (x == ("__debug__" : Str)) = false := by decide) : DO C X W (.Call (.Name x p) [] [] pos) (mfn 0 F (fun _ => ret [])) := by
  obtain ⟨fd, h1, h2, h3⟩ := hF
  exact do_call0 (fd := fd) (ps := ps) (fun i => by obtain ⟨rfl, rfl, rfl, rfl, rfl⟩ := hX i; exact h1) hr hg (fun i => by rw [(hX i).2.2.2.1]; exact hm) (fun i => by rw [(hX i).2.2.1]; exact h3) (fun i => by rw [(hX i).2.2.1]; exact h2) hx hdb
theorem de_mk {B newId initId : String} {bmB : List Value} {c : Str} {k n : Nat} {ps : List Str} {F : List D → M (List (Str × D))} {m : G → M (List D)} {P : Program} {w : World} {K : PySem.W.Frag} {mg : Str → Option Value} {base : Heap} (EB : ExB B newId initId bmB) (hF : OkI P w K mg base C k B newId bmB c ps n F) (hK : C.K = K) (hX : ∀ i, (X i).prog = P ∧ (X i).w = w ∧ (X i).K = K ∧ (X i).mg = mg ∧ (X i).base = base)
    (hr : ∀ i, Room (k + 1) (X i).A) (hg : ∀ i, Gl (X i) c) (hm : mg c = some (.ref (He.ga K c))) (ha : DA C X W (e :: es) m)
    (hdb : (c == ("__debug__" : Str)) = false := by decide) (he : ∀ i, starEach (e :: es) (X i).env = (false, eval e (X i).env) :: starEach es (X i).env := by exact fun _ => rfl) (hpl : ∀ i, (backTo pos (starEach es (X i).env)).any (·.1) = false := by exact fun _ => rfl) :
    DE C X W (.Call (.Name c p) (e :: es) [] pos) (mexc c n F m) := by
  subst hK
  obtain ⟨fd, h1, h2, h3, h4, h5⟩ := hF
  exact de_exc (fd := fd) (ps := ps) EB (fun i => by rw [(hX i).2.2.1]; exact h1) (fun i => by rw [(hX i).2.2.1]; exact h2) (fun i => by rw [(hX i).2.2.1]; exact h3) (fun i => by obtain ⟨e1, e2, e3, e4, e5⟩ := hX i; rw [e1, e2, e3, e4, e5]; exact h4) hr (fun i => by rw [(hX i).2.2.1]; exact h5) hg (fun i => by rw [(hX i).2.2.2.1]; exact hm) ha hdb he hpl
theorem de_mk0 {B newId initId : String} {bmB : List Value} {c : Str} {k : Nat} {ps : List Str} {F : List D → M (List (Str × D))} {P : Program} {w : World} {K : PySem.W.Frag} {mg : Str → Option Value} {base : Heap} (EB : ExB B newId initId bmB) (hF : OkI P w K mg base C k B newId bmB c ps 0 F) (hK : C.K = K) (hX : ∀ i, (X i).prog = P ∧ (X i).w = w ∧ (X i).K = K ∧ (X i).mg = mg ∧ (X i).base = base)
    (hr : ∀ i, Room (k + 1) (X i).A) (hg : ∀ i, Gl (X i) c) (hm : mg c = some (.ref (He.ga K c))) (hdb : (c == ("__debug__" : Str)) = false := by decide) : DE C X W (.Call (.Name c p) [] [] pos) (mexc c 0 F (fun _ => ret [])) := by
  subst hK
  obtain ⟨fd, h1, h2, h3, h4, h5⟩ := hF
  exact de_exc0 (fd := fd) (ps := ps) EB (fun i => by rw [(hX i).2.2.1]; exact h1) (fun i => by rw [(hX i).2.2.1]; exact h2) (fun i => by rw [(hX i).2.2.1]; exact h3) (fun i => by obtain ⟨e1, e2, e3, e4, e5⟩ := hX i; rw [e1, e2, e3, e4, e5]; exact h4) hr (fun i => by rw [(hX i).2.2.1]; exact h5) hg (fun i => by rw [(hX i).2.2.2.1]; exact hm) hdb
end
end DL
end

section
namespace DL
open PySem PySem.Spec PyProof.Rows L2 Evl DX
/-! ### evaluation, step by step -/
section
variable {g g1 : G} {S S1 S2 S3 S4 : Store} {α β : Type}
theorem x_bind {m : M α} {k : α → M β} {a : α} {r : Res β} (h : m S = .ok a S1) (h2 : k a S1 = r) : DL.bind m k S = r := by
  unfold DL.bind; rw [h]; exact h2
theorem x_nox {m : M α} {a : α} (h : m S = .ok a S1) : nox m S = .ok a S1 := by unfold nox; rw [h]
theorem x_n2 {f : D → D → M D} {ma mb : G → M D} {x y z : D} (ha : ma g S = .ok x S1) (hb : mb g S1 = .ok y S2) (hf : f x y S2 = .ok z S3) : n2 f ma mb g S = .ok z S3 := x_bind ha (x_bind hb (x_nox hf))
theorem x_m2 {f : D → D → M DV} {ma mb : G → M D} {x y : D} {z : DV} (ha : ma g S = .ok x S1) (hb : mb g S1 = .ok y S2) (hf : f x y S2 = .ok z S3) : m2 f ma mb g S = .ok z S3 := x_bind ha (x_bind hb (x_nox hf))
theorem x_n1 {f : D → M D} {ma : G → M D} {x z : D} (ha : ma g S = .ok x S1) (hf : f x S1 = .ok z S2) : n1 f ma g S = .ok z S2 := x_bind ha (x_nox hf)
theorem x_m1 {f : D → M DV} {ma : G → M D} {x : D} {z : DV} (ha : ma g S = .ok x S1) (hf : f x S1 = .ok z S2) : m1 f ma g S = .ok z S2 := x_bind ha (x_nox hf)
theorem x_dm {m : M DV} {dv : DV} (h : m S = .ok dv S1) : dm m S = .ok dv.d S1 := x_bind h rfl
theorem x_om {m : M D} {d : D} (h : m S = .ok d S1) : om m S = .ok (.sh d) S1 := x_bind h rfl
theorem x_mcons {ma : G → M D} {mr : G → M (List D)} {x : D} {xs : List D} (ha : ma g S = .ok x S1) (hr : mr g S1 = .ok xs S2) : mcons ma mr g S = .ok (x :: xs) S2 := x_bind ha (x_bind hr rfl)
theorem x_mcall {f : List D → M DV} {m : G → M (List D)} {xs : List D} {dv : DV} (ha : m g S = .ok xs S1) (hf : f xs S1 = .ok dv S2) : mcall f m g S = .ok dv S2 := x_bind ha (x_nox hf)
theorem x_mfn {n : Nat} {F : List D → M DV} {m : G → M (List D)} {xs : List D} {r : Res DV} (ha : m g S = .ok xs S1) (hn : xs.length = n) (hf : F xs S1 = r) : mfn n F m g S = r := x_bind ha (by rw [if_pos hn]; exact hf)
theorem x_mlst {m : G → M (List D)} {xs : List D} (ha : m g S = .ok xs S1) (hn : xs.length ≤ 1000000) : mlst m g S = .ok (.ow (.lst xs)) S1 := x_bind ha (by rw [if_pos hn]; rfl)
theorem x_mtup {m : G → M (List D)} {xs : List D} (ha : m g S = .ok xs S1) (hn : xs.length ≤ 1000000) : mtup m g S = .ok (.tup xs) S1 := x_bind ha (by rw [if_pos hn]; rfl)
theorem x_mcell {m : G → M DV} {d : D} (h : m g S = .ok (.ow d) S1) : mcell m g S = .ok (.cell S1.length) (S1 ++ [d]) := x_bind h rfl
theorem x_mul {a b : Int} (h : CMul a b) : vMul (.int a) (.int b) S = .ok (.sh (.int (a * b))) S := by show (if CMul a b then DL.ret (.sh (.int (a * b))) else DL.stuck : M DV) S = _; rw [if_pos h]; rfl
theorem x_mod {a b : Int} (h : 0 < b) : vMod (.int a) (.int b) S = .ok (.int (a % b)) S := by show (if decide (0 < b) = true then DL.ret (.int (a % b)) else DL.stuck : M D) S = _; rw [decide_eq_true h, if_pos rfl]; rfl
theorem x_fdiv {a b : Int} (h : CDiv a b) : vFdiv (.int a) (.int b) S = .ok (.int (a / b)) S := by show (if decide (CDiv a b) = true then DL.ret (.int (a / b)) else DL.stuck : M D) S = _; rw [decide_eq_true h, if_pos rfl]; rfl
theorem x_pow {a b : Int} (h : CPow a b) : vPow (.int a) (.int b) S = .ok (.int (a ^ b.toNat)) S := by show (if decide (CPow a b) = true then DL.ret (.int (a ^ b.toNat)) else DL.stuck : M D) S = _; rw [decide_eq_true h, if_pos rfl]; rfl
theorem x_adds {a b : Str} (h : a.length + b.length ≤ 1000000) : vAdd (.str a) (.str b) S = .ok (.sh (.str (a ++ b))) S := by show (if a.length + b.length ≤ 1000000 then DL.ret (.sh (.str (a ++ b))) else DL.stuck : M DV) S = _; rw [if_pos h]; rfl
theorem x_addl {a b : List D} (h : a.length + b.length ≤ 1000000) : vAdd (.lst a) (.lst b) S = .ok (.ow (.lst (a ++ b))) S := by show (if a.length + b.length ≤ 1000000 then DL.ret (.ow (.lst (a ++ b))) else DL.stuck : M DV) S = _; rw [if_pos h]; rfl
theorem x_tob {m : M D} {b : Bool} (h : m S = .ok (.bl b) S1) : tob m S = .ok b S1 := x_bind h rfl
theorem x_tod {m : M Bool} {b : Bool} (h : m S = .ok b S1) : tod m S = .ok (.bl b) S1 := x_bind h rfl
theorem x_tand_f {a b : G → M Bool} (h : a g S = .ok false S1) : tand a b g S = .ok false S1 := x_bind h rfl
theorem x_tand_t {a b : G → M Bool} {r : Res Bool} (h : a g S = .ok true S1) (h2 : b g S1 = r) : tand a b g S = r := x_bind h h2
theorem x_tor_t {a b : G → M Bool} (h : a g S = .ok true S1) : tor a b g S = .ok true S1 := x_bind h rfl
theorem x_tor_f {a b : G → M Bool} {r : Res Bool} (h : a g S = .ok false S1) (h2 : b g S1 = r) : tor a b g S = r := x_bind h h2
theorem x_tnot {a : G → M Bool} {b : Bool} (h : a g S = .ok b S1) : tnot a g S = .ok (!b) S1 := x_bind h rfl
theorem x_mif_t {t : G → M Bool} {x y : G → M α} {r : Res α} (h : t g S = .ok true S1) (h2 : x g S1 = r) : mif t x y g S = r := x_bind h h2
theorem x_mif_f {t : G → M Bool} {x y : G → M α} {r : Res α} (h : t g S = .ok false S1) (h2 : y g S1 = r) : mif t x y g S = r := x_bind h h2
theorem x_seq {m m' : SM} {r : SRes} (h : m g S = .ok (.nx g1) S1) (h2 : m' g1 S1 = r) : sseq m m' g S = r := by unfold sseq; rw [h]; exact h2
theorem x_seq_r {m m' : SM} {v : DV} (h : m g S = .ok (.rt v) S1) : sseq m m' g S = .ok (.rt v) S1 := by unfold sseq; rw [h]
theorem x_asg {i : Nat} {mo : G → M DV} {dv : DV} (h : mo g S = .ok dv S1) (hg : g.set i dv.slot = g1) : sasg i mo g S = .ok (.nx g1) S1 := by unfold sasg; rw [h]; subst hg; rfl
theorem x_ret {mo : G → M DV} {dv : DV} (h : mo g S = .ok dv S1) : sret mo g S = .ok (.rt dv) S1 := by unfold sret; rw [h]; rfl
theorem x_if_t {t : G → M Bool} {a b : SM} {r : SRes} (h : t g S = .ok true S1) (h2 : a g S1 = r) : sif t a b g S = r := by unfold sif; rw [h]; exact h2
theorem x_if_f {t : G → M Bool} {a b : SM} {r : SRes} (h : t g S = .ok false S1) (h2 : b g S1 = r) : sif t a b g S = r := by unfold sif; rw [h]; exact h2
theorem x_dput {i : Nat} {mk mv : G → M D} {v k dd dd' : D} {pl : Pl} (h : mv g S = .ok v S1) (h0 : hasV i g = true) (h2 : mk g S1 = .ok k S2) (h3 : plc i g S2 = some (pl, dd)) (h4 : dset dd k v = some dd') (hg : pl.putG dd' g = g1) (hS : pl.putS dd' S2 = S3) : sdput i mk mv g S = .ok (.nx g1) S3 := by
  subst hg hS; unfold sdput; rw [h]; unfold ofM; dsimp only; rw [if_pos h0, h2]; dsimp only; rw [h3]; dsimp only; rw [h4]
theorem x_app {i : Nat} {ma : G → M D} {d : D} {pl pl0 : Pl} {xs xs0 : List D} (h0 : plc i g S = some (pl0, .lst xs0)) (h : ma g S = .ok d S1) (h1 : plc i g S1 = some (pl, .lst xs)) (hl : xs.length ≤ 1000000) (hg : pl.putG (.lst (xs ++ [d])) g = g1) (hS : pl.putS (.lst (xs ++ [d])) S1 = S2) : sapp i ma g S = .ok (.nx g1) S2 := by
  subst hg hS; unfold sapp; rw [h0]; dsimp only; rw [h]; unfold ofM; dsimp only; rw [h1]; dsimp only; rw [if_pos hl]
theorem x_for {mi : G → M (List D)} {f : Tgt} {b : SM} {ds : List D} {r : SRes} (h : mi g S = .ok ds S1) (h2 : forGo f b ds g S1 = r) : sfor mi f b g S = r := by unfold sfor; rw [h]; exact h2
theorem x_forn {f : Tgt} {b : SM} : forGo f b [] g S = .ok (.nx g) S := rfl
theorem x_forc {f : Tgt} {b : SM} {d : D} {ds : List D} {g2 : G} {r : SRes} (h : f d g = some g1) (h2 : b g1 S = .ok (.nx g2) S1) (h3 : forGo f b ds g2 S1 = r) : forGo f b (d :: ds) g S = r := by
  show (match f d g with | none => SRes.stuck | some g1 => _) = r
  rw [h]; dsimp only; rw [h2]; exact h3
theorem x_mlc {mi : G → M (List D)} {f : Tgt} {t : G → M Bool} {m : G → M D} {vs : List Nat} {ds ys : List D} (h : mi g S = .ok ds S1) (hl : ds.length ≤ 1000000) (h2 : compGo f t m vs g ds [] S1 = .ok ys S2) : mlc mi f t m vs g S = .ok (.ow (.lst ys)) S2 := by
  refine x_bind h ?_
  rw [if_pos hl]
  exact x_bind h2 rfl
theorem x_compn {f : Tgt} {t : G → M Bool} {m : G → M D} {vs : List Nat} {acc : List D} : compGo f t m vs g [] acc S = .ok acc S := rfl
theorem x_compc {f : Tgt} {t : G → M Bool} {m : G → M D} {vs : List Nat} {d y : D} {ds acc : List D} {r : Res (List D)} (h : f d (wipeG g vs) = some g1) (h1 : t g1 S = .ok true S1) (h2 : m g1 S1 = .ok y S2) (h3 : compGo f t m vs g ds (acc ++ [y]) S2 = r) : compGo f t m vs g (d :: ds) acc S = r := by
  show (match f d (wipeG g vs) with | none => DL.stuck | some g1 => _) S = r
  rw [h]
  exact x_bind (x_nox h1) (x_bind (x_nox h2) h3)
theorem x_compf {f : Tgt} {t : G → M Bool} {m : G → M D} {vs : List Nat} {d : D} {ds acc : List D} {r : Res (List D)} (h : f d (wipeG g vs) = some g1) (h1 : t g1 S = .ok false S1) (h3 : compGo f t m vs g ds acc S1 = r) : compGo f t m vs g (d :: ds) acc S = r := by
  show (match f d (wipeG g vs) with | none => DL.stuck | some g1 => _) S = r
  rw [h]
  exact x_bind (x_nox h1) h3
/-- a comprehension without tests whose elements don't touch the store -/
theorem x_compmap {f : Tgt} {m : G → M D} {vs : List Nat} {F : D → D} : ∀ {ds acc : List D}, (∀ d ∈ ds, ∃ g1, f d (wipeG g vs) = some g1 ∧ m g1 S = .ok (F d) S) → compGo f (fun _ => DL.ret true) m vs g ds acc S = .ok (acc ++ ds.map F) S
  | [], acc, _ => by simp [compGo, DL.ret]
  | d :: ds, acc, h => by
    obtain ⟨g1, h1, h2⟩ := h d List.mem_cons_self
    rw [x_compc h1 rfl h2 (x_compmap fun d hd => h d (List.mem_cons_of_mem _ hd))]
    simp
theorem x_runB {m : SM} {n : Nat} {ds : List D} {v : DV} (h : m (startG n ds) S = .ok (.rt v) S1) : runB m n ds S = .ok v S1 := by unfold runB; rw [h]
theorem x_mexc {c : Str} {n : Nat} {F : List D → M (List (Str × D))} {m : G → M (List D)} {ds : List D} {fs : List (Str × D)} (h : m g S = .ok ds S1) (hn : ds.length = n ∧ n ≤ 900) (hF : F ds S1 = .ok fs S2) : mexc c n F m g S = .ok (.exc c fs) S2 := by
  refine x_bind h ?_
  rw [if_pos hn]
  exact x_nox (x_bind hF rfl)
theorem x_mjn {acc : Str} : mjs acc [] g S = .ok (.str acc) S := rfl
theorem x_mjc {acc y : Str} {m : G → M D} {ms : List (G → M D)} {r : Res D} (h : m g S = .ok (.str y) S1) (hl : acc.length + y.length ≤ 1000000) (h2 : mjs (acc ++ y) ms g S1 = r) : mjs acc (m :: ms) g S = r := by
  refine x_bind h ?_
  show (if acc.length + y.length ≤ 1000000 then mjs (acc ++ y) ms g else DL.stuck) S1 = r
  rw [if_pos hl]; exact h2
theorem slen (a b : Str) : (a ++ b).length = a.length + b.length := by
  show (a.cps ++ b.cps).size = _
  rw [Array.size_append]; rfl
theorem x_fmtR {w : Str} (h : sOk (reprText w)) : vFmtR (.str w) S = .ok (.str (reprText w)) S := by
  show (if sOk (reprText w) then DL.ret (.str (reprText w)) else DL.stuck : M D) S = _
  rw [if_pos h]; rfl
theorem repr_len {w : Str} (h : sOk w) : (reprText w).length ≤ 10 * w.length + 2 := StrLaws.reprText_len w fun c hc => by
  have h1 := h.1
  unfold PyData.strOk at h1
  rw [Array.all_eq_true_iff_forall_mem] at h1
  exact Nat.lt_trans (of_decide_eq_true (h1 c (by simpa using hc))) (by decide)
theorem strOk_of (s : String) : PyData.strOk (Str.ofString s) = true := by
  unfold PyData.strOk
  rw [Array.all_eq_true_iff_forall_mem]
  intro x hx
  have hx : x ∈ (Str.ofString s).cps.toList := by simpa using hx
  have : ∃ c : Char, c.toNat = x := by
    rw [PySem.Str.ofString_eq_toList] at hx
    obtain ⟨c, _, h⟩ := List.mem_map.mp hx
    exact ⟨c, h⟩
  obtain ⟨c, rfl⟩ := this
  refine decide_eq_true ?_
  rcases c.valid with h | h
  · exact Nat.lt_trans h (by decide)
  · exact h.2
theorem digits_len : ∀ (k fuel n : Nat) (ds : List Char), 1 ≤ k → n < 10 ^ k → (Nat.toDigitsCore 10 fuel n ds).length ≤ ds.length + k
  | _, 0, _, ds, _, _ => by simp [Nat.toDigitsCore]
  | k, fuel + 1, n, ds, hk, hn => by
    unfold Nat.toDigitsCore
    by_cases h0 : n / 10 = 0
    · simp only [h0, if_true, List.length_cons]; omega
    · simp only [h0, if_false]
      have hk2 : 2 ≤ k := by
        by_cases h1 : k = 1
        · subst h1; exfalso; apply h0; have : n < 10 := by simpa using hn
          omega
        · omega
      have hn' : n / 10 < 10 ^ (k - 1) := by
        have e : 10 ^ k = 10 ^ (k - 1) * 10 := by rw [← Nat.pow_succ]; congr 1; omega
        rw [e] at hn
        exact Nat.div_lt_of_lt_mul (by rw [Nat.mul_comm]; exact hn)
      have ih := digits_len (k - 1) fuel (n / 10) (Nat.digitChar (n % 10) :: ds) (by omega) hn'
      simp only [List.length_cons] at ih
      omega
theorem int_str {i : Int} (h0 : 0 ≤ i) (h1 : i < 1000000000000) : i.natAbs.log2 < 1920 ∧ sOk (Str.ofString (toString i)) ∧ (Str.ofString (toString i)).length ≤ 12 := by
  obtain ⟨n, rfl⟩ := Int.eq_ofNat_of_zero_le h0
  have hn : n < 10 ^ 12 := by omega
  have hl : (Str.ofString (toString (n : Int))).length ≤ 12 := by
    have e2 : (Str.ofString (toString (n : Int))).length = (Nat.toDigits 10 n).length := by
      have h := congrArg List.length (PySem.W.KIN.signs_num n)
      rw [List.length_map] at h
      rw [← h]; rfl
    rw [e2]
    exact digits_len 12 (n + 1) n [] (by decide) hn
  refine ⟨?_, ⟨strOk_of _, by omega⟩, hl⟩
  by_cases hz : n = 0
  · subst hz; decide
  · have : (n : Int).natAbs = n := rfl
    rw [this, Nat.log2_lt hz]
    exact Nat.lt_of_lt_of_le hn (Nat.le_trans (by decide : 10 ^ 12 ≤ 2 ^ 40) (Nat.pow_le_pow_right (by decide) (by decide)))
theorem x_fmtI {i : Int} (h : i.natAbs.log2 < 1920 ∧ sOk (Str.ofString (toString i))) : vFmt (.int i) S = .ok (.str (Str.ofString (toString i))) S := by
  show (if i.natAbs.log2 < 1920 ∧ sOk (Str.ofString (toString i)) then DL.ret (.str (Str.ofString (toString i))) else DL.stuck : M D) S = _
  rw [if_pos h]; rfl
theorem x_strI {i : Int} (h : i.natAbs.log2 < 1920 ∧ sOk (Str.ofString (toString i))) : bStr (.int i) S = .ok (.sh (.str (Str.ofString (toString i)))) S := by
  show (if i.natAbs.log2 < 1920 ∧ sOk (Str.ofString (toString i)) then DL.ret (.sh (.str (Str.ofString (toString i)))) else DL.stuck : M DV) S = _
  rw [if_pos h]; rfl
end
end DL
end

section
namespace T91
open PySem PySem.Spec PyProof.Rows L2 DX DL
abbrev R : PySem.W.OpenRow := PySem.W.OpenLaw.row PySem.Challenge.rw_farscale_k91_errors
def top (i : Nat) : Stmt := PySem.Challenge.pw_farscale_k91_errors.main.body.getD i (.Pass ⟨0, 0, 0, 0⟩)
def clsBody : Stmt → List Stmt
  | .ClassDef _ _ _ b _ _ _ _ _ _ _ => b
  | _ => []
def iSt (i : Nat) : Stmt := (clsBody (top i)).getD 0 (.Pass ⟨0, 0, 0, 0⟩)
def mkD (n : Str) (i : Nat) : He.DefD := ⟨(n, none), n, n, defArgs (top i), defBody (top i), defScope (top i), [], []⟩
def mkI (c : Str) (i : Nat) : He.DefD := ⟨(c, some "__init__"), "__init__", c ++ ".__init__", defArgs (iSt i), defBody (iSt i), defScope (iSt i), [], []⟩
def fn : List He.DefD := [mkD "_law_source" 28, mkD "_law_pick" 29, mkD "_law_word" 30, mkD "_law_plain" 31, mkD "_law_named" 32, mkD "_law_missing" 33, mkD "_law_classes" 34, mkD "law" 35]
def fc : List He.DefD := [mkI "BadScale" 2, mkI "BadName" 3, mkI "TwiceTold" 4, mkI "BadTable" 5, mkI "NotSame" 6, mkI "NotThrough" 7, mkI "BadPath" 8, mkI "MixedScales" 9, mkI "MixedSpaces" 10, mkI "BadImages" 11, mkI "Stretched" 12, mkI "NotAhead" 13, mkI "NotBehind" 14, mkI "TooMany" 15, mkI "NotClosed" 16, mkI "NotKept" 17, mkI "BarePair" 18, mkI "NotLoose" 19, mkI "NotFitting" 20, mkI "Clash" 21, mkI "NothingDone" 22, mkI "UnknownGrade" 24, mkI "UnknownPoint" 25, mkI "NotTold" 26]
def fa : List He.Fa := ([.glo "FarscaleError", .glo "BadScale", .glo "BadName", .glo "TwiceTold", .glo "BadTable", .glo "NotSame", .glo "NotThrough", .glo "BadPath", .glo "MixedScales", .glo "MixedSpaces", .glo "BadImages", .glo "Stretched", .glo "NotAhead", .glo "NotBehind", .glo "TooMany", .glo "NotClosed", .glo "NotKept", .glo "BarePair", .glo "NotLoose", .glo "NotFitting", .glo "Clash", .glo "NothingDone", .glo "NameMissing", .glo "UnknownGrade", .glo "UnknownPoint", .glo "NotTold", .glo "_law_source", .glo "_law_pick", .glo "_law_word", .glo "_law_plain"] : List He.Fa) ++ ([.glo "_law_named", .glo "_law_missing", .glo "_law_classes", .glo "law", .free "len", .free "range", .free "int", .free "abs", .free "str", .free "list", .free "isinstance", .free "super", .free "ValueError", .free "LookupError", .free "KeyError", .free "IndexError"] : List He.Fa)
def cVE : List Str := ["BadScale", "BadName", "TwiceTold", "BadTable", "NotSame", "NotThrough", "BadPath", "MixedScales", "MixedSpaces", "BadImages", "Stretched", "NotAhead", "NotBehind", "TooMany", "NotClosed", "NotKept", "BarePair", "NotLoose", "NotFitting", "Clash", "NothingDone"]
def cLE : List Str := ["UnknownGrade", "UnknownPoint", "NotTold"]
def cAll : List Str := cVE ++ cLE
def flds : List (Str × Str) := [("BadName", "name"), ("TwiceTold", "name"), ("NotSame", "x"), ("NotThrough", "x"), ("NotThrough", "y"), ("NotThrough", "z"), ("BadPath", "number"), ("Stretched", "x"), ("Stretched", "y"), ("NotAhead", "x"), ("NotAhead", "y"), ("NotAhead", "z"), ("NotBehind", "x"), ("NotBehind", "y"), ("NotBehind", "z"), ("BarePair", "column"), ("BarePair", "row"), ("Clash", "name"), ("Clash", "path"), ("UnknownGrade", "name"), ("UnknownPoint", "name"), ("NotTold", "name")]
def tOwn (t c : Str) : Bool := decide (c = t)
def kitB (K : PySem.W.Frag) (u : Value) (ans : Str → Bool) : Bool := cAll.all fun c => decide (PySem.W.kitOne K (.ref (He.ga K c)) u = some (ans c))
def fx (K : PySem.W.Frag) : Bool :=
  cVE.all (fun c => initB "/claim/cut.py" K "ValueError" "ValueError.__new__" "ValueError.__init__" veT c (c ++ ".__init__")) && (cLE.all (fun c => initB "/claim/cut.py" K "LookupError" "LookupError.__new__" "LookupError.__init__" leT c (c ++ ".__init__")) &&
  (decide (PySem.W.nsIn K cStatics "thirdparty.any" = some none) && (flds.all (fun p => decide (PySem.W.takerIn K (He.ga K p.1) p.2 = some none) && xaB K (He.ga K p.1) p.2) && (cAll.all (fun c => xiB K (He.ga K c)) &&
  (cAll.all (fun t => kitB K (.ref (He.ga K t)) (tOwn t)) && (kitB K (.ref (He.ga K "FarscaleError")) (fun c => decide (c ∈ cVE)) && (kitB K (.ref (He.ga K "NameMissing")) (fun c => decide (c ∈ cLE)) &&
  (kitB K (.type "ValueError") (fun c => decide (c ∈ cVE)) && (kitB K (.type "LookupError") (fun c => decide (c ∈ cLE)) && (kitB K (.type "KeyError") (fun _ => false) && kitB K (.type "IndexError") (fun _ => false)))))))))))
abbrev hk : PySem.W.Hook := hookX 6 fa fn fc fx
def ob (s : PySem.W.SharedT) : AlX := obsXG 6 fa fn fc fx (HandSHeadRun.getT s)
theorem ob_eq (s : PySem.W.SharedT) : ob s = hk.obs s.abs := obsXG_eq (HandSHeadRun.getT_eq s)
def names : List Str := (["FarscaleError", "BadScale", "BadName", "TwiceTold", "BadTable", "NotSame", "NotThrough", "BadPath", "MixedScales", "MixedSpaces", "BadImages", "Stretched", "NotAhead", "NotBehind", "TooMany", "NotClosed", "NotKept", "BarePair", "NotLoose", "NotFitting", "Clash", "NothingDone", "NameMissing", "UnknownGrade", "UnknownPoint", "NotTold", "_law_source", "_law_pick", "_law_word", "_law_plain"] : List Str) ++ (["_law_named", "_law_missing", "_law_classes"] : List Str)
theorem run (w : World) : HandSHeadRun.RunEq R (PySem.W.view R.prog [35]) hk ob 8000 ((["FarscaleError", "BadScale", "BadName", "TwiceTold", "BadTable", "NotSame", "NotThrough", "BadPath", "MixedScales", "MixedSpaces", "BadImages", "Stretched", "NotAhead", "NotBehind", "TooMany", "NotClosed", "NotKept", "BarePair", "NotLoose", "NotFitting", "Clash", "NothingDone", "NameMissing", "UnknownGrade", "UnknownPoint", "NotTold", "_law_source", "_law_pick", "_law_word", "_law_plain"] : List Str) ++ (["_law_named", "_law_missing", "_law_classes"] : List Str)) w := by
  intro os
  kernel_rfl
end T91
end

section
namespace T91
open PySem PySem.Spec PyProof.Rows L2 DX DL NdefX
structure Hyp (P : Program) (K : PySem.W.Frag) (mg : Str → Option Value) (base : Heap) : Prop where
  X : K.In base
  G : base.Ns mainGlobals mg
  c : SaysX fa fn fc fx K
  file : P.main.file = "/claim/cut.py"
  top : (P.main.scope.names.lookup ("super" : Str)).isSome = false
abbrev LCK (K : PySem.W.Frag) : LC := { K := K, lamM := fun _ h => h.elim }
section
variable {P : Program} {K : PySem.W.Frag} {mg : Str → Option Value} {base : Heap}
theorem g_FarscaleError (h : Hyp P K mg base) : mg "FarscaleError" = some (.ref (He.ga K "FarscaleError")) := He.glo_ok h.X h.G (h.c.fact 0 (f := .glo "FarscaleError") rfl)
theorem g_BadScale (h : Hyp P K mg base) : mg "BadScale" = some (.ref (He.ga K "BadScale")) := He.glo_ok h.X h.G (h.c.fact 1 (f := .glo "BadScale") rfl)
theorem g_BadName (h : Hyp P K mg base) : mg "BadName" = some (.ref (He.ga K "BadName")) := He.glo_ok h.X h.G (h.c.fact 2 (f := .glo "BadName") rfl)
theorem g_TwiceTold (h : Hyp P K mg base) : mg "TwiceTold" = some (.ref (He.ga K "TwiceTold")) := He.glo_ok h.X h.G (h.c.fact 3 (f := .glo "TwiceTold") rfl)
theorem g_BadTable (h : Hyp P K mg base) : mg "BadTable" = some (.ref (He.ga K "BadTable")) := He.glo_ok h.X h.G (h.c.fact 4 (f := .glo "BadTable") rfl)
theorem g_NotSame (h : Hyp P K mg base) : mg "NotSame" = some (.ref (He.ga K "NotSame")) := He.glo_ok h.X h.G (h.c.fact 5 (f := .glo "NotSame") rfl)
theorem g_NotThrough (h : Hyp P K mg base) : mg "NotThrough" = some (.ref (He.ga K "NotThrough")) := He.glo_ok h.X h.G (h.c.fact 6 (f := .glo "NotThrough") rfl)
theorem g_BadPath (h : Hyp P K mg base) : mg "BadPath" = some (.ref (He.ga K "BadPath")) := He.glo_ok h.X h.G (h.c.fact 7 (f := .glo "BadPath") rfl)
theorem g_MixedScales (h : Hyp P K mg base) : mg "MixedScales" = some (.ref (He.ga K "MixedScales")) := He.glo_ok h.X h.G (h.c.fact 8 (f := .glo "MixedScales") rfl)
theorem g_MixedSpaces (h : Hyp P K mg base) : mg "MixedSpaces" = some (.ref (He.ga K "MixedSpaces")) := He.glo_ok h.X h.G (h.c.fact 9 (f := .glo "MixedSpaces") rfl)
theorem g_BadImages (h : Hyp P K mg base) : mg "BadImages" = some (.ref (He.ga K "BadImages")) := He.glo_ok h.X h.G (h.c.fact 10 (f := .glo "BadImages") rfl)
theorem g_Stretched (h : Hyp P K mg base) : mg "Stretched" = some (.ref (He.ga K "Stretched")) := He.glo_ok h.X h.G (h.c.fact 11 (f := .glo "Stretched") rfl)
theorem g_NotAhead (h : Hyp P K mg base) : mg "NotAhead" = some (.ref (He.ga K "NotAhead")) := He.glo_ok h.X h.G (h.c.fact 12 (f := .glo "NotAhead") rfl)
theorem g_NotBehind (h : Hyp P K mg base) : mg "NotBehind" = some (.ref (He.ga K "NotBehind")) := He.glo_ok h.X h.G (h.c.fact 13 (f := .glo "NotBehind") rfl)
theorem g_TooMany (h : Hyp P K mg base) : mg "TooMany" = some (.ref (He.ga K "TooMany")) := He.glo_ok h.X h.G (h.c.fact 14 (f := .glo "TooMany") rfl)
theorem g_NotClosed (h : Hyp P K mg base) : mg "NotClosed" = some (.ref (He.ga K "NotClosed")) := He.glo_ok h.X h.G (h.c.fact 15 (f := .glo "NotClosed") rfl)
theorem g_NotKept (h : Hyp P K mg base) : mg "NotKept" = some (.ref (He.ga K "NotKept")) := He.glo_ok h.X h.G (h.c.fact 16 (f := .glo "NotKept") rfl)
theorem g_BarePair (h : Hyp P K mg base) : mg "BarePair" = some (.ref (He.ga K "BarePair")) := He.glo_ok h.X h.G (h.c.fact 17 (f := .glo "BarePair") rfl)
theorem g_NotLoose (h : Hyp P K mg base) : mg "NotLoose" = some (.ref (He.ga K "NotLoose")) := He.glo_ok h.X h.G (h.c.fact 18 (f := .glo "NotLoose") rfl)
theorem g_NotFitting (h : Hyp P K mg base) : mg "NotFitting" = some (.ref (He.ga K "NotFitting")) := He.glo_ok h.X h.G (h.c.fact 19 (f := .glo "NotFitting") rfl)
theorem g_Clash (h : Hyp P K mg base) : mg "Clash" = some (.ref (He.ga K "Clash")) := He.glo_ok h.X h.G (h.c.fact 20 (f := .glo "Clash") rfl)
theorem g_NothingDone (h : Hyp P K mg base) : mg "NothingDone" = some (.ref (He.ga K "NothingDone")) := He.glo_ok h.X h.G (h.c.fact 21 (f := .glo "NothingDone") rfl)
theorem g_NameMissing (h : Hyp P K mg base) : mg "NameMissing" = some (.ref (He.ga K "NameMissing")) := He.glo_ok h.X h.G (h.c.fact 22 (f := .glo "NameMissing") rfl)
theorem g_UnknownGrade (h : Hyp P K mg base) : mg "UnknownGrade" = some (.ref (He.ga K "UnknownGrade")) := He.glo_ok h.X h.G (h.c.fact 23 (f := .glo "UnknownGrade") rfl)
theorem g_UnknownPoint (h : Hyp P K mg base) : mg "UnknownPoint" = some (.ref (He.ga K "UnknownPoint")) := He.glo_ok h.X h.G (h.c.fact 24 (f := .glo "UnknownPoint") rfl)
theorem g_NotTold (h : Hyp P K mg base) : mg "NotTold" = some (.ref (He.ga K "NotTold")) := He.glo_ok h.X h.G (h.c.fact 25 (f := .glo "NotTold") rfl)
theorem g__law_source (h : Hyp P K mg base) : mg "_law_source" = some (.ref (He.ga K "_law_source")) := He.glo_ok h.X h.G (h.c.fact 26 (f := .glo "_law_source") rfl)
theorem g__law_pick (h : Hyp P K mg base) : mg "_law_pick" = some (.ref (He.ga K "_law_pick")) := He.glo_ok h.X h.G (h.c.fact 27 (f := .glo "_law_pick") rfl)
theorem g__law_word (h : Hyp P K mg base) : mg "_law_word" = some (.ref (He.ga K "_law_word")) := He.glo_ok h.X h.G (h.c.fact 28 (f := .glo "_law_word") rfl)
theorem g__law_plain (h : Hyp P K mg base) : mg "_law_plain" = some (.ref (He.ga K "_law_plain")) := He.glo_ok h.X h.G (h.c.fact 29 (f := .glo "_law_plain") rfl)
theorem g__law_named (h : Hyp P K mg base) : mg "_law_named" = some (.ref (He.ga K "_law_named")) := He.glo_ok h.X h.G (h.c.fact 30 (f := .glo "_law_named") rfl)
theorem g__law_missing (h : Hyp P K mg base) : mg "_law_missing" = some (.ref (He.ga K "_law_missing")) := He.glo_ok h.X h.G (h.c.fact 31 (f := .glo "_law_missing") rfl)
theorem g__law_classes (h : Hyp P K mg base) : mg "_law_classes" = some (.ref (He.ga K "_law_classes")) := He.glo_ok h.X h.G (h.c.fact 32 (f := .glo "_law_classes") rfl)
theorem g_law (h : Hyp P K mg base) : mg "law" = some (.ref (He.ga K "law")) := He.glo_ok h.X h.G (h.c.fact 33 (f := .glo "law") rfl)
theorem g_len (h : Hyp P K mg base) : mg "len" = none := He.free_ok h.X h.G (h.c.fact 34 (f := .free "len") rfl)
theorem g_range (h : Hyp P K mg base) : mg "range" = none := He.free_ok h.X h.G (h.c.fact 35 (f := .free "range") rfl)
theorem g_int (h : Hyp P K mg base) : mg "int" = none := He.free_ok h.X h.G (h.c.fact 36 (f := .free "int") rfl)
theorem g_abs (h : Hyp P K mg base) : mg "abs" = none := He.free_ok h.X h.G (h.c.fact 37 (f := .free "abs") rfl)
theorem g_str (h : Hyp P K mg base) : mg "str" = none := He.free_ok h.X h.G (h.c.fact 38 (f := .free "str") rfl)
theorem g_list (h : Hyp P K mg base) : mg "list" = none := He.free_ok h.X h.G (h.c.fact 39 (f := .free "list") rfl)
theorem g_isinstance (h : Hyp P K mg base) : mg "isinstance" = none := He.free_ok h.X h.G (h.c.fact 40 (f := .free "isinstance") rfl)
theorem g_super (h : Hyp P K mg base) : mg "super" = none := He.free_ok h.X h.G (h.c.fact 41 (f := .free "super") rfl)
theorem g_ValueError (h : Hyp P K mg base) : mg "ValueError" = none := He.free_ok h.X h.G (h.c.fact 42 (f := .free "ValueError") rfl)
theorem g_LookupError (h : Hyp P K mg base) : mg "LookupError" = none := He.free_ok h.X h.G (h.c.fact 43 (f := .free "LookupError") rfl)
theorem g_KeyError (h : Hyp P K mg base) : mg "KeyError" = none := He.free_ok h.X h.G (h.c.fact 44 (f := .free "KeyError") rfl)
theorem g_IndexError (h : Hyp P K mg base) : mg "IndexError" = none := He.free_ok h.X h.G (h.c.fact 45 (f := .free "IndexError") rfl)
theorem more (h : Hyp P K mg base) : fx K = true := h.c.more
def tabOf (ans : Str → Bool) (c : Str) : Option Bool := if c ∈ cAll then some (ans c) else none
theorem kit_by {u : Value} {ans : Str → Bool} (hk : kitB K u ans = true) (hx : cAll.all (fun c => xiB K (He.ga K c)) = true) : ∀ c b, tabOf ans c = some b → XI K (He.ga K c) ∧ PySem.W.kitOne K (.ref (He.ga K c)) u = some b := fun c b e => by
  unfold tabOf at e
  split at e
  · rename_i hc
    cases e
    exact ⟨xiB_ok (List.all_eq_true.mp hx c hc), of_decide_eq_true (List.all_eq_true.mp hk c hc)⟩
  · cases e
structure More (K : PySem.W.Frag) : Prop where
  ve : cVE.all (fun c => initB "/claim/cut.py" K "ValueError" "ValueError.__new__" "ValueError.__init__" veT c (c ++ ".__init__")) = true
  le : cLE.all (fun c => initB "/claim/cut.py" K "LookupError" "LookupError.__new__" "LookupError.__init__" leT c (c ++ ".__init__")) = true
  opq : PySem.W.nsIn K cStatics "thirdparty.any" = some none
  fl : flds.all (fun p => decide (PySem.W.takerIn K (He.ga K p.1) p.2 = some none) && xaB K (He.ga K p.1) p.2) = true
  xi : cAll.all (fun c => xiB K (He.ga K c)) = true
  own : cAll.all (fun t => kitB K (.ref (He.ga K t)) (tOwn t)) = true
  fe : kitB K (.ref (He.ga K "FarscaleError")) (fun c => decide (c ∈ cVE)) = true
  nm : kitB K (.ref (He.ga K "NameMissing")) (fun c => decide (c ∈ cLE)) = true
  kve : kitB K (.type "ValueError") (fun c => decide (c ∈ cVE)) = true
  kle : kitB K (.type "LookupError") (fun c => decide (c ∈ cLE)) = true
  kke : kitB K (.type "KeyError") (fun _ => false) = true
  kie : kitB K (.type "IndexError") (fun _ => false) = true
theorem mo (h : Hyp P K mg base) : More K := by
  have e := h.c.more
  unfold fx at e
  obtain ⟨h1, e⟩ := He.ba e
  obtain ⟨h2, e⟩ := He.ba e
  obtain ⟨h3, e⟩ := He.ba e
  obtain ⟨h4, e⟩ := He.ba e
  obtain ⟨h5, e⟩ := He.ba e
  obtain ⟨h6, e⟩ := He.ba e
  obtain ⟨h7, e⟩ := He.ba e
  obtain ⟨h8, e⟩ := He.ba e
  obtain ⟨h9, e⟩ := He.ba e
  obtain ⟨h10, e⟩ := He.ba e
  obtain ⟨h11, h12⟩ := He.ba e
  exact ⟨h1, h2, of_decide_eq_true h3, h4, h5, h6, h7, h8, h9, h10, h11, h12⟩
def csOf (n : Str) : List Str := (flds.filter fun p => decide (p.2 = n)).map (·.1)
theorem xa_of (h : Hyp P K mg base) {n : Str} : ∀ c ∈ csOf n, XA K (He.ga K c) n := fun c hc => by
  unfold csOf at hc
  obtain ⟨p, hp, rfl⟩ := List.mem_map.mp hc
  obtain ⟨hp1, hp2⟩ := List.mem_filter.mp hp
  obtain rfl : p.2 = n := of_decide_eq_true hp2
  exact xaB_ok (He.ba (List.all_eq_true.mp (mo h).fl p hp1)).2
theorem tk_of (h : Hyp P K mg base) (c f : Str) (hm : (c, f) ∈ flds) : PySem.W.takerIn K (He.ga K c) f = some none := of_decide_eq_true (He.ba (List.all_eq_true.mp (mo h).fl (c, f) hm)).1
theorem kit_BadScale (h : Hyp P K mg base) : ∀ c b, tabOf (tOwn "BadScale") c = some b → XI K (He.ga K c) ∧ PySem.W.kitOne K (.ref (He.ga K c)) (.ref (He.ga K "BadScale")) = some b := kit_by (List.all_eq_true.mp (mo h).own "BadScale" (by decide +kernel)) (mo h).xi
theorem kit_BadName (h : Hyp P K mg base) : ∀ c b, tabOf (tOwn "BadName") c = some b → XI K (He.ga K c) ∧ PySem.W.kitOne K (.ref (He.ga K c)) (.ref (He.ga K "BadName")) = some b := kit_by (List.all_eq_true.mp (mo h).own "BadName" (by decide +kernel)) (mo h).xi
theorem kit_TwiceTold (h : Hyp P K mg base) : ∀ c b, tabOf (tOwn "TwiceTold") c = some b → XI K (He.ga K c) ∧ PySem.W.kitOne K (.ref (He.ga K c)) (.ref (He.ga K "TwiceTold")) = some b := kit_by (List.all_eq_true.mp (mo h).own "TwiceTold" (by decide +kernel)) (mo h).xi
theorem kit_BadTable (h : Hyp P K mg base) : ∀ c b, tabOf (tOwn "BadTable") c = some b → XI K (He.ga K c) ∧ PySem.W.kitOne K (.ref (He.ga K c)) (.ref (He.ga K "BadTable")) = some b := kit_by (List.all_eq_true.mp (mo h).own "BadTable" (by decide +kernel)) (mo h).xi
theorem kit_NotSame (h : Hyp P K mg base) : ∀ c b, tabOf (tOwn "NotSame") c = some b → XI K (He.ga K c) ∧ PySem.W.kitOne K (.ref (He.ga K c)) (.ref (He.ga K "NotSame")) = some b := kit_by (List.all_eq_true.mp (mo h).own "NotSame" (by decide +kernel)) (mo h).xi
theorem kit_NotThrough (h : Hyp P K mg base) : ∀ c b, tabOf (tOwn "NotThrough") c = some b → XI K (He.ga K c) ∧ PySem.W.kitOne K (.ref (He.ga K c)) (.ref (He.ga K "NotThrough")) = some b := kit_by (List.all_eq_true.mp (mo h).own "NotThrough" (by decide +kernel)) (mo h).xi
theorem kit_BadPath (h : Hyp P K mg base) : ∀ c b, tabOf (tOwn "BadPath") c = some b → XI K (He.ga K c) ∧ PySem.W.kitOne K (.ref (He.ga K c)) (.ref (He.ga K "BadPath")) = some b := kit_by (List.all_eq_true.mp (mo h).own "BadPath" (by decide +kernel)) (mo h).xi
theorem kit_MixedScales (h : Hyp P K mg base) : ∀ c b, tabOf (tOwn "MixedScales") c = some b → XI K (He.ga K c) ∧ PySem.W.kitOne K (.ref (He.ga K c)) (.ref (He.ga K "MixedScales")) = some b := kit_by (List.all_eq_true.mp (mo h).own "MixedScales" (by decide +kernel)) (mo h).xi
theorem kit_MixedSpaces (h : Hyp P K mg base) : ∀ c b, tabOf (tOwn "MixedSpaces") c = some b → XI K (He.ga K c) ∧ PySem.W.kitOne K (.ref (He.ga K c)) (.ref (He.ga K "MixedSpaces")) = some b := kit_by (List.all_eq_true.mp (mo h).own "MixedSpaces" (by decide +kernel)) (mo h).xi
theorem kit_BadImages (h : Hyp P K mg base) : ∀ c b, tabOf (tOwn "BadImages") c = some b → XI K (He.ga K c) ∧ PySem.W.kitOne K (.ref (He.ga K c)) (.ref (He.ga K "BadImages")) = some b := kit_by (List.all_eq_true.mp (mo h).own "BadImages" (by decide +kernel)) (mo h).xi
theorem kit_Stretched (h : Hyp P K mg base) : ∀ c b, tabOf (tOwn "Stretched") c = some b → XI K (He.ga K c) ∧ PySem.W.kitOne K (.ref (He.ga K c)) (.ref (He.ga K "Stretched")) = some b := kit_by (List.all_eq_true.mp (mo h).own "Stretched" (by decide +kernel)) (mo h).xi
theorem kit_NotAhead (h : Hyp P K mg base) : ∀ c b, tabOf (tOwn "NotAhead") c = some b → XI K (He.ga K c) ∧ PySem.W.kitOne K (.ref (He.ga K c)) (.ref (He.ga K "NotAhead")) = some b := kit_by (List.all_eq_true.mp (mo h).own "NotAhead" (by decide +kernel)) (mo h).xi
theorem kit_NotBehind (h : Hyp P K mg base) : ∀ c b, tabOf (tOwn "NotBehind") c = some b → XI K (He.ga K c) ∧ PySem.W.kitOne K (.ref (He.ga K c)) (.ref (He.ga K "NotBehind")) = some b := kit_by (List.all_eq_true.mp (mo h).own "NotBehind" (by decide +kernel)) (mo h).xi
theorem kit_TooMany (h : Hyp P K mg base) : ∀ c b, tabOf (tOwn "TooMany") c = some b → XI K (He.ga K c) ∧ PySem.W.kitOne K (.ref (He.ga K c)) (.ref (He.ga K "TooMany")) = some b := kit_by (List.all_eq_true.mp (mo h).own "TooMany" (by decide +kernel)) (mo h).xi
theorem kit_NotClosed (h : Hyp P K mg base) : ∀ c b, tabOf (tOwn "NotClosed") c = some b → XI K (He.ga K c) ∧ PySem.W.kitOne K (.ref (He.ga K c)) (.ref (He.ga K "NotClosed")) = some b := kit_by (List.all_eq_true.mp (mo h).own "NotClosed" (by decide +kernel)) (mo h).xi
theorem kit_NotKept (h : Hyp P K mg base) : ∀ c b, tabOf (tOwn "NotKept") c = some b → XI K (He.ga K c) ∧ PySem.W.kitOne K (.ref (He.ga K c)) (.ref (He.ga K "NotKept")) = some b := kit_by (List.all_eq_true.mp (mo h).own "NotKept" (by decide +kernel)) (mo h).xi
theorem kit_BarePair (h : Hyp P K mg base) : ∀ c b, tabOf (tOwn "BarePair") c = some b → XI K (He.ga K c) ∧ PySem.W.kitOne K (.ref (He.ga K c)) (.ref (He.ga K "BarePair")) = some b := kit_by (List.all_eq_true.mp (mo h).own "BarePair" (by decide +kernel)) (mo h).xi
theorem kit_NotLoose (h : Hyp P K mg base) : ∀ c b, tabOf (tOwn "NotLoose") c = some b → XI K (He.ga K c) ∧ PySem.W.kitOne K (.ref (He.ga K c)) (.ref (He.ga K "NotLoose")) = some b := kit_by (List.all_eq_true.mp (mo h).own "NotLoose" (by decide +kernel)) (mo h).xi
theorem kit_NotFitting (h : Hyp P K mg base) : ∀ c b, tabOf (tOwn "NotFitting") c = some b → XI K (He.ga K c) ∧ PySem.W.kitOne K (.ref (He.ga K c)) (.ref (He.ga K "NotFitting")) = some b := kit_by (List.all_eq_true.mp (mo h).own "NotFitting" (by decide +kernel)) (mo h).xi
theorem kit_Clash (h : Hyp P K mg base) : ∀ c b, tabOf (tOwn "Clash") c = some b → XI K (He.ga K c) ∧ PySem.W.kitOne K (.ref (He.ga K c)) (.ref (He.ga K "Clash")) = some b := kit_by (List.all_eq_true.mp (mo h).own "Clash" (by decide +kernel)) (mo h).xi
theorem kit_NothingDone (h : Hyp P K mg base) : ∀ c b, tabOf (tOwn "NothingDone") c = some b → XI K (He.ga K c) ∧ PySem.W.kitOne K (.ref (He.ga K c)) (.ref (He.ga K "NothingDone")) = some b := kit_by (List.all_eq_true.mp (mo h).own "NothingDone" (by decide +kernel)) (mo h).xi
theorem kit_UnknownGrade (h : Hyp P K mg base) : ∀ c b, tabOf (tOwn "UnknownGrade") c = some b → XI K (He.ga K c) ∧ PySem.W.kitOne K (.ref (He.ga K c)) (.ref (He.ga K "UnknownGrade")) = some b := kit_by (List.all_eq_true.mp (mo h).own "UnknownGrade" (by decide +kernel)) (mo h).xi
theorem kit_UnknownPoint (h : Hyp P K mg base) : ∀ c b, tabOf (tOwn "UnknownPoint") c = some b → XI K (He.ga K c) ∧ PySem.W.kitOne K (.ref (He.ga K c)) (.ref (He.ga K "UnknownPoint")) = some b := kit_by (List.all_eq_true.mp (mo h).own "UnknownPoint" (by decide +kernel)) (mo h).xi
theorem kit_NotTold (h : Hyp P K mg base) : ∀ c b, tabOf (tOwn "NotTold") c = some b → XI K (He.ga K c) ∧ PySem.W.kitOne K (.ref (He.ga K c)) (.ref (He.ga K "NotTold")) = some b := kit_by (List.all_eq_true.mp (mo h).own "NotTold" (by decide +kernel)) (mo h).xi
theorem kit_FarscaleError (h : Hyp P K mg base) : ∀ c b, tabOf (fun c => decide (c ∈ cVE)) c = some b → XI K (He.ga K c) ∧ PySem.W.kitOne K (.ref (He.ga K c)) (.ref (He.ga K "FarscaleError")) = some b := kit_by (mo h).fe (mo h).xi
theorem kit_NameMissing (h : Hyp P K mg base) : ∀ c b, tabOf (fun c => decide (c ∈ cLE)) c = some b → XI K (He.ga K c) ∧ PySem.W.kitOne K (.ref (He.ga K c)) (.ref (He.ga K "NameMissing")) = some b := kit_by (mo h).nm (mo h).xi
theorem kit_ValueError (h : Hyp P K mg base) : ∀ c b, tabOf (fun c => decide (c ∈ cVE)) c = some b → XI K (He.ga K c) ∧ PySem.W.kitOne K (.ref (He.ga K c)) (.type "ValueError") = some b := kit_by (mo h).kve (mo h).xi
theorem kit_LookupError (h : Hyp P K mg base) : ∀ c b, tabOf (fun c => decide (c ∈ cLE)) c = some b → XI K (He.ga K c) ∧ PySem.W.kitOne K (.ref (He.ga K c)) (.type "LookupError") = some b := kit_by (mo h).kle (mo h).xi
theorem kit_KeyError (h : Hyp P K mg base) : ∀ c b, tabOf (fun _ => false) c = some b → XI K (He.ga K c) ∧ PySem.W.kitOne K (.ref (He.ga K c)) (.type "KeyError") = some b := kit_by (mo h).kke (mo h).xi
theorem kit_IndexError (h : Hyp P K mg base) : ∀ c b, tabOf (fun _ => false) c = some b → XI K (He.ga K c) ∧ PySem.W.kitOne K (.ref (He.ga K c)) (.type "IndexError") = some b := kit_by (mo h).kie (mo h).xi
def supArg : List Stmt → Expr
  | .Expr (.Call _ (e :: _) _ _) _ :: _ => e
  | _ => .Constant .none 0 ⟨0, 0, 0, 0⟩
theorem ix_BadScale (h : Hyp P K mg base) : ∃ cc cda fd, InitX P K "ValueError" "ValueError.__new__" "ValueError.__init__" veT "BadScale" (mkI "BadScale" 2) (He.ma K (He.ga K "BadScale") "__init__") cc cda fd := initB_ok h.file (d := mkI "BadScale" 2) rfl (List.all_eq_true.mp (mo h).ve "BadScale" (by decide +kernel)) (h.c.clo 0 (d := mkI "BadScale" 2) rfl)
def NI_BadScale : List Str := ["self", "__class__"]
theorem nd_I_BadScale : NI_BadScale.Nodup := by decide +kernel
theorem scI_BadScale : NScope NI_BadScale ["self"] ["__class__"] (defScope (iSt 2)) := nscope_by (by kernel_rfl)
def dS_BadScale : {m : G → M (List D) // ∀ (P : Program) (w : World) (K : PySem.W.Frag) (mg : Str → Option Value) (base : Heap) (h : Hyp P K mg base) (xc : XC K "ValueError" "ValueError.__new__" veT (He.ga K "BadScale")) (cc cda f : Addr) (E : XK), DA (LCK K) (XN P w K mg base NI_BadScale 0 (nfS "__init__" ("BadScale" ++ ".__init__") (defArgs (iSt 2)) (defBody (iSt 2)) (defScope (iSt 2)) cc cda) f E) W0 [supArg (defBody (iSt 2))] m} := ⟨_, fun P w K mg base h xc cc cda f E => (da_cons ((de_str (by decide +kernel))) da_nil)⟩
def dF_BadScale : {l : List (Str × (G → M D)) // ∀ (P : Program) (w : World) (K : PySem.W.Frag) (mg : Str → Option Value) (base : Heap) (h : Hyp P K mg base) (xc : XC K "ValueError" "ValueError.__new__" veT (He.ga K "BadScale")) (cc cda f : Addr) (E : XK), DF (LCK K) (XN P w K mg base NI_BadScale 0 (nfS "__init__" ("BadScale" ++ ".__init__") (defArgs (iSt 2)) (defBody (iSt 2)) (defScope (iSt 2)) cc cda) f E) (He.ga K "BadScale") (defBody (iSt 2)).tail l} := ⟨_, fun P w K mg base h xc cc cda f E => df_nil⟩
def FI_BadScale : List D → M (List (Str × D)) := initF 2 dS_BadScale.1 dF_BadScale.1
theorem ini_BadScale (P : Program) (w : World) {K : PySem.W.Frag} {mg : Str → Option Value} {base : Heap} (h : Hyp P K mg base) : OkI P w K mg base (LCK K) 1 "ValueError" "ValueError.__new__" veT "BadScale" ["self"] 0 FI_BadScale := by
  obtain ⟨cc, cda, fd, x⟩ := ix_BadScale h
  obtain ⟨oc, od, osl, kV, doc, pm, an, ct, rfl, lk⟩ := x.lk
  exact ⟨_, x.xc, x.iC, x.tI, ok_init (N := NI_BadScale) exB_VE x.xc lk x.cd ⟨⟨oc, od, osl, lk⟩, ⟨_, rfl, rfl⟩, x.code, x.cell, x.cl, g_super h, (mo h).opq⟩ scI_BadScale (by kernel_rfl) (by kernel_rfl) (by kernel_rfl) h.top (by kernel_rfl) rfl (by decide) x.si x.dc
    (fun E => dS_BadScale.2 P w K mg base h x.xc cc cda _ E) (fun E => dF_BadScale.2 P w K mg base h x.xc cc cda _ E), .all fun us hl => match us, hl with | [_], _ => rfl⟩
theorem ix_BadName (h : Hyp P K mg base) : ∃ cc cda fd, InitX P K "ValueError" "ValueError.__new__" "ValueError.__init__" veT "BadName" (mkI "BadName" 3) (He.ma K (He.ga K "BadName") "__init__") cc cda fd := initB_ok h.file (d := mkI "BadName" 3) rfl (List.all_eq_true.mp (mo h).ve "BadName" (by decide +kernel)) (h.c.clo 1 (d := mkI "BadName" 3) rfl)
def NI_BadName : List Str := ["self", "name", "__class__"]
theorem nd_I_BadName : NI_BadName.Nodup := by decide +kernel
theorem scI_BadName : NScope NI_BadName ["self", "name"] ["__class__"] (defScope (iSt 3)) := nscope_by (by kernel_rfl)
def dS_BadName : {m : G → M (List D) // ∀ (P : Program) (w : World) (K : PySem.W.Frag) (mg : Str → Option Value) (base : Heap) (h : Hyp P K mg base) (xc : XC K "ValueError" "ValueError.__new__" veT (He.ga K "BadName")) (cc cda f : Addr) (E : XK), DA (LCK K) (XN P w K mg base NI_BadName 0 (nfS "__init__" ("BadName" ++ ".__init__") (defArgs (iSt 3)) (defBody (iSt 3)) (defScope (iSt 3)) cc cda) f E) W0 [supArg (defBody (iSt 3))] m} := ⟨_, fun P w K mg base h xc cc cda f E => (da_cons ((de_joined (DJ.cons ((de_str (by decide +kernel))) (DJ.cons ((de_fmtR (dp_v (fun _ => pv 1)))) DJ.nil)))) da_nil)⟩
def dF_BadName : {l : List (Str × (G → M D)) // ∀ (P : Program) (w : World) (K : PySem.W.Frag) (mg : Str → Option Value) (base : Heap) (h : Hyp P K mg base) (xc : XC K "ValueError" "ValueError.__new__" veT (He.ga K "BadName")) (cc cda f : Addr) (E : XK), DF (LCK K) (XN P w K mg base NI_BadName 0 (nfS "__init__" ("BadName" ++ ".__init__") (defArgs (iSt 3)) (defBody (iSt 3)) (defScope (iSt 3)) cc cda) f E) (He.ga K "BadName") (defBody (iSt 3)).tail l} := ⟨_, fun P w K mg base h xc cc cda f E => (df_cons exB_VE (fun _ => xc) (tk_of h "BadName" "name" (by decide +kernel)) (fun _ => pv 0) ((de_v (fun _ => pv 1))) df_nil)⟩
def FI_BadName : List D → M (List (Str × D)) := initF 3 dS_BadName.1 dF_BadName.1
theorem ini_BadName (P : Program) (w : World) {K : PySem.W.Frag} {mg : Str → Option Value} {base : Heap} (h : Hyp P K mg base) : OkI P w K mg base (LCK K) 1 "ValueError" "ValueError.__new__" veT "BadName" ["self", "name"] 1 FI_BadName := by
  obtain ⟨cc, cda, fd, x⟩ := ix_BadName h
  obtain ⟨oc, od, osl, kV, doc, pm, an, ct, rfl, lk⟩ := x.lk
  exact ⟨_, x.xc, x.iC, x.tI, ok_init (N := NI_BadName) exB_VE x.xc lk x.cd ⟨⟨oc, od, osl, lk⟩, ⟨_, rfl, rfl⟩, x.code, x.cell, x.cl, g_super h, (mo h).opq⟩ scI_BadName (by kernel_rfl) (by kernel_rfl) (by kernel_rfl) h.top (by kernel_rfl) rfl (by decide) x.si x.dc
    (fun E => dS_BadName.2 P w K mg base h x.xc cc cda _ E) (fun E => dF_BadName.2 P w K mg base h x.xc cc cda _ E), .all fun us hl => match us, hl with | [_, _], _ => rfl⟩
theorem ix_TwiceTold (h : Hyp P K mg base) : ∃ cc cda fd, InitX P K "ValueError" "ValueError.__new__" "ValueError.__init__" veT "TwiceTold" (mkI "TwiceTold" 4) (He.ma K (He.ga K "TwiceTold") "__init__") cc cda fd := initB_ok h.file (d := mkI "TwiceTold" 4) rfl (List.all_eq_true.mp (mo h).ve "TwiceTold" (by decide +kernel)) (h.c.clo 2 (d := mkI "TwiceTold" 4) rfl)
def NI_TwiceTold : List Str := ["self", "name", "__class__"]
theorem nd_I_TwiceTold : NI_TwiceTold.Nodup := by decide +kernel
theorem scI_TwiceTold : NScope NI_TwiceTold ["self", "name"] ["__class__"] (defScope (iSt 4)) := nscope_by (by kernel_rfl)
def dS_TwiceTold : {m : G → M (List D) // ∀ (P : Program) (w : World) (K : PySem.W.Frag) (mg : Str → Option Value) (base : Heap) (h : Hyp P K mg base) (xc : XC K "ValueError" "ValueError.__new__" veT (He.ga K "TwiceTold")) (cc cda f : Addr) (E : XK), DA (LCK K) (XN P w K mg base NI_TwiceTold 0 (nfS "__init__" ("TwiceTold" ++ ".__init__") (defArgs (iSt 4)) (defBody (iSt 4)) (defScope (iSt 4)) cc cda) f E) W0 [supArg (defBody (iSt 4))] m} := ⟨_, fun P w K mg base h xc cc cda f E => (da_cons ((de_joined (DJ.cons ((de_str (by decide +kernel))) (DJ.cons ((de_fmtR (dp_v (fun _ => pv 1)))) DJ.nil)))) da_nil)⟩
def dF_TwiceTold : {l : List (Str × (G → M D)) // ∀ (P : Program) (w : World) (K : PySem.W.Frag) (mg : Str → Option Value) (base : Heap) (h : Hyp P K mg base) (xc : XC K "ValueError" "ValueError.__new__" veT (He.ga K "TwiceTold")) (cc cda f : Addr) (E : XK), DF (LCK K) (XN P w K mg base NI_TwiceTold 0 (nfS "__init__" ("TwiceTold" ++ ".__init__") (defArgs (iSt 4)) (defBody (iSt 4)) (defScope (iSt 4)) cc cda) f E) (He.ga K "TwiceTold") (defBody (iSt 4)).tail l} := ⟨_, fun P w K mg base h xc cc cda f E => (df_cons exB_VE (fun _ => xc) (tk_of h "TwiceTold" "name" (by decide +kernel)) (fun _ => pv 0) ((de_v (fun _ => pv 1))) df_nil)⟩
def FI_TwiceTold : List D → M (List (Str × D)) := initF 3 dS_TwiceTold.1 dF_TwiceTold.1
theorem ini_TwiceTold (P : Program) (w : World) {K : PySem.W.Frag} {mg : Str → Option Value} {base : Heap} (h : Hyp P K mg base) : OkI P w K mg base (LCK K) 1 "ValueError" "ValueError.__new__" veT "TwiceTold" ["self", "name"] 1 FI_TwiceTold := by
  obtain ⟨cc, cda, fd, x⟩ := ix_TwiceTold h
  obtain ⟨oc, od, osl, kV, doc, pm, an, ct, rfl, lk⟩ := x.lk
  exact ⟨_, x.xc, x.iC, x.tI, ok_init (N := NI_TwiceTold) exB_VE x.xc lk x.cd ⟨⟨oc, od, osl, lk⟩, ⟨_, rfl, rfl⟩, x.code, x.cell, x.cl, g_super h, (mo h).opq⟩ scI_TwiceTold (by kernel_rfl) (by kernel_rfl) (by kernel_rfl) h.top (by kernel_rfl) rfl (by decide) x.si x.dc
    (fun E => dS_TwiceTold.2 P w K mg base h x.xc cc cda _ E) (fun E => dF_TwiceTold.2 P w K mg base h x.xc cc cda _ E), .all fun us hl => match us, hl with | [_, _], _ => rfl⟩
theorem ix_BadTable (h : Hyp P K mg base) : ∃ cc cda fd, InitX P K "ValueError" "ValueError.__new__" "ValueError.__init__" veT "BadTable" (mkI "BadTable" 5) (He.ma K (He.ga K "BadTable") "__init__") cc cda fd := initB_ok h.file (d := mkI "BadTable" 5) rfl (List.all_eq_true.mp (mo h).ve "BadTable" (by decide +kernel)) (h.c.clo 3 (d := mkI "BadTable" 5) rfl)
def NI_BadTable : List Str := ["self", "__class__"]
theorem nd_I_BadTable : NI_BadTable.Nodup := by decide +kernel
theorem scI_BadTable : NScope NI_BadTable ["self"] ["__class__"] (defScope (iSt 5)) := nscope_by (by kernel_rfl)
def dS_BadTable : {m : G → M (List D) // ∀ (P : Program) (w : World) (K : PySem.W.Frag) (mg : Str → Option Value) (base : Heap) (h : Hyp P K mg base) (xc : XC K "ValueError" "ValueError.__new__" veT (He.ga K "BadTable")) (cc cda f : Addr) (E : XK), DA (LCK K) (XN P w K mg base NI_BadTable 0 (nfS "__init__" ("BadTable" ++ ".__init__") (defArgs (iSt 5)) (defBody (iSt 5)) (defScope (iSt 5)) cc cda) f E) W0 [supArg (defBody (iSt 5))] m} := ⟨_, fun P w K mg base h xc cc cda f E => (da_cons ((de_str (by decide +kernel))) da_nil)⟩
def dF_BadTable : {l : List (Str × (G → M D)) // ∀ (P : Program) (w : World) (K : PySem.W.Frag) (mg : Str → Option Value) (base : Heap) (h : Hyp P K mg base) (xc : XC K "ValueError" "ValueError.__new__" veT (He.ga K "BadTable")) (cc cda f : Addr) (E : XK), DF (LCK K) (XN P w K mg base NI_BadTable 0 (nfS "__init__" ("BadTable" ++ ".__init__") (defArgs (iSt 5)) (defBody (iSt 5)) (defScope (iSt 5)) cc cda) f E) (He.ga K "BadTable") (defBody (iSt 5)).tail l} := ⟨_, fun P w K mg base h xc cc cda f E => df_nil⟩
def FI_BadTable : List D → M (List (Str × D)) := initF 2 dS_BadTable.1 dF_BadTable.1
theorem ini_BadTable (P : Program) (w : World) {K : PySem.W.Frag} {mg : Str → Option Value} {base : Heap} (h : Hyp P K mg base) : OkI P w K mg base (LCK K) 1 "ValueError" "ValueError.__new__" veT "BadTable" ["self"] 0 FI_BadTable := by
  obtain ⟨cc, cda, fd, x⟩ := ix_BadTable h
  obtain ⟨oc, od, osl, kV, doc, pm, an, ct, rfl, lk⟩ := x.lk
  exact ⟨_, x.xc, x.iC, x.tI, ok_init (N := NI_BadTable) exB_VE x.xc lk x.cd ⟨⟨oc, od, osl, lk⟩, ⟨_, rfl, rfl⟩, x.code, x.cell, x.cl, g_super h, (mo h).opq⟩ scI_BadTable (by kernel_rfl) (by kernel_rfl) (by kernel_rfl) h.top (by kernel_rfl) rfl (by decide) x.si x.dc
    (fun E => dS_BadTable.2 P w K mg base h x.xc cc cda _ E) (fun E => dF_BadTable.2 P w K mg base h x.xc cc cda _ E), .all fun us hl => match us, hl with | [_], _ => rfl⟩
theorem ix_NotSame (h : Hyp P K mg base) : ∃ cc cda fd, InitX P K "ValueError" "ValueError.__new__" "ValueError.__init__" veT "NotSame" (mkI "NotSame" 6) (He.ma K (He.ga K "NotSame") "__init__") cc cda fd := initB_ok h.file (d := mkI "NotSame" 6) rfl (List.all_eq_true.mp (mo h).ve "NotSame" (by decide +kernel)) (h.c.clo 4 (d := mkI "NotSame" 6) rfl)
def NI_NotSame : List Str := ["self", "x", "__class__"]
theorem nd_I_NotSame : NI_NotSame.Nodup := by decide +kernel
theorem scI_NotSame : NScope NI_NotSame ["self", "x"] ["__class__"] (defScope (iSt 6)) := nscope_by (by kernel_rfl)
def dS_NotSame : {m : G → M (List D) // ∀ (P : Program) (w : World) (K : PySem.W.Frag) (mg : Str → Option Value) (base : Heap) (h : Hyp P K mg base) (xc : XC K "ValueError" "ValueError.__new__" veT (He.ga K "NotSame")) (cc cda f : Addr) (E : XK), DA (LCK K) (XN P w K mg base NI_NotSame 0 (nfS "__init__" ("NotSame" ++ ".__init__") (defArgs (iSt 6)) (defBody (iSt 6)) (defScope (iSt 6)) cc cda) f E) W0 [supArg (defBody (iSt 6))] m} := ⟨_, fun P w K mg base h xc cc cda f E => (da_cons ((de_joined (DJ.cons ((de_fmtR (dp_v (fun _ => pv 1)))) (DJ.cons ((de_str (by decide +kernel))) DJ.nil)))) da_nil)⟩
def dF_NotSame : {l : List (Str × (G → M D)) // ∀ (P : Program) (w : World) (K : PySem.W.Frag) (mg : Str → Option Value) (base : Heap) (h : Hyp P K mg base) (xc : XC K "ValueError" "ValueError.__new__" veT (He.ga K "NotSame")) (cc cda f : Addr) (E : XK), DF (LCK K) (XN P w K mg base NI_NotSame 0 (nfS "__init__" ("NotSame" ++ ".__init__") (defArgs (iSt 6)) (defBody (iSt 6)) (defScope (iSt 6)) cc cda) f E) (He.ga K "NotSame") (defBody (iSt 6)).tail l} := ⟨_, fun P w K mg base h xc cc cda f E => (df_cons exB_VE (fun _ => xc) (tk_of h "NotSame" "x" (by decide +kernel)) (fun _ => pv 0) ((de_v (fun _ => pv 1))) df_nil)⟩
def FI_NotSame : List D → M (List (Str × D)) := initF 3 dS_NotSame.1 dF_NotSame.1
theorem ini_NotSame (P : Program) (w : World) {K : PySem.W.Frag} {mg : Str → Option Value} {base : Heap} (h : Hyp P K mg base) : OkI P w K mg base (LCK K) 1 "ValueError" "ValueError.__new__" veT "NotSame" ["self", "x"] 1 FI_NotSame := by
  obtain ⟨cc, cda, fd, x⟩ := ix_NotSame h
  obtain ⟨oc, od, osl, kV, doc, pm, an, ct, rfl, lk⟩ := x.lk
  exact ⟨_, x.xc, x.iC, x.tI, ok_init (N := NI_NotSame) exB_VE x.xc lk x.cd ⟨⟨oc, od, osl, lk⟩, ⟨_, rfl, rfl⟩, x.code, x.cell, x.cl, g_super h, (mo h).opq⟩ scI_NotSame (by kernel_rfl) (by kernel_rfl) (by kernel_rfl) h.top (by kernel_rfl) rfl (by decide) x.si x.dc
    (fun E => dS_NotSame.2 P w K mg base h x.xc cc cda _ E) (fun E => dF_NotSame.2 P w K mg base h x.xc cc cda _ E), .all fun us hl => match us, hl with | [_, _], _ => rfl⟩
theorem ix_NotThrough (h : Hyp P K mg base) : ∃ cc cda fd, InitX P K "ValueError" "ValueError.__new__" "ValueError.__init__" veT "NotThrough" (mkI "NotThrough" 7) (He.ma K (He.ga K "NotThrough") "__init__") cc cda fd := initB_ok h.file (d := mkI "NotThrough" 7) rfl (List.all_eq_true.mp (mo h).ve "NotThrough" (by decide +kernel)) (h.c.clo 5 (d := mkI "NotThrough" 7) rfl)
def NI_NotThrough : List Str := ["self", "x", "y", "z", "__class__"]
theorem nd_I_NotThrough : NI_NotThrough.Nodup := by decide +kernel
theorem scI_NotThrough : NScope NI_NotThrough ["self", "x", "y", "z"] ["__class__"] (defScope (iSt 7)) := nscope_by (by kernel_rfl)
def dS_NotThrough : {m : G → M (List D) // ∀ (P : Program) (w : World) (K : PySem.W.Frag) (mg : Str → Option Value) (base : Heap) (h : Hyp P K mg base) (xc : XC K "ValueError" "ValueError.__new__" veT (He.ga K "NotThrough")) (cc cda f : Addr) (E : XK), DA (LCK K) (XN P w K mg base NI_NotThrough 0 (nfS "__init__" ("NotThrough" ++ ".__init__") (defArgs (iSt 7)) (defBody (iSt 7)) (defScope (iSt 7)) cc cda) f E) W0 [supArg (defBody (iSt 7))] m} := ⟨_, fun P w K mg base h xc cc cda f E => (da_cons ((de_joined (DJ.cons ((de_fmtR (dp_v (fun _ => pv 1)))) (DJ.cons ((de_str (by decide +kernel))) (DJ.cons ((de_fmtR (dp_v (fun _ => pv 3)))) (DJ.cons ((de_str (by decide +kernel))) (DJ.cons ((de_fmtR (dp_v (fun _ => pv 2)))) DJ.nil))))))) da_nil)⟩
def dF_NotThrough : {l : List (Str × (G → M D)) // ∀ (P : Program) (w : World) (K : PySem.W.Frag) (mg : Str → Option Value) (base : Heap) (h : Hyp P K mg base) (xc : XC K "ValueError" "ValueError.__new__" veT (He.ga K "NotThrough")) (cc cda f : Addr) (E : XK), DF (LCK K) (XN P w K mg base NI_NotThrough 0 (nfS "__init__" ("NotThrough" ++ ".__init__") (defArgs (iSt 7)) (defBody (iSt 7)) (defScope (iSt 7)) cc cda) f E) (He.ga K "NotThrough") (defBody (iSt 7)).tail l} := ⟨_, fun P w K mg base h xc cc cda f E => (df_cons exB_VE (fun _ => xc) (tk_of h "NotThrough" "x" (by decide +kernel)) (fun _ => pv 0) ((de_v (fun _ => pv 1))) (df_cons exB_VE (fun _ => xc) (tk_of h "NotThrough" "y" (by decide +kernel)) (fun _ => pv 0) ((de_v (fun _ => pv 2))) (df_cons exB_VE (fun _ => xc) (tk_of h "NotThrough" "z" (by decide +kernel)) (fun _ => pv 0) ((de_v (fun _ => pv 3))) df_nil)))⟩
def FI_NotThrough : List D → M (List (Str × D)) := initF 5 dS_NotThrough.1 dF_NotThrough.1
theorem ini_NotThrough (P : Program) (w : World) {K : PySem.W.Frag} {mg : Str → Option Value} {base : Heap} (h : Hyp P K mg base) : OkI P w K mg base (LCK K) 1 "ValueError" "ValueError.__new__" veT "NotThrough" ["self", "x", "y", "z"] 3 FI_NotThrough := by
  obtain ⟨cc, cda, fd, x⟩ := ix_NotThrough h
  obtain ⟨oc, od, osl, kV, doc, pm, an, ct, rfl, lk⟩ := x.lk
  exact ⟨_, x.xc, x.iC, x.tI, ok_init (N := NI_NotThrough) exB_VE x.xc lk x.cd ⟨⟨oc, od, osl, lk⟩, ⟨_, rfl, rfl⟩, x.code, x.cell, x.cl, g_super h, (mo h).opq⟩ scI_NotThrough (by kernel_rfl) (by kernel_rfl) (by kernel_rfl) h.top (by kernel_rfl) rfl (by decide) x.si x.dc
    (fun E => dS_NotThrough.2 P w K mg base h x.xc cc cda _ E) (fun E => dF_NotThrough.2 P w K mg base h x.xc cc cda _ E), .all fun us hl => match us, hl with | [_, _, _, _], _ => rfl⟩
theorem ix_BadPath (h : Hyp P K mg base) : ∃ cc cda fd, InitX P K "ValueError" "ValueError.__new__" "ValueError.__init__" veT "BadPath" (mkI "BadPath" 8) (He.ma K (He.ga K "BadPath") "__init__") cc cda fd := initB_ok h.file (d := mkI "BadPath" 8) rfl (List.all_eq_true.mp (mo h).ve "BadPath" (by decide +kernel)) (h.c.clo 6 (d := mkI "BadPath" 8) rfl)
def NI_BadPath : List Str := ["self", "number", "__class__"]
theorem nd_I_BadPath : NI_BadPath.Nodup := by decide +kernel
theorem scI_BadPath : NScope NI_BadPath ["self", "number"] ["__class__"] (defScope (iSt 8)) := nscope_by (by kernel_rfl)
def dS_BadPath : {m : G → M (List D) // ∀ (P : Program) (w : World) (K : PySem.W.Frag) (mg : Str → Option Value) (base : Heap) (h : Hyp P K mg base) (xc : XC K "ValueError" "ValueError.__new__" veT (He.ga K "BadPath")) (cc cda f : Addr) (E : XK), DA (LCK K) (XN P w K mg base NI_BadPath 0 (nfS "__init__" ("BadPath" ++ ".__init__") (defArgs (iSt 8)) (defBody (iSt 8)) (defScope (iSt 8)) cc cda) f E) W0 [supArg (defBody (iSt 8))] m} := ⟨_, fun P w K mg base h xc cc cda f E => (da_cons ((de_joined (DJ.cons ((de_str (by decide +kernel))) (DJ.cons ((de_fmt (dp_v (fun _ => pv 1)))) (DJ.cons ((de_str (by decide +kernel))) DJ.nil))))) da_nil)⟩
def dF_BadPath : {l : List (Str × (G → M D)) // ∀ (P : Program) (w : World) (K : PySem.W.Frag) (mg : Str → Option Value) (base : Heap) (h : Hyp P K mg base) (xc : XC K "ValueError" "ValueError.__new__" veT (He.ga K "BadPath")) (cc cda f : Addr) (E : XK), DF (LCK K) (XN P w K mg base NI_BadPath 0 (nfS "__init__" ("BadPath" ++ ".__init__") (defArgs (iSt 8)) (defBody (iSt 8)) (defScope (iSt 8)) cc cda) f E) (He.ga K "BadPath") (defBody (iSt 8)).tail l} := ⟨_, fun P w K mg base h xc cc cda f E => (df_cons exB_VE (fun _ => xc) (tk_of h "BadPath" "number" (by decide +kernel)) (fun _ => pv 0) ((de_v (fun _ => pv 1))) df_nil)⟩
def FI_BadPath : List D → M (List (Str × D)) := initF 3 dS_BadPath.1 dF_BadPath.1
theorem ini_BadPath (P : Program) (w : World) {K : PySem.W.Frag} {mg : Str → Option Value} {base : Heap} (h : Hyp P K mg base) : OkI P w K mg base (LCK K) 1 "ValueError" "ValueError.__new__" veT "BadPath" ["self", "number"] 1 FI_BadPath := by
  obtain ⟨cc, cda, fd, x⟩ := ix_BadPath h
  obtain ⟨oc, od, osl, kV, doc, pm, an, ct, rfl, lk⟩ := x.lk
  exact ⟨_, x.xc, x.iC, x.tI, ok_init (N := NI_BadPath) exB_VE x.xc lk x.cd ⟨⟨oc, od, osl, lk⟩, ⟨_, rfl, rfl⟩, x.code, x.cell, x.cl, g_super h, (mo h).opq⟩ scI_BadPath (by kernel_rfl) (by kernel_rfl) (by kernel_rfl) h.top (by kernel_rfl) rfl (by decide) x.si x.dc
    (fun E => dS_BadPath.2 P w K mg base h x.xc cc cda _ E) (fun E => dF_BadPath.2 P w K mg base h x.xc cc cda _ E), .all fun us hl => match us, hl with | [_, _], _ => rfl⟩
theorem ix_MixedScales (h : Hyp P K mg base) : ∃ cc cda fd, InitX P K "ValueError" "ValueError.__new__" "ValueError.__init__" veT "MixedScales" (mkI "MixedScales" 9) (He.ma K (He.ga K "MixedScales") "__init__") cc cda fd := initB_ok h.file (d := mkI "MixedScales" 9) rfl (List.all_eq_true.mp (mo h).ve "MixedScales" (by decide +kernel)) (h.c.clo 7 (d := mkI "MixedScales" 9) rfl)
def NI_MixedScales : List Str := ["self", "__class__"]
theorem nd_I_MixedScales : NI_MixedScales.Nodup := by decide +kernel
theorem scI_MixedScales : NScope NI_MixedScales ["self"] ["__class__"] (defScope (iSt 9)) := nscope_by (by kernel_rfl)
def dS_MixedScales : {m : G → M (List D) // ∀ (P : Program) (w : World) (K : PySem.W.Frag) (mg : Str → Option Value) (base : Heap) (h : Hyp P K mg base) (xc : XC K "ValueError" "ValueError.__new__" veT (He.ga K "MixedScales")) (cc cda f : Addr) (E : XK), DA (LCK K) (XN P w K mg base NI_MixedScales 0 (nfS "__init__" ("MixedScales" ++ ".__init__") (defArgs (iSt 9)) (defBody (iSt 9)) (defScope (iSt 9)) cc cda) f E) W0 [supArg (defBody (iSt 9))] m} := ⟨_, fun P w K mg base h xc cc cda f E => (da_cons ((de_str (by decide +kernel))) da_nil)⟩
def dF_MixedScales : {l : List (Str × (G → M D)) // ∀ (P : Program) (w : World) (K : PySem.W.Frag) (mg : Str → Option Value) (base : Heap) (h : Hyp P K mg base) (xc : XC K "ValueError" "ValueError.__new__" veT (He.ga K "MixedScales")) (cc cda f : Addr) (E : XK), DF (LCK K) (XN P w K mg base NI_MixedScales 0 (nfS "__init__" ("MixedScales" ++ ".__init__") (defArgs (iSt 9)) (defBody (iSt 9)) (defScope (iSt 9)) cc cda) f E) (He.ga K "MixedScales") (defBody (iSt 9)).tail l} := ⟨_, fun P w K mg base h xc cc cda f E => df_nil⟩
def FI_MixedScales : List D → M (List (Str × D)) := initF 2 dS_MixedScales.1 dF_MixedScales.1
theorem ini_MixedScales (P : Program) (w : World) {K : PySem.W.Frag} {mg : Str → Option Value} {base : Heap} (h : Hyp P K mg base) : OkI P w K mg base (LCK K) 1 "ValueError" "ValueError.__new__" veT "MixedScales" ["self"] 0 FI_MixedScales := by
  obtain ⟨cc, cda, fd, x⟩ := ix_MixedScales h
  obtain ⟨oc, od, osl, kV, doc, pm, an, ct, rfl, lk⟩ := x.lk
  exact ⟨_, x.xc, x.iC, x.tI, ok_init (N := NI_MixedScales) exB_VE x.xc lk x.cd ⟨⟨oc, od, osl, lk⟩, ⟨_, rfl, rfl⟩, x.code, x.cell, x.cl, g_super h, (mo h).opq⟩ scI_MixedScales (by kernel_rfl) (by kernel_rfl) (by kernel_rfl) h.top (by kernel_rfl) rfl (by decide) x.si x.dc
    (fun E => dS_MixedScales.2 P w K mg base h x.xc cc cda _ E) (fun E => dF_MixedScales.2 P w K mg base h x.xc cc cda _ E), .all fun us hl => match us, hl with | [_], _ => rfl⟩
theorem ix_MixedSpaces (h : Hyp P K mg base) : ∃ cc cda fd, InitX P K "ValueError" "ValueError.__new__" "ValueError.__init__" veT "MixedSpaces" (mkI "MixedSpaces" 10) (He.ma K (He.ga K "MixedSpaces") "__init__") cc cda fd := initB_ok h.file (d := mkI "MixedSpaces" 10) rfl (List.all_eq_true.mp (mo h).ve "MixedSpaces" (by decide +kernel)) (h.c.clo 8 (d := mkI "MixedSpaces" 10) rfl)
def NI_MixedSpaces : List Str := ["self", "__class__"]
theorem nd_I_MixedSpaces : NI_MixedSpaces.Nodup := by decide +kernel
theorem scI_MixedSpaces : NScope NI_MixedSpaces ["self"] ["__class__"] (defScope (iSt 10)) := nscope_by (by kernel_rfl)
def dS_MixedSpaces : {m : G → M (List D) // ∀ (P : Program) (w : World) (K : PySem.W.Frag) (mg : Str → Option Value) (base : Heap) (h : Hyp P K mg base) (xc : XC K "ValueError" "ValueError.__new__" veT (He.ga K "MixedSpaces")) (cc cda f : Addr) (E : XK), DA (LCK K) (XN P w K mg base NI_MixedSpaces 0 (nfS "__init__" ("MixedSpaces" ++ ".__init__") (defArgs (iSt 10)) (defBody (iSt 10)) (defScope (iSt 10)) cc cda) f E) W0 [supArg (defBody (iSt 10))] m} := ⟨_, fun P w K mg base h xc cc cda f E => (da_cons ((de_str (by decide +kernel))) da_nil)⟩
def dF_MixedSpaces : {l : List (Str × (G → M D)) // ∀ (P : Program) (w : World) (K : PySem.W.Frag) (mg : Str → Option Value) (base : Heap) (h : Hyp P K mg base) (xc : XC K "ValueError" "ValueError.__new__" veT (He.ga K "MixedSpaces")) (cc cda f : Addr) (E : XK), DF (LCK K) (XN P w K mg base NI_MixedSpaces 0 (nfS "__init__" ("MixedSpaces" ++ ".__init__") (defArgs (iSt 10)) (defBody (iSt 10)) (defScope (iSt 10)) cc cda) f E) (He.ga K "MixedSpaces") (defBody (iSt 10)).tail l} := ⟨_, fun P w K mg base h xc cc cda f E => df_nil⟩
def FI_MixedSpaces : List D → M (List (Str × D)) := initF 2 dS_MixedSpaces.1 dF_MixedSpaces.1
theorem ini_MixedSpaces (P : Program) (w : World) {K : PySem.W.Frag} {mg : Str → Option Value} {base : Heap} (h : Hyp P K mg base) : OkI P w K mg base (LCK K) 1 "ValueError" "ValueError.__new__" veT "MixedSpaces" ["self"] 0 FI_MixedSpaces := by
  obtain ⟨cc, cda, fd, x⟩ := ix_MixedSpaces h
  obtain ⟨oc, od, osl, kV, doc, pm, an, ct, rfl, lk⟩ := x.lk
  exact ⟨_, x.xc, x.iC, x.tI, ok_init (N := NI_MixedSpaces) exB_VE x.xc lk x.cd ⟨⟨oc, od, osl, lk⟩, ⟨_, rfl, rfl⟩, x.code, x.cell, x.cl, g_super h, (mo h).opq⟩ scI_MixedSpaces (by kernel_rfl) (by kernel_rfl) (by kernel_rfl) h.top (by kernel_rfl) rfl (by decide) x.si x.dc
    (fun E => dS_MixedSpaces.2 P w K mg base h x.xc cc cda _ E) (fun E => dF_MixedSpaces.2 P w K mg base h x.xc cc cda _ E), .all fun us hl => match us, hl with | [_], _ => rfl⟩
theorem ix_BadImages (h : Hyp P K mg base) : ∃ cc cda fd, InitX P K "ValueError" "ValueError.__new__" "ValueError.__init__" veT "BadImages" (mkI "BadImages" 11) (He.ma K (He.ga K "BadImages") "__init__") cc cda fd := initB_ok h.file (d := mkI "BadImages" 11) rfl (List.all_eq_true.mp (mo h).ve "BadImages" (by decide +kernel)) (h.c.clo 9 (d := mkI "BadImages" 11) rfl)
def NI_BadImages : List Str := ["self", "__class__"]
theorem nd_I_BadImages : NI_BadImages.Nodup := by decide +kernel
theorem scI_BadImages : NScope NI_BadImages ["self"] ["__class__"] (defScope (iSt 11)) := nscope_by (by kernel_rfl)
def dS_BadImages : {m : G → M (List D) // ∀ (P : Program) (w : World) (K : PySem.W.Frag) (mg : Str → Option Value) (base : Heap) (h : Hyp P K mg base) (xc : XC K "ValueError" "ValueError.__new__" veT (He.ga K "BadImages")) (cc cda f : Addr) (E : XK), DA (LCK K) (XN P w K mg base NI_BadImages 0 (nfS "__init__" ("BadImages" ++ ".__init__") (defArgs (iSt 11)) (defBody (iSt 11)) (defScope (iSt 11)) cc cda) f E) W0 [supArg (defBody (iSt 11))] m} := ⟨_, fun P w K mg base h xc cc cda f E => (da_cons ((de_str (by decide +kernel))) da_nil)⟩
def dF_BadImages : {l : List (Str × (G → M D)) // ∀ (P : Program) (w : World) (K : PySem.W.Frag) (mg : Str → Option Value) (base : Heap) (h : Hyp P K mg base) (xc : XC K "ValueError" "ValueError.__new__" veT (He.ga K "BadImages")) (cc cda f : Addr) (E : XK), DF (LCK K) (XN P w K mg base NI_BadImages 0 (nfS "__init__" ("BadImages" ++ ".__init__") (defArgs (iSt 11)) (defBody (iSt 11)) (defScope (iSt 11)) cc cda) f E) (He.ga K "BadImages") (defBody (iSt 11)).tail l} := ⟨_, fun P w K mg base h xc cc cda f E => df_nil⟩
def FI_BadImages : List D → M (List (Str × D)) := initF 2 dS_BadImages.1 dF_BadImages.1
theorem ini_BadImages (P : Program) (w : World) {K : PySem.W.Frag} {mg : Str → Option Value} {base : Heap} (h : Hyp P K mg base) : OkI P w K mg base (LCK K) 1 "ValueError" "ValueError.__new__" veT "BadImages" ["self"] 0 FI_BadImages := by
  obtain ⟨cc, cda, fd, x⟩ := ix_BadImages h
  obtain ⟨oc, od, osl, kV, doc, pm, an, ct, rfl, lk⟩ := x.lk
  exact ⟨_, x.xc, x.iC, x.tI, ok_init (N := NI_BadImages) exB_VE x.xc lk x.cd ⟨⟨oc, od, osl, lk⟩, ⟨_, rfl, rfl⟩, x.code, x.cell, x.cl, g_super h, (mo h).opq⟩ scI_BadImages (by kernel_rfl) (by kernel_rfl) (by kernel_rfl) h.top (by kernel_rfl) rfl (by decide) x.si x.dc
    (fun E => dS_BadImages.2 P w K mg base h x.xc cc cda _ E) (fun E => dF_BadImages.2 P w K mg base h x.xc cc cda _ E), .all fun us hl => match us, hl with | [_], _ => rfl⟩
theorem ix_Stretched (h : Hyp P K mg base) : ∃ cc cda fd, InitX P K "ValueError" "ValueError.__new__" "ValueError.__init__" veT "Stretched" (mkI "Stretched" 12) (He.ma K (He.ga K "Stretched") "__init__") cc cda fd := initB_ok h.file (d := mkI "Stretched" 12) rfl (List.all_eq_true.mp (mo h).ve "Stretched" (by decide +kernel)) (h.c.clo 10 (d := mkI "Stretched" 12) rfl)
def NI_Stretched : List Str := ["self", "x", "y", "__class__"]
theorem nd_I_Stretched : NI_Stretched.Nodup := by decide +kernel
theorem scI_Stretched : NScope NI_Stretched ["self", "x", "y"] ["__class__"] (defScope (iSt 12)) := nscope_by (by kernel_rfl)
def dS_Stretched : {m : G → M (List D) // ∀ (P : Program) (w : World) (K : PySem.W.Frag) (mg : Str → Option Value) (base : Heap) (h : Hyp P K mg base) (xc : XC K "ValueError" "ValueError.__new__" veT (He.ga K "Stretched")) (cc cda f : Addr) (E : XK), DA (LCK K) (XN P w K mg base NI_Stretched 0 (nfS "__init__" ("Stretched" ++ ".__init__") (defArgs (iSt 12)) (defBody (iSt 12)) (defScope (iSt 12)) cc cda) f E) W0 [supArg (defBody (iSt 12))] m} := ⟨_, fun P w K mg base h xc cc cda f E => (da_cons ((de_joined (DJ.cons ((de_str (by decide +kernel))) (DJ.cons ((de_fmtR (dp_v (fun _ => pv 1)))) (DJ.cons ((de_str (by decide +kernel))) (DJ.cons ((de_fmtR (dp_v (fun _ => pv 2)))) (DJ.cons ((de_str (by decide +kernel))) DJ.nil))))))) da_nil)⟩
def dF_Stretched : {l : List (Str × (G → M D)) // ∀ (P : Program) (w : World) (K : PySem.W.Frag) (mg : Str → Option Value) (base : Heap) (h : Hyp P K mg base) (xc : XC K "ValueError" "ValueError.__new__" veT (He.ga K "Stretched")) (cc cda f : Addr) (E : XK), DF (LCK K) (XN P w K mg base NI_Stretched 0 (nfS "__init__" ("Stretched" ++ ".__init__") (defArgs (iSt 12)) (defBody (iSt 12)) (defScope (iSt 12)) cc cda) f E) (He.ga K "Stretched") (defBody (iSt 12)).tail l} := ⟨_, fun P w K mg base h xc cc cda f E => (df_cons exB_VE (fun _ => xc) (tk_of h "Stretched" "x" (by decide +kernel)) (fun _ => pv 0) ((de_v (fun _ => pv 1))) (df_cons exB_VE (fun _ => xc) (tk_of h "Stretched" "y" (by decide +kernel)) (fun _ => pv 0) ((de_v (fun _ => pv 2))) df_nil))⟩
def FI_Stretched : List D → M (List (Str × D)) := initF 4 dS_Stretched.1 dF_Stretched.1
theorem ini_Stretched (P : Program) (w : World) {K : PySem.W.Frag} {mg : Str → Option Value} {base : Heap} (h : Hyp P K mg base) : OkI P w K mg base (LCK K) 1 "ValueError" "ValueError.__new__" veT "Stretched" ["self", "x", "y"] 2 FI_Stretched := by
  obtain ⟨cc, cda, fd, x⟩ := ix_Stretched h
  obtain ⟨oc, od, osl, kV, doc, pm, an, ct, rfl, lk⟩ := x.lk
  exact ⟨_, x.xc, x.iC, x.tI, ok_init (N := NI_Stretched) exB_VE x.xc lk x.cd ⟨⟨oc, od, osl, lk⟩, ⟨_, rfl, rfl⟩, x.code, x.cell, x.cl, g_super h, (mo h).opq⟩ scI_Stretched (by kernel_rfl) (by kernel_rfl) (by kernel_rfl) h.top (by kernel_rfl) rfl (by decide) x.si x.dc
    (fun E => dS_Stretched.2 P w K mg base h x.xc cc cda _ E) (fun E => dF_Stretched.2 P w K mg base h x.xc cc cda _ E), .all fun us hl => match us, hl with | [_, _, _], _ => rfl⟩
theorem ix_NotAhead (h : Hyp P K mg base) : ∃ cc cda fd, InitX P K "ValueError" "ValueError.__new__" "ValueError.__init__" veT "NotAhead" (mkI "NotAhead" 13) (He.ma K (He.ga K "NotAhead") "__init__") cc cda fd := initB_ok h.file (d := mkI "NotAhead" 13) rfl (List.all_eq_true.mp (mo h).ve "NotAhead" (by decide +kernel)) (h.c.clo 11 (d := mkI "NotAhead" 13) rfl)
def NI_NotAhead : List Str := ["self", "x", "y", "z", "__class__"]
theorem nd_I_NotAhead : NI_NotAhead.Nodup := by decide +kernel
theorem scI_NotAhead : NScope NI_NotAhead ["self", "x", "y", "z"] ["__class__"] (defScope (iSt 13)) := nscope_by (by kernel_rfl)
def dS_NotAhead : {m : G → M (List D) // ∀ (P : Program) (w : World) (K : PySem.W.Frag) (mg : Str → Option Value) (base : Heap) (h : Hyp P K mg base) (xc : XC K "ValueError" "ValueError.__new__" veT (He.ga K "NotAhead")) (cc cda f : Addr) (E : XK), DA (LCK K) (XN P w K mg base NI_NotAhead 0 (nfS "__init__" ("NotAhead" ++ ".__init__") (defArgs (iSt 13)) (defBody (iSt 13)) (defScope (iSt 13)) cc cda) f E) W0 [supArg (defBody (iSt 13))] m} := ⟨_, fun P w K mg base h xc cc cda f E => (da_cons ((de_joined (DJ.cons ((de_fmtR (dp_v (fun _ => pv 1)))) (DJ.cons ((de_str (by decide +kernel))) (DJ.cons ((de_fmtR (dp_v (fun _ => pv 3)))) (DJ.cons ((de_str (by decide +kernel))) (DJ.cons ((de_fmtR (dp_v (fun _ => pv 2)))) (DJ.cons ((de_str (by decide +kernel))) DJ.nil)))))))) da_nil)⟩
def dF_NotAhead : {l : List (Str × (G → M D)) // ∀ (P : Program) (w : World) (K : PySem.W.Frag) (mg : Str → Option Value) (base : Heap) (h : Hyp P K mg base) (xc : XC K "ValueError" "ValueError.__new__" veT (He.ga K "NotAhead")) (cc cda f : Addr) (E : XK), DF (LCK K) (XN P w K mg base NI_NotAhead 0 (nfS "__init__" ("NotAhead" ++ ".__init__") (defArgs (iSt 13)) (defBody (iSt 13)) (defScope (iSt 13)) cc cda) f E) (He.ga K "NotAhead") (defBody (iSt 13)).tail l} := ⟨_, fun P w K mg base h xc cc cda f E => (df_cons exB_VE (fun _ => xc) (tk_of h "NotAhead" "x" (by decide +kernel)) (fun _ => pv 0) ((de_v (fun _ => pv 1))) (df_cons exB_VE (fun _ => xc) (tk_of h "NotAhead" "y" (by decide +kernel)) (fun _ => pv 0) ((de_v (fun _ => pv 2))) (df_cons exB_VE (fun _ => xc) (tk_of h "NotAhead" "z" (by decide +kernel)) (fun _ => pv 0) ((de_v (fun _ => pv 3))) df_nil)))⟩
def FI_NotAhead : List D → M (List (Str × D)) := initF 5 dS_NotAhead.1 dF_NotAhead.1
theorem ini_NotAhead (P : Program) (w : World) {K : PySem.W.Frag} {mg : Str → Option Value} {base : Heap} (h : Hyp P K mg base) : OkI P w K mg base (LCK K) 1 "ValueError" "ValueError.__new__" veT "NotAhead" ["self", "x", "y", "z"] 3 FI_NotAhead := by
  obtain ⟨cc, cda, fd, x⟩ := ix_NotAhead h
  obtain ⟨oc, od, osl, kV, doc, pm, an, ct, rfl, lk⟩ := x.lk
  exact ⟨_, x.xc, x.iC, x.tI, ok_init (N := NI_NotAhead) exB_VE x.xc lk x.cd ⟨⟨oc, od, osl, lk⟩, ⟨_, rfl, rfl⟩, x.code, x.cell, x.cl, g_super h, (mo h).opq⟩ scI_NotAhead (by kernel_rfl) (by kernel_rfl) (by kernel_rfl) h.top (by kernel_rfl) rfl (by decide) x.si x.dc
    (fun E => dS_NotAhead.2 P w K mg base h x.xc cc cda _ E) (fun E => dF_NotAhead.2 P w K mg base h x.xc cc cda _ E), .all fun us hl => match us, hl with | [_, _, _, _], _ => rfl⟩
theorem ix_NotBehind (h : Hyp P K mg base) : ∃ cc cda fd, InitX P K "ValueError" "ValueError.__new__" "ValueError.__init__" veT "NotBehind" (mkI "NotBehind" 14) (He.ma K (He.ga K "NotBehind") "__init__") cc cda fd := initB_ok h.file (d := mkI "NotBehind" 14) rfl (List.all_eq_true.mp (mo h).ve "NotBehind" (by decide +kernel)) (h.c.clo 12 (d := mkI "NotBehind" 14) rfl)
def NI_NotBehind : List Str := ["self", "x", "y", "z", "__class__"]
theorem nd_I_NotBehind : NI_NotBehind.Nodup := by decide +kernel
theorem scI_NotBehind : NScope NI_NotBehind ["self", "x", "y", "z"] ["__class__"] (defScope (iSt 14)) := nscope_by (by kernel_rfl)
def dS_NotBehind : {m : G → M (List D) // ∀ (P : Program) (w : World) (K : PySem.W.Frag) (mg : Str → Option Value) (base : Heap) (h : Hyp P K mg base) (xc : XC K "ValueError" "ValueError.__new__" veT (He.ga K "NotBehind")) (cc cda f : Addr) (E : XK), DA (LCK K) (XN P w K mg base NI_NotBehind 0 (nfS "__init__" ("NotBehind" ++ ".__init__") (defArgs (iSt 14)) (defBody (iSt 14)) (defScope (iSt 14)) cc cda) f E) W0 [supArg (defBody (iSt 14))] m} := ⟨_, fun P w K mg base h xc cc cda f E => (da_cons ((de_joined (DJ.cons ((de_fmtR (dp_v (fun _ => pv 1)))) (DJ.cons ((de_str (by decide +kernel))) (DJ.cons ((de_fmtR (dp_v (fun _ => pv 3)))) (DJ.cons ((de_str (by decide +kernel))) (DJ.cons ((de_fmtR (dp_v (fun _ => pv 2)))) (DJ.cons ((de_str (by decide +kernel))) DJ.nil)))))))) da_nil)⟩
def dF_NotBehind : {l : List (Str × (G → M D)) // ∀ (P : Program) (w : World) (K : PySem.W.Frag) (mg : Str → Option Value) (base : Heap) (h : Hyp P K mg base) (xc : XC K "ValueError" "ValueError.__new__" veT (He.ga K "NotBehind")) (cc cda f : Addr) (E : XK), DF (LCK K) (XN P w K mg base NI_NotBehind 0 (nfS "__init__" ("NotBehind" ++ ".__init__") (defArgs (iSt 14)) (defBody (iSt 14)) (defScope (iSt 14)) cc cda) f E) (He.ga K "NotBehind") (defBody (iSt 14)).tail l} := ⟨_, fun P w K mg base h xc cc cda f E => (df_cons exB_VE (fun _ => xc) (tk_of h "NotBehind" "x" (by decide +kernel)) (fun _ => pv 0) ((de_v (fun _ => pv 1))) (df_cons exB_VE (fun _ => xc) (tk_of h "NotBehind" "y" (by decide +kernel)) (fun _ => pv 0) ((de_v (fun _ => pv 2))) (df_cons exB_VE (fun _ => xc) (tk_of h "NotBehind" "z" (by decide +kernel)) (fun _ => pv 0) ((de_v (fun _ => pv 3))) df_nil)))⟩
def FI_NotBehind : List D → M (List (Str × D)) := initF 5 dS_NotBehind.1 dF_NotBehind.1
theorem ini_NotBehind (P : Program) (w : World) {K : PySem.W.Frag} {mg : Str → Option Value} {base : Heap} (h : Hyp P K mg base) : OkI P w K mg base (LCK K) 1 "ValueError" "ValueError.__new__" veT "NotBehind" ["self", "x", "y", "z"] 3 FI_NotBehind := by
  obtain ⟨cc, cda, fd, x⟩ := ix_NotBehind h
  obtain ⟨oc, od, osl, kV, doc, pm, an, ct, rfl, lk⟩ := x.lk
  exact ⟨_, x.xc, x.iC, x.tI, ok_init (N := NI_NotBehind) exB_VE x.xc lk x.cd ⟨⟨oc, od, osl, lk⟩, ⟨_, rfl, rfl⟩, x.code, x.cell, x.cl, g_super h, (mo h).opq⟩ scI_NotBehind (by kernel_rfl) (by kernel_rfl) (by kernel_rfl) h.top (by kernel_rfl) rfl (by decide) x.si x.dc
    (fun E => dS_NotBehind.2 P w K mg base h x.xc cc cda _ E) (fun E => dF_NotBehind.2 P w K mg base h x.xc cc cda _ E), .all fun us hl => match us, hl with | [_, _, _, _], _ => rfl⟩
theorem ix_TooMany (h : Hyp P K mg base) : ∃ cc cda fd, InitX P K "ValueError" "ValueError.__new__" "ValueError.__init__" veT "TooMany" (mkI "TooMany" 15) (He.ma K (He.ga K "TooMany") "__init__") cc cda fd := initB_ok h.file (d := mkI "TooMany" 15) rfl (List.all_eq_true.mp (mo h).ve "TooMany" (by decide +kernel)) (h.c.clo 13 (d := mkI "TooMany" 15) rfl)
def NI_TooMany : List Str := ["self", "__class__"]
theorem nd_I_TooMany : NI_TooMany.Nodup := by decide +kernel
theorem scI_TooMany : NScope NI_TooMany ["self"] ["__class__"] (defScope (iSt 15)) := nscope_by (by kernel_rfl)
def dS_TooMany : {m : G → M (List D) // ∀ (P : Program) (w : World) (K : PySem.W.Frag) (mg : Str → Option Value) (base : Heap) (h : Hyp P K mg base) (xc : XC K "ValueError" "ValueError.__new__" veT (He.ga K "TooMany")) (cc cda f : Addr) (E : XK), DA (LCK K) (XN P w K mg base NI_TooMany 0 (nfS "__init__" ("TooMany" ++ ".__init__") (defArgs (iSt 15)) (defBody (iSt 15)) (defScope (iSt 15)) cc cda) f E) W0 [supArg (defBody (iSt 15))] m} := ⟨_, fun P w K mg base h xc cc cda f E => (da_cons ((de_str (by decide +kernel))) da_nil)⟩
def dF_TooMany : {l : List (Str × (G → M D)) // ∀ (P : Program) (w : World) (K : PySem.W.Frag) (mg : Str → Option Value) (base : Heap) (h : Hyp P K mg base) (xc : XC K "ValueError" "ValueError.__new__" veT (He.ga K "TooMany")) (cc cda f : Addr) (E : XK), DF (LCK K) (XN P w K mg base NI_TooMany 0 (nfS "__init__" ("TooMany" ++ ".__init__") (defArgs (iSt 15)) (defBody (iSt 15)) (defScope (iSt 15)) cc cda) f E) (He.ga K "TooMany") (defBody (iSt 15)).tail l} := ⟨_, fun P w K mg base h xc cc cda f E => df_nil⟩
def FI_TooMany : List D → M (List (Str × D)) := initF 2 dS_TooMany.1 dF_TooMany.1
theorem ini_TooMany (P : Program) (w : World) {K : PySem.W.Frag} {mg : Str → Option Value} {base : Heap} (h : Hyp P K mg base) : OkI P w K mg base (LCK K) 1 "ValueError" "ValueError.__new__" veT "TooMany" ["self"] 0 FI_TooMany := by
  obtain ⟨cc, cda, fd, x⟩ := ix_TooMany h
  obtain ⟨oc, od, osl, kV, doc, pm, an, ct, rfl, lk⟩ := x.lk
  exact ⟨_, x.xc, x.iC, x.tI, ok_init (N := NI_TooMany) exB_VE x.xc lk x.cd ⟨⟨oc, od, osl, lk⟩, ⟨_, rfl, rfl⟩, x.code, x.cell, x.cl, g_super h, (mo h).opq⟩ scI_TooMany (by kernel_rfl) (by kernel_rfl) (by kernel_rfl) h.top (by kernel_rfl) rfl (by decide) x.si x.dc
    (fun E => dS_TooMany.2 P w K mg base h x.xc cc cda _ E) (fun E => dF_TooMany.2 P w K mg base h x.xc cc cda _ E), .all fun us hl => match us, hl with | [_], _ => rfl⟩
theorem ix_NotClosed (h : Hyp P K mg base) : ∃ cc cda fd, InitX P K "ValueError" "ValueError.__new__" "ValueError.__init__" veT "NotClosed" (mkI "NotClosed" 16) (He.ma K (He.ga K "NotClosed") "__init__") cc cda fd := initB_ok h.file (d := mkI "NotClosed" 16) rfl (List.all_eq_true.mp (mo h).ve "NotClosed" (by decide +kernel)) (h.c.clo 14 (d := mkI "NotClosed" 16) rfl)
def NI_NotClosed : List Str := ["self", "__class__"]
theorem nd_I_NotClosed : NI_NotClosed.Nodup := by decide +kernel
theorem scI_NotClosed : NScope NI_NotClosed ["self"] ["__class__"] (defScope (iSt 16)) := nscope_by (by kernel_rfl)
def dS_NotClosed : {m : G → M (List D) // ∀ (P : Program) (w : World) (K : PySem.W.Frag) (mg : Str → Option Value) (base : Heap) (h : Hyp P K mg base) (xc : XC K "ValueError" "ValueError.__new__" veT (He.ga K "NotClosed")) (cc cda f : Addr) (E : XK), DA (LCK K) (XN P w K mg base NI_NotClosed 0 (nfS "__init__" ("NotClosed" ++ ".__init__") (defArgs (iSt 16)) (defBody (iSt 16)) (defScope (iSt 16)) cc cda) f E) W0 [supArg (defBody (iSt 16))] m} := ⟨_, fun P w K mg base h xc cc cda f E => (da_cons ((de_str (by decide +kernel))) da_nil)⟩
def dF_NotClosed : {l : List (Str × (G → M D)) // ∀ (P : Program) (w : World) (K : PySem.W.Frag) (mg : Str → Option Value) (base : Heap) (h : Hyp P K mg base) (xc : XC K "ValueError" "ValueError.__new__" veT (He.ga K "NotClosed")) (cc cda f : Addr) (E : XK), DF (LCK K) (XN P w K mg base NI_NotClosed 0 (nfS "__init__" ("NotClosed" ++ ".__init__") (defArgs (iSt 16)) (defBody (iSt 16)) (defScope (iSt 16)) cc cda) f E) (He.ga K "NotClosed") (defBody (iSt 16)).tail l} := ⟨_, fun P w K mg base h xc cc cda f E => df_nil⟩
def FI_NotClosed : List D → M (List (Str × D)) := initF 2 dS_NotClosed.1 dF_NotClosed.1
theorem ini_NotClosed (P : Program) (w : World) {K : PySem.W.Frag} {mg : Str → Option Value} {base : Heap} (h : Hyp P K mg base) : OkI P w K mg base (LCK K) 1 "ValueError" "ValueError.__new__" veT "NotClosed" ["self"] 0 FI_NotClosed := by
  obtain ⟨cc, cda, fd, x⟩ := ix_NotClosed h
  obtain ⟨oc, od, osl, kV, doc, pm, an, ct, rfl, lk⟩ := x.lk
  exact ⟨_, x.xc, x.iC, x.tI, ok_init (N := NI_NotClosed) exB_VE x.xc lk x.cd ⟨⟨oc, od, osl, lk⟩, ⟨_, rfl, rfl⟩, x.code, x.cell, x.cl, g_super h, (mo h).opq⟩ scI_NotClosed (by kernel_rfl) (by kernel_rfl) (by kernel_rfl) h.top (by kernel_rfl) rfl (by decide) x.si x.dc
    (fun E => dS_NotClosed.2 P w K mg base h x.xc cc cda _ E) (fun E => dF_NotClosed.2 P w K mg base h x.xc cc cda _ E), .all fun us hl => match us, hl with | [_], _ => rfl⟩
theorem ix_NotKept (h : Hyp P K mg base) : ∃ cc cda fd, InitX P K "ValueError" "ValueError.__new__" "ValueError.__init__" veT "NotKept" (mkI "NotKept" 17) (He.ma K (He.ga K "NotKept") "__init__") cc cda fd := initB_ok h.file (d := mkI "NotKept" 17) rfl (List.all_eq_true.mp (mo h).ve "NotKept" (by decide +kernel)) (h.c.clo 15 (d := mkI "NotKept" 17) rfl)
def NI_NotKept : List Str := ["self", "__class__"]
theorem nd_I_NotKept : NI_NotKept.Nodup := by decide +kernel
theorem scI_NotKept : NScope NI_NotKept ["self"] ["__class__"] (defScope (iSt 17)) := nscope_by (by kernel_rfl)
def dS_NotKept : {m : G → M (List D) // ∀ (P : Program) (w : World) (K : PySem.W.Frag) (mg : Str → Option Value) (base : Heap) (h : Hyp P K mg base) (xc : XC K "ValueError" "ValueError.__new__" veT (He.ga K "NotKept")) (cc cda f : Addr) (E : XK), DA (LCK K) (XN P w K mg base NI_NotKept 0 (nfS "__init__" ("NotKept" ++ ".__init__") (defArgs (iSt 17)) (defBody (iSt 17)) (defScope (iSt 17)) cc cda) f E) W0 [supArg (defBody (iSt 17))] m} := ⟨_, fun P w K mg base h xc cc cda f E => (da_cons ((de_str (by decide +kernel))) da_nil)⟩
def dF_NotKept : {l : List (Str × (G → M D)) // ∀ (P : Program) (w : World) (K : PySem.W.Frag) (mg : Str → Option Value) (base : Heap) (h : Hyp P K mg base) (xc : XC K "ValueError" "ValueError.__new__" veT (He.ga K "NotKept")) (cc cda f : Addr) (E : XK), DF (LCK K) (XN P w K mg base NI_NotKept 0 (nfS "__init__" ("NotKept" ++ ".__init__") (defArgs (iSt 17)) (defBody (iSt 17)) (defScope (iSt 17)) cc cda) f E) (He.ga K "NotKept") (defBody (iSt 17)).tail l} := ⟨_, fun P w K mg base h xc cc cda f E => df_nil⟩
def FI_NotKept : List D → M (List (Str × D)) := initF 2 dS_NotKept.1 dF_NotKept.1
theorem ini_NotKept (P : Program) (w : World) {K : PySem.W.Frag} {mg : Str → Option Value} {base : Heap} (h : Hyp P K mg base) : OkI P w K mg base (LCK K) 1 "ValueError" "ValueError.__new__" veT "NotKept" ["self"] 0 FI_NotKept := by
  obtain ⟨cc, cda, fd, x⟩ := ix_NotKept h
  obtain ⟨oc, od, osl, kV, doc, pm, an, ct, rfl, lk⟩ := x.lk
  exact ⟨_, x.xc, x.iC, x.tI, ok_init (N := NI_NotKept) exB_VE x.xc lk x.cd ⟨⟨oc, od, osl, lk⟩, ⟨_, rfl, rfl⟩, x.code, x.cell, x.cl, g_super h, (mo h).opq⟩ scI_NotKept (by kernel_rfl) (by kernel_rfl) (by kernel_rfl) h.top (by kernel_rfl) rfl (by decide) x.si x.dc
    (fun E => dS_NotKept.2 P w K mg base h x.xc cc cda _ E) (fun E => dF_NotKept.2 P w K mg base h x.xc cc cda _ E), .all fun us hl => match us, hl with | [_], _ => rfl⟩
theorem ix_BarePair (h : Hyp P K mg base) : ∃ cc cda fd, InitX P K "ValueError" "ValueError.__new__" "ValueError.__init__" veT "BarePair" (mkI "BarePair" 18) (He.ma K (He.ga K "BarePair") "__init__") cc cda fd := initB_ok h.file (d := mkI "BarePair" 18) rfl (List.all_eq_true.mp (mo h).ve "BarePair" (by decide +kernel)) (h.c.clo 16 (d := mkI "BarePair" 18) rfl)
def NI_BarePair : List Str := ["self", "column", "row", "__class__"]
theorem nd_I_BarePair : NI_BarePair.Nodup := by decide +kernel
theorem scI_BarePair : NScope NI_BarePair ["self", "column", "row"] ["__class__"] (defScope (iSt 18)) := nscope_by (by kernel_rfl)
def dS_BarePair : {m : G → M (List D) // ∀ (P : Program) (w : World) (K : PySem.W.Frag) (mg : Str → Option Value) (base : Heap) (h : Hyp P K mg base) (xc : XC K "ValueError" "ValueError.__new__" veT (He.ga K "BarePair")) (cc cda f : Addr) (E : XK), DA (LCK K) (XN P w K mg base NI_BarePair 0 (nfS "__init__" ("BarePair" ++ ".__init__") (defArgs (iSt 18)) (defBody (iSt 18)) (defScope (iSt 18)) cc cda) f E) W0 [supArg (defBody (iSt 18))] m} := ⟨_, fun P w K mg base h xc cc cda f E => (da_cons ((de_str (by decide +kernel))) da_nil)⟩
def dF_BarePair : {l : List (Str × (G → M D)) // ∀ (P : Program) (w : World) (K : PySem.W.Frag) (mg : Str → Option Value) (base : Heap) (h : Hyp P K mg base) (xc : XC K "ValueError" "ValueError.__new__" veT (He.ga K "BarePair")) (cc cda f : Addr) (E : XK), DF (LCK K) (XN P w K mg base NI_BarePair 0 (nfS "__init__" ("BarePair" ++ ".__init__") (defArgs (iSt 18)) (defBody (iSt 18)) (defScope (iSt 18)) cc cda) f E) (He.ga K "BarePair") (defBody (iSt 18)).tail l} := ⟨_, fun P w K mg base h xc cc cda f E => (df_cons exB_VE (fun _ => xc) (tk_of h "BarePair" "column" (by decide +kernel)) (fun _ => pv 0) ((de_v (fun _ => pv 1))) (df_cons exB_VE (fun _ => xc) (tk_of h "BarePair" "row" (by decide +kernel)) (fun _ => pv 0) ((de_v (fun _ => pv 2))) df_nil))⟩
def FI_BarePair : List D → M (List (Str × D)) := initF 4 dS_BarePair.1 dF_BarePair.1
theorem ini_BarePair (P : Program) (w : World) {K : PySem.W.Frag} {mg : Str → Option Value} {base : Heap} (h : Hyp P K mg base) : OkI P w K mg base (LCK K) 1 "ValueError" "ValueError.__new__" veT "BarePair" ["self", "column", "row"] 2 FI_BarePair := by
  obtain ⟨cc, cda, fd, x⟩ := ix_BarePair h
  obtain ⟨oc, od, osl, kV, doc, pm, an, ct, rfl, lk⟩ := x.lk
  exact ⟨_, x.xc, x.iC, x.tI, ok_init (N := NI_BarePair) exB_VE x.xc lk x.cd ⟨⟨oc, od, osl, lk⟩, ⟨_, rfl, rfl⟩, x.code, x.cell, x.cl, g_super h, (mo h).opq⟩ scI_BarePair (by kernel_rfl) (by kernel_rfl) (by kernel_rfl) h.top (by kernel_rfl) rfl (by decide) x.si x.dc
    (fun E => dS_BarePair.2 P w K mg base h x.xc cc cda _ E) (fun E => dF_BarePair.2 P w K mg base h x.xc cc cda _ E), .all fun us hl => match us, hl with | [_, _, _], _ => rfl⟩
theorem ix_NotLoose (h : Hyp P K mg base) : ∃ cc cda fd, InitX P K "ValueError" "ValueError.__new__" "ValueError.__init__" veT "NotLoose" (mkI "NotLoose" 19) (He.ma K (He.ga K "NotLoose") "__init__") cc cda fd := initB_ok h.file (d := mkI "NotLoose" 19) rfl (List.all_eq_true.mp (mo h).ve "NotLoose" (by decide +kernel)) (h.c.clo 17 (d := mkI "NotLoose" 19) rfl)
def NI_NotLoose : List Str := ["self", "__class__"]
theorem nd_I_NotLoose : NI_NotLoose.Nodup := by decide +kernel
theorem scI_NotLoose : NScope NI_NotLoose ["self"] ["__class__"] (defScope (iSt 19)) := nscope_by (by kernel_rfl)
def dS_NotLoose : {m : G → M (List D) // ∀ (P : Program) (w : World) (K : PySem.W.Frag) (mg : Str → Option Value) (base : Heap) (h : Hyp P K mg base) (xc : XC K "ValueError" "ValueError.__new__" veT (He.ga K "NotLoose")) (cc cda f : Addr) (E : XK), DA (LCK K) (XN P w K mg base NI_NotLoose 0 (nfS "__init__" ("NotLoose" ++ ".__init__") (defArgs (iSt 19)) (defBody (iSt 19)) (defScope (iSt 19)) cc cda) f E) W0 [supArg (defBody (iSt 19))] m} := ⟨_, fun P w K mg base h xc cc cda f E => (da_cons ((de_str (by decide +kernel))) da_nil)⟩
def dF_NotLoose : {l : List (Str × (G → M D)) // ∀ (P : Program) (w : World) (K : PySem.W.Frag) (mg : Str → Option Value) (base : Heap) (h : Hyp P K mg base) (xc : XC K "ValueError" "ValueError.__new__" veT (He.ga K "NotLoose")) (cc cda f : Addr) (E : XK), DF (LCK K) (XN P w K mg base NI_NotLoose 0 (nfS "__init__" ("NotLoose" ++ ".__init__") (defArgs (iSt 19)) (defBody (iSt 19)) (defScope (iSt 19)) cc cda) f E) (He.ga K "NotLoose") (defBody (iSt 19)).tail l} := ⟨_, fun P w K mg base h xc cc cda f E => df_nil⟩
def FI_NotLoose : List D → M (List (Str × D)) := initF 2 dS_NotLoose.1 dF_NotLoose.1
theorem ini_NotLoose (P : Program) (w : World) {K : PySem.W.Frag} {mg : Str → Option Value} {base : Heap} (h : Hyp P K mg base) : OkI P w K mg base (LCK K) 1 "ValueError" "ValueError.__new__" veT "NotLoose" ["self"] 0 FI_NotLoose := by
  obtain ⟨cc, cda, fd, x⟩ := ix_NotLoose h
  obtain ⟨oc, od, osl, kV, doc, pm, an, ct, rfl, lk⟩ := x.lk
  exact ⟨_, x.xc, x.iC, x.tI, ok_init (N := NI_NotLoose) exB_VE x.xc lk x.cd ⟨⟨oc, od, osl, lk⟩, ⟨_, rfl, rfl⟩, x.code, x.cell, x.cl, g_super h, (mo h).opq⟩ scI_NotLoose (by kernel_rfl) (by kernel_rfl) (by kernel_rfl) h.top (by kernel_rfl) rfl (by decide) x.si x.dc
    (fun E => dS_NotLoose.2 P w K mg base h x.xc cc cda _ E) (fun E => dF_NotLoose.2 P w K mg base h x.xc cc cda _ E), .all fun us hl => match us, hl with | [_], _ => rfl⟩
theorem ix_NotFitting (h : Hyp P K mg base) : ∃ cc cda fd, InitX P K "ValueError" "ValueError.__new__" "ValueError.__init__" veT "NotFitting" (mkI "NotFitting" 20) (He.ma K (He.ga K "NotFitting") "__init__") cc cda fd := initB_ok h.file (d := mkI "NotFitting" 20) rfl (List.all_eq_true.mp (mo h).ve "NotFitting" (by decide +kernel)) (h.c.clo 18 (d := mkI "NotFitting" 20) rfl)
def NI_NotFitting : List Str := ["self", "__class__"]
theorem nd_I_NotFitting : NI_NotFitting.Nodup := by decide +kernel
theorem scI_NotFitting : NScope NI_NotFitting ["self"] ["__class__"] (defScope (iSt 20)) := nscope_by (by kernel_rfl)
def dS_NotFitting : {m : G → M (List D) // ∀ (P : Program) (w : World) (K : PySem.W.Frag) (mg : Str → Option Value) (base : Heap) (h : Hyp P K mg base) (xc : XC K "ValueError" "ValueError.__new__" veT (He.ga K "NotFitting")) (cc cda f : Addr) (E : XK), DA (LCK K) (XN P w K mg base NI_NotFitting 0 (nfS "__init__" ("NotFitting" ++ ".__init__") (defArgs (iSt 20)) (defBody (iSt 20)) (defScope (iSt 20)) cc cda) f E) W0 [supArg (defBody (iSt 20))] m} := ⟨_, fun P w K mg base h xc cc cda f E => (da_cons ((de_str (by decide +kernel))) da_nil)⟩
def dF_NotFitting : {l : List (Str × (G → M D)) // ∀ (P : Program) (w : World) (K : PySem.W.Frag) (mg : Str → Option Value) (base : Heap) (h : Hyp P K mg base) (xc : XC K "ValueError" "ValueError.__new__" veT (He.ga K "NotFitting")) (cc cda f : Addr) (E : XK), DF (LCK K) (XN P w K mg base NI_NotFitting 0 (nfS "__init__" ("NotFitting" ++ ".__init__") (defArgs (iSt 20)) (defBody (iSt 20)) (defScope (iSt 20)) cc cda) f E) (He.ga K "NotFitting") (defBody (iSt 20)).tail l} := ⟨_, fun P w K mg base h xc cc cda f E => df_nil⟩
def FI_NotFitting : List D → M (List (Str × D)) := initF 2 dS_NotFitting.1 dF_NotFitting.1
theorem ini_NotFitting (P : Program) (w : World) {K : PySem.W.Frag} {mg : Str → Option Value} {base : Heap} (h : Hyp P K mg base) : OkI P w K mg base (LCK K) 1 "ValueError" "ValueError.__new__" veT "NotFitting" ["self"] 0 FI_NotFitting := by
  obtain ⟨cc, cda, fd, x⟩ := ix_NotFitting h
  obtain ⟨oc, od, osl, kV, doc, pm, an, ct, rfl, lk⟩ := x.lk
  exact ⟨_, x.xc, x.iC, x.tI, ok_init (N := NI_NotFitting) exB_VE x.xc lk x.cd ⟨⟨oc, od, osl, lk⟩, ⟨_, rfl, rfl⟩, x.code, x.cell, x.cl, g_super h, (mo h).opq⟩ scI_NotFitting (by kernel_rfl) (by kernel_rfl) (by kernel_rfl) h.top (by kernel_rfl) rfl (by decide) x.si x.dc
    (fun E => dS_NotFitting.2 P w K mg base h x.xc cc cda _ E) (fun E => dF_NotFitting.2 P w K mg base h x.xc cc cda _ E), .all fun us hl => match us, hl with | [_], _ => rfl⟩
theorem ix_Clash (h : Hyp P K mg base) : ∃ cc cda fd, InitX P K "ValueError" "ValueError.__new__" "ValueError.__init__" veT "Clash" (mkI "Clash" 21) (He.ma K (He.ga K "Clash") "__init__") cc cda fd := initB_ok h.file (d := mkI "Clash" 21) rfl (List.all_eq_true.mp (mo h).ve "Clash" (by decide +kernel)) (h.c.clo 19 (d := mkI "Clash" 21) rfl)
def NI_Clash : List Str := ["self", "name", "path", "__class__"]
theorem nd_I_Clash : NI_Clash.Nodup := by decide +kernel
theorem scI_Clash : NScope NI_Clash ["self", "name", "path"] ["__class__"] (defScope (iSt 21)) := nscope_by (by kernel_rfl)
def dS_Clash : {m : G → M (List D) // ∀ (P : Program) (w : World) (K : PySem.W.Frag) (mg : Str → Option Value) (base : Heap) (h : Hyp P K mg base) (xc : XC K "ValueError" "ValueError.__new__" veT (He.ga K "Clash")) (cc cda f : Addr) (E : XK), DA (LCK K) (XN P w K mg base NI_Clash 0 (nfS "__init__" ("Clash" ++ ".__init__") (defArgs (iSt 21)) (defBody (iSt 21)) (defScope (iSt 21)) cc cda) f E) W0 [supArg (defBody (iSt 21))] m} := ⟨_, fun P w K mg base h xc cc cda f E => (da_cons ((de_joined (DJ.cons ((de_str (by decide +kernel))) (DJ.cons ((de_fmtR (dp_v (fun _ => pv 1)))) DJ.nil)))) da_nil)⟩
def dF_Clash : {l : List (Str × (G → M D)) // ∀ (P : Program) (w : World) (K : PySem.W.Frag) (mg : Str → Option Value) (base : Heap) (h : Hyp P K mg base) (xc : XC K "ValueError" "ValueError.__new__" veT (He.ga K "Clash")) (cc cda f : Addr) (E : XK), DF (LCK K) (XN P w K mg base NI_Clash 0 (nfS "__init__" ("Clash" ++ ".__init__") (defArgs (iSt 21)) (defBody (iSt 21)) (defScope (iSt 21)) cc cda) f E) (He.ga K "Clash") (defBody (iSt 21)).tail l} := ⟨_, fun P w K mg base h xc cc cda f E => (df_cons exB_VE (fun _ => xc) (tk_of h "Clash" "name" (by decide +kernel)) (fun _ => pv 0) ((de_v (fun _ => pv 1))) (df_cons exB_VE (fun _ => xc) (tk_of h "Clash" "path" (by decide +kernel)) (fun _ => pv 0) ((DO.d (do_list (fun _ => rfl) (fun _ => g_list h) (dq_cons (dp_v (fun _ => pv 2)) dq_nil)))) df_nil))⟩
def FI_Clash : List D → M (List (Str × D)) := initF 4 dS_Clash.1 dF_Clash.1
theorem ini_Clash (P : Program) (w : World) {K : PySem.W.Frag} {mg : Str → Option Value} {base : Heap} (h : Hyp P K mg base) : OkI P w K mg base (LCK K) 1 "ValueError" "ValueError.__new__" veT "Clash" ["self", "name", "path"] 2 FI_Clash := by
  obtain ⟨cc, cda, fd, x⟩ := ix_Clash h
  obtain ⟨oc, od, osl, kV, doc, pm, an, ct, rfl, lk⟩ := x.lk
  exact ⟨_, x.xc, x.iC, x.tI, ok_init (N := NI_Clash) exB_VE x.xc lk x.cd ⟨⟨oc, od, osl, lk⟩, ⟨_, rfl, rfl⟩, x.code, x.cell, x.cl, g_super h, (mo h).opq⟩ scI_Clash (by kernel_rfl) (by kernel_rfl) (by kernel_rfl) h.top (by kernel_rfl) rfl (by decide) x.si x.dc
    (fun E => dS_Clash.2 P w K mg base h x.xc cc cda _ E) (fun E => dF_Clash.2 P w K mg base h x.xc cc cda _ E), .all fun us hl => match us, hl with | [_, _, _], _ => rfl⟩
theorem ix_NothingDone (h : Hyp P K mg base) : ∃ cc cda fd, InitX P K "ValueError" "ValueError.__new__" "ValueError.__init__" veT "NothingDone" (mkI "NothingDone" 22) (He.ma K (He.ga K "NothingDone") "__init__") cc cda fd := initB_ok h.file (d := mkI "NothingDone" 22) rfl (List.all_eq_true.mp (mo h).ve "NothingDone" (by decide +kernel)) (h.c.clo 20 (d := mkI "NothingDone" 22) rfl)
def NI_NothingDone : List Str := ["self", "__class__"]
theorem nd_I_NothingDone : NI_NothingDone.Nodup := by decide +kernel
theorem scI_NothingDone : NScope NI_NothingDone ["self"] ["__class__"] (defScope (iSt 22)) := nscope_by (by kernel_rfl)
def dS_NothingDone : {m : G → M (List D) // ∀ (P : Program) (w : World) (K : PySem.W.Frag) (mg : Str → Option Value) (base : Heap) (h : Hyp P K mg base) (xc : XC K "ValueError" "ValueError.__new__" veT (He.ga K "NothingDone")) (cc cda f : Addr) (E : XK), DA (LCK K) (XN P w K mg base NI_NothingDone 0 (nfS "__init__" ("NothingDone" ++ ".__init__") (defArgs (iSt 22)) (defBody (iSt 22)) (defScope (iSt 22)) cc cda) f E) W0 [supArg (defBody (iSt 22))] m} := ⟨_, fun P w K mg base h xc cc cda f E => (da_cons ((de_str (by decide +kernel))) da_nil)⟩
def dF_NothingDone : {l : List (Str × (G → M D)) // ∀ (P : Program) (w : World) (K : PySem.W.Frag) (mg : Str → Option Value) (base : Heap) (h : Hyp P K mg base) (xc : XC K "ValueError" "ValueError.__new__" veT (He.ga K "NothingDone")) (cc cda f : Addr) (E : XK), DF (LCK K) (XN P w K mg base NI_NothingDone 0 (nfS "__init__" ("NothingDone" ++ ".__init__") (defArgs (iSt 22)) (defBody (iSt 22)) (defScope (iSt 22)) cc cda) f E) (He.ga K "NothingDone") (defBody (iSt 22)).tail l} := ⟨_, fun P w K mg base h xc cc cda f E => df_nil⟩
def FI_NothingDone : List D → M (List (Str × D)) := initF 2 dS_NothingDone.1 dF_NothingDone.1
theorem ini_NothingDone (P : Program) (w : World) {K : PySem.W.Frag} {mg : Str → Option Value} {base : Heap} (h : Hyp P K mg base) : OkI P w K mg base (LCK K) 1 "ValueError" "ValueError.__new__" veT "NothingDone" ["self"] 0 FI_NothingDone := by
  obtain ⟨cc, cda, fd, x⟩ := ix_NothingDone h
  obtain ⟨oc, od, osl, kV, doc, pm, an, ct, rfl, lk⟩ := x.lk
  exact ⟨_, x.xc, x.iC, x.tI, ok_init (N := NI_NothingDone) exB_VE x.xc lk x.cd ⟨⟨oc, od, osl, lk⟩, ⟨_, rfl, rfl⟩, x.code, x.cell, x.cl, g_super h, (mo h).opq⟩ scI_NothingDone (by kernel_rfl) (by kernel_rfl) (by kernel_rfl) h.top (by kernel_rfl) rfl (by decide) x.si x.dc
    (fun E => dS_NothingDone.2 P w K mg base h x.xc cc cda _ E) (fun E => dF_NothingDone.2 P w K mg base h x.xc cc cda _ E), .all fun us hl => match us, hl with | [_], _ => rfl⟩
theorem ix_UnknownGrade (h : Hyp P K mg base) : ∃ cc cda fd, InitX P K "LookupError" "LookupError.__new__" "LookupError.__init__" leT "UnknownGrade" (mkI "UnknownGrade" 24) (He.ma K (He.ga K "UnknownGrade") "__init__") cc cda fd := initB_ok h.file (d := mkI "UnknownGrade" 24) rfl (List.all_eq_true.mp (mo h).le "UnknownGrade" (by decide +kernel)) (h.c.clo 21 (d := mkI "UnknownGrade" 24) rfl)
def NI_UnknownGrade : List Str := ["self", "name", "__class__"]
theorem nd_I_UnknownGrade : NI_UnknownGrade.Nodup := by decide +kernel
theorem scI_UnknownGrade : NScope NI_UnknownGrade ["self", "name"] ["__class__"] (defScope (iSt 24)) := nscope_by (by kernel_rfl)
def dS_UnknownGrade : {m : G → M (List D) // ∀ (P : Program) (w : World) (K : PySem.W.Frag) (mg : Str → Option Value) (base : Heap) (h : Hyp P K mg base) (xc : XC K "LookupError" "LookupError.__new__" leT (He.ga K "UnknownGrade")) (cc cda f : Addr) (E : XK), DA (LCK K) (XN P w K mg base NI_UnknownGrade 0 (nfS "__init__" ("UnknownGrade" ++ ".__init__") (defArgs (iSt 24)) (defBody (iSt 24)) (defScope (iSt 24)) cc cda) f E) W0 [supArg (defBody (iSt 24))] m} := ⟨_, fun P w K mg base h xc cc cda f E => (da_cons ((de_joined (DJ.cons ((de_str (by decide +kernel))) (DJ.cons ((de_fmtR (dp_v (fun _ => pv 1)))) DJ.nil)))) da_nil)⟩
def dF_UnknownGrade : {l : List (Str × (G → M D)) // ∀ (P : Program) (w : World) (K : PySem.W.Frag) (mg : Str → Option Value) (base : Heap) (h : Hyp P K mg base) (xc : XC K "LookupError" "LookupError.__new__" leT (He.ga K "UnknownGrade")) (cc cda f : Addr) (E : XK), DF (LCK K) (XN P w K mg base NI_UnknownGrade 0 (nfS "__init__" ("UnknownGrade" ++ ".__init__") (defArgs (iSt 24)) (defBody (iSt 24)) (defScope (iSt 24)) cc cda) f E) (He.ga K "UnknownGrade") (defBody (iSt 24)).tail l} := ⟨_, fun P w K mg base h xc cc cda f E => (df_cons exB_LE (fun _ => xc) (tk_of h "UnknownGrade" "name" (by decide +kernel)) (fun _ => pv 0) ((de_v (fun _ => pv 1))) df_nil)⟩
def FI_UnknownGrade : List D → M (List (Str × D)) := initF 3 dS_UnknownGrade.1 dF_UnknownGrade.1
theorem ini_UnknownGrade (P : Program) (w : World) {K : PySem.W.Frag} {mg : Str → Option Value} {base : Heap} (h : Hyp P K mg base) : OkI P w K mg base (LCK K) 1 "LookupError" "LookupError.__new__" leT "UnknownGrade" ["self", "name"] 1 FI_UnknownGrade := by
  obtain ⟨cc, cda, fd, x⟩ := ix_UnknownGrade h
  obtain ⟨oc, od, osl, kV, doc, pm, an, ct, rfl, lk⟩ := x.lk
  exact ⟨_, x.xc, x.iC, x.tI, ok_init (N := NI_UnknownGrade) exB_LE x.xc lk x.cd ⟨⟨oc, od, osl, lk⟩, ⟨_, rfl, rfl⟩, x.code, x.cell, x.cl, g_super h, (mo h).opq⟩ scI_UnknownGrade (by kernel_rfl) (by kernel_rfl) (by kernel_rfl) h.top (by kernel_rfl) rfl (by decide) x.si x.dc
    (fun E => dS_UnknownGrade.2 P w K mg base h x.xc cc cda _ E) (fun E => dF_UnknownGrade.2 P w K mg base h x.xc cc cda _ E), .all fun us hl => match us, hl with | [_, _], _ => rfl⟩
theorem ix_UnknownPoint (h : Hyp P K mg base) : ∃ cc cda fd, InitX P K "LookupError" "LookupError.__new__" "LookupError.__init__" leT "UnknownPoint" (mkI "UnknownPoint" 25) (He.ma K (He.ga K "UnknownPoint") "__init__") cc cda fd := initB_ok h.file (d := mkI "UnknownPoint" 25) rfl (List.all_eq_true.mp (mo h).le "UnknownPoint" (by decide +kernel)) (h.c.clo 22 (d := mkI "UnknownPoint" 25) rfl)
def NI_UnknownPoint : List Str := ["self", "name", "__class__"]
theorem nd_I_UnknownPoint : NI_UnknownPoint.Nodup := by decide +kernel
theorem scI_UnknownPoint : NScope NI_UnknownPoint ["self", "name"] ["__class__"] (defScope (iSt 25)) := nscope_by (by kernel_rfl)
def dS_UnknownPoint : {m : G → M (List D) // ∀ (P : Program) (w : World) (K : PySem.W.Frag) (mg : Str → Option Value) (base : Heap) (h : Hyp P K mg base) (xc : XC K "LookupError" "LookupError.__new__" leT (He.ga K "UnknownPoint")) (cc cda f : Addr) (E : XK), DA (LCK K) (XN P w K mg base NI_UnknownPoint 0 (nfS "__init__" ("UnknownPoint" ++ ".__init__") (defArgs (iSt 25)) (defBody (iSt 25)) (defScope (iSt 25)) cc cda) f E) W0 [supArg (defBody (iSt 25))] m} := ⟨_, fun P w K mg base h xc cc cda f E => (da_cons ((de_joined (DJ.cons ((de_str (by decide +kernel))) (DJ.cons ((de_fmtR (dp_v (fun _ => pv 1)))) DJ.nil)))) da_nil)⟩
def dF_UnknownPoint : {l : List (Str × (G → M D)) // ∀ (P : Program) (w : World) (K : PySem.W.Frag) (mg : Str → Option Value) (base : Heap) (h : Hyp P K mg base) (xc : XC K "LookupError" "LookupError.__new__" leT (He.ga K "UnknownPoint")) (cc cda f : Addr) (E : XK), DF (LCK K) (XN P w K mg base NI_UnknownPoint 0 (nfS "__init__" ("UnknownPoint" ++ ".__init__") (defArgs (iSt 25)) (defBody (iSt 25)) (defScope (iSt 25)) cc cda) f E) (He.ga K "UnknownPoint") (defBody (iSt 25)).tail l} := ⟨_, fun P w K mg base h xc cc cda f E => (df_cons exB_LE (fun _ => xc) (tk_of h "UnknownPoint" "name" (by decide +kernel)) (fun _ => pv 0) ((de_v (fun _ => pv 1))) df_nil)⟩
def FI_UnknownPoint : List D → M (List (Str × D)) := initF 3 dS_UnknownPoint.1 dF_UnknownPoint.1
theorem ini_UnknownPoint (P : Program) (w : World) {K : PySem.W.Frag} {mg : Str → Option Value} {base : Heap} (h : Hyp P K mg base) : OkI P w K mg base (LCK K) 1 "LookupError" "LookupError.__new__" leT "UnknownPoint" ["self", "name"] 1 FI_UnknownPoint := by
  obtain ⟨cc, cda, fd, x⟩ := ix_UnknownPoint h
  obtain ⟨oc, od, osl, kV, doc, pm, an, ct, rfl, lk⟩ := x.lk
  exact ⟨_, x.xc, x.iC, x.tI, ok_init (N := NI_UnknownPoint) exB_LE x.xc lk x.cd ⟨⟨oc, od, osl, lk⟩, ⟨_, rfl, rfl⟩, x.code, x.cell, x.cl, g_super h, (mo h).opq⟩ scI_UnknownPoint (by kernel_rfl) (by kernel_rfl) (by kernel_rfl) h.top (by kernel_rfl) rfl (by decide) x.si x.dc
    (fun E => dS_UnknownPoint.2 P w K mg base h x.xc cc cda _ E) (fun E => dF_UnknownPoint.2 P w K mg base h x.xc cc cda _ E), .all fun us hl => match us, hl with | [_, _], _ => rfl⟩
theorem ix_NotTold (h : Hyp P K mg base) : ∃ cc cda fd, InitX P K "LookupError" "LookupError.__new__" "LookupError.__init__" leT "NotTold" (mkI "NotTold" 26) (He.ma K (He.ga K "NotTold") "__init__") cc cda fd := initB_ok h.file (d := mkI "NotTold" 26) rfl (List.all_eq_true.mp (mo h).le "NotTold" (by decide +kernel)) (h.c.clo 23 (d := mkI "NotTold" 26) rfl)
def NI_NotTold : List Str := ["self", "name", "__class__"]
theorem nd_I_NotTold : NI_NotTold.Nodup := by decide +kernel
theorem scI_NotTold : NScope NI_NotTold ["self", "name"] ["__class__"] (defScope (iSt 26)) := nscope_by (by kernel_rfl)
def dS_NotTold : {m : G → M (List D) // ∀ (P : Program) (w : World) (K : PySem.W.Frag) (mg : Str → Option Value) (base : Heap) (h : Hyp P K mg base) (xc : XC K "LookupError" "LookupError.__new__" leT (He.ga K "NotTold")) (cc cda f : Addr) (E : XK), DA (LCK K) (XN P w K mg base NI_NotTold 0 (nfS "__init__" ("NotTold" ++ ".__init__") (defArgs (iSt 26)) (defBody (iSt 26)) (defScope (iSt 26)) cc cda) f E) W0 [supArg (defBody (iSt 26))] m} := ⟨_, fun P w K mg base h xc cc cda f E => (da_cons ((de_joined (DJ.cons ((de_str (by decide +kernel))) (DJ.cons ((de_fmtR (dp_v (fun _ => pv 1)))) DJ.nil)))) da_nil)⟩
def dF_NotTold : {l : List (Str × (G → M D)) // ∀ (P : Program) (w : World) (K : PySem.W.Frag) (mg : Str → Option Value) (base : Heap) (h : Hyp P K mg base) (xc : XC K "LookupError" "LookupError.__new__" leT (He.ga K "NotTold")) (cc cda f : Addr) (E : XK), DF (LCK K) (XN P w K mg base NI_NotTold 0 (nfS "__init__" ("NotTold" ++ ".__init__") (defArgs (iSt 26)) (defBody (iSt 26)) (defScope (iSt 26)) cc cda) f E) (He.ga K "NotTold") (defBody (iSt 26)).tail l} := ⟨_, fun P w K mg base h xc cc cda f E => (df_cons exB_LE (fun _ => xc) (tk_of h "NotTold" "name" (by decide +kernel)) (fun _ => pv 0) ((de_v (fun _ => pv 1))) df_nil)⟩
def FI_NotTold : List D → M (List (Str × D)) := initF 3 dS_NotTold.1 dF_NotTold.1
theorem ini_NotTold (P : Program) (w : World) {K : PySem.W.Frag} {mg : Str → Option Value} {base : Heap} (h : Hyp P K mg base) : OkI P w K mg base (LCK K) 1 "LookupError" "LookupError.__new__" leT "NotTold" ["self", "name"] 1 FI_NotTold := by
  obtain ⟨cc, cda, fd, x⟩ := ix_NotTold h
  obtain ⟨oc, od, osl, kV, doc, pm, an, ct, rfl, lk⟩ := x.lk
  exact ⟨_, x.xc, x.iC, x.tI, ok_init (N := NI_NotTold) exB_LE x.xc lk x.cd ⟨⟨oc, od, osl, lk⟩, ⟨_, rfl, rfl⟩, x.code, x.cell, x.cl, g_super h, (mo h).opq⟩ scI_NotTold (by kernel_rfl) (by kernel_rfl) (by kernel_rfl) h.top (by kernel_rfl) rfl (by decide) x.si x.dc
    (fun E => dS_NotTold.2 P w K mg base h x.xc cc cda _ E) (fun E => dF_NotTold.2 P w K mg base h x.xc cc cda _ E), .all fun us hl => match us, hl with | [_, _], _ => rfl⟩
end
def N__law_source : List Str := ["script", "mixed", "cell", "cells", "k"]
theorem nd__law_source : N__law_source.Nodup := by decide +kernel
theorem sc__law_source : FnScope N__law_source ["script"] (defScope (top 28)) := fsc_by (by kernel_rfl)
def d__law_source : {m : SM // ∀ (P : Program) (w : World) (K : PySem.W.Frag) (mg : Str → Option Value) (base : Heap) (h : Hyp P K mg base) (E : XK), DSs (LCK K) (XD P w K mg base N__law_source 0 "_law_source" (defScope (top 28)) (He.ga K "_law_source") E) (WD E) (defBody (top 28)) m} := ⟨_, fun P w K mg base h E =>
    (dss_cons (ds_set (i := 1) (fun _ => nd__law_source) (fun _ => rfl) (fun _ => .inl rfl) (DE.o de_int))
    (dss_cons (ds_for (fun i => po_def i) (fun _ => rfl) (dit_scr ((de_v (fun _ => pv 0)))) (dg_name (i := 2) (fun _ => nd__law_source) (fun _ => rfl) (fun _ => .inl rfl)) (dss_one (ds_set (i := 1) (fun _ => nd__law_source) (fun _ => rfl) (fun _ => .inl rfl) (DE.o (de_mod (DE.p (DO.d (do_int (fun _ => rfl) (fun _ => g_int h) (dq_cons (DE.p (DO.d (do_add ((DO.d (do_add ((DO.d (do_mul ((de_v (fun _ => pv 1))) (de_int)))) ((DO.d (do_mul ((de_v (fun _ => pv 2))) (de_int))))))) (de_int)))) dq_nil)))) (DE.p de_int))))))
    (dss_cons (ds_set (i := 3) (fun _ => nd__law_source) (fun _ => rfl) (fun _ => .inr rfl) (do_lc (own := [("cell", 2)]) (fun _ => rfl) (fun _ => nd__law_source) (fun _ => blk_by (by kernel_rfl)) rfl (dit_scr ((de_v (fun _ => pv 0)))) (dg_name (i := 2) (fun _ => nd__law_source) (fun _ => rfl) (fun _ => .inl rfl)) dts_nil ((DO.d (do_abs (fun _ => rfl) (fun _ => g_abs h) (dq_cons (dp_v (fun _ => pv 2)) dq_nil)))) (by decide)))
    (dss_one (ds_ret (do_disp (dps_cons (de_cell ((do_lc (own := [("k", 4)]) (fun _ => rfl) (fun _ => nd__law_source) (fun _ => blk_by (by kernel_rfl)) rfl (dit_range1 (fun _ => rfl) (fun _ => g_range h) (DE.p (DO.d (do_len (fun _ => rfl) (fun _ => g_len h) (dq_cons (dp_v (fun _ => pv 3)) dq_nil))))) (dg_name (i := 4) (fun _ => nd__law_source) (fun _ => rfl) (fun _ => .inl rfl)) dts_nil ((de_ix (fun i => hu1 i.i.hr) (dp_v (fun _ => pv 3)) (DE.p (de_sub (DE.p (de_sub (DE.p (DO.d (do_len (fun _ => rfl) (fun _ => g_len h) (dq_cons (dp_v (fun _ => pv 3)) dq_nil)))) (DE.p de_int))) (dp_v (fun _ => pv 4)))))) (by decide)))) (dps_cons (de_int) (dps_cons ((de_v (fun _ => pv 1))) (dps_cons (de_int) dps_nil))))))))))⟩
def F__law_source : List D → M DV := runB d__law_source.1 5
theorem ok__law_source (P : Program) (w : World) {K : PySem.W.Frag} {mg : Str → Option Value} {base : Heap} (h : Hyp P K mg base) : OkD P w K mg base (LCK K) 1 (He.ga K "_law_source") ["script"] 1 F__law_source := by
  obtain ⟨fd, FD⟩ := h.c.def_ 0 (d := mkD "_law_source" 28) rfl
  exact ⟨fd, fn_okF (N := N__law_source) FD sc__law_source fun E => d__law_source.2 P w K mg base h E, FD.bindsN fun _ _ _ _ _ _ us hl => match us, hl with | [_], _ => rfl, FD.kp⟩
def N__law_pick : List Str := ["source", "many", "cells", "left", "turn", "mixed"]
theorem nd__law_pick : N__law_pick.Nodup := by decide +kernel
theorem sc__law_pick : FnScope N__law_pick ["source", "many"] (defScope (top 29)) := fsc_by (by kernel_rfl)
def d__law_pick : {m : SM // ∀ (P : Program) (w : World) (K : PySem.W.Frag) (mg : Str → Option Value) (base : Heap) (h : Hyp P K mg base) (E : XK), DSs (LCK K) (XD P w K mg base N__law_pick 0 "_law_pick" (defScope (top 29)) (He.ga K "_law_pick") E) (WD E) (defBody (top 29)) m} := ⟨_, fun P w K mg base h E =>
    (dss_cons (ds_if ((dt_cmp cm_lt (dp_v (fun _ => pv 1)) (DE.p de_int))) (dss_one (ds_ret (DE.o de_int))) dss_nil)
    (dss_cons (ds_set (i := 2) (fun _ => nd__law_pick) (fun _ => rfl) (fun _ => .inl rfl) (DE.o (de_ix (fun i => hu1 i.hr) (dp_v (fun _ => pv 0)) (DE.p (de_str (by decide +kernel))))))
    (dss_cons (ds_while 80 (fun i => po_def i) ((DW.t (dw_and ((dt_cmp cm_lt (DE.p (de_ix (fun i => hu1 i.hr) (dp_v (fun _ => pv 0)) (DE.p (de_str (by decide +kernel))))) (DE.p de_int))) (dw_and1 ((dt_cmp cm_gt (DE.p (DO.d (do_len (fun _ => rfl) (fun _ => g_len h) (dq_cons (dp_v (fun _ => pv 2)) dq_nil)))) (DE.p de_int))))))) (dss_one (ds_dput (i := 0) (fun i => hu1 i.hr) (fun _ => pv 0) ((de_str (by decide +kernel))) ((DO.d (do_pop ((de_v (fun _ => pv 2)))))))))
    (dss_cons (ds_set (i := 3) (fun _ => nd__law_pick) (fun _ => rfl) (fun _ => .inl rfl) (DE.o (de_ix (fun i => hu1 i.hr) (dp_v (fun _ => pv 0)) (DE.p (de_str (by decide +kernel))))))
    (dss_cons (ds_if ((dt_cmp cm_gt (dp_v (fun _ => pv 3)) (DE.p de_int))) (dss_cons (ds_dput (i := 0) (fun i => hu1 i.hr) (fun _ => pv 0) ((de_str (by decide +kernel))) ((de_fdiv (dp_v (fun _ => pv 3)) (dp_v (fun _ => pv 1)))))
    (dss_one (ds_ret (DE.o (de_mod (DE.p (DO.d (do_int (fun _ => rfl) (fun _ => g_int h) (dq_cons (dp_v (fun _ => pv 3)) dq_nil)))) (dp_v (fun _ => pv 1))))))) dss_nil)
    (dss_cons (ds_dput (i := 0) (fun i => hu1 i.hr) (fun _ => pv 0) ((de_str (by decide +kernel))) ((DO.d (do_add ((de_ix (fun i => hu1 i.hr) (dp_v (fun _ => pv 0)) (DE.p (de_str (by decide +kernel))))) (de_int)))))
    (dss_cons (ds_set (i := 4) (fun _ => nd__law_pick) (fun _ => rfl) (fun _ => .inl rfl) (DE.o (de_ix (fun i => hu1 i.hr) (dp_v (fun _ => pv 0)) (DE.p (de_str (by decide +kernel))))))
    (dss_cons (ds_set (i := 5) (fun _ => nd__law_pick) (fun _ => rfl) (fun _ => .inl rfl) (DE.o (de_mod (DE.p (DO.d (do_int (fun _ => rfl) (fun _ => g_int h) (dq_cons (DE.p (DO.d (do_add ((de_ix (fun i => hu1 i.hr) (dp_v (fun _ => pv 0)) (DE.p (de_str (by decide +kernel))))) ((DO.d (do_mul ((de_v (fun _ => pv 4))) (de_int))))))) dq_nil)))) (DE.p de_int))))
    (dss_cons (ds_set (i := 5) (fun _ => nd__law_pick) (fun _ => rfl) (fun _ => .inl rfl) (DE.o (de_mod (DE.p (DO.d (do_int (fun _ => rfl) (fun _ => g_int h) (dq_cons (DE.p (DO.d (do_add ((DO.d (do_mul ((de_v (fun _ => pv 5))) ((de_v (fun _ => pv 5)))))) ((DO.d (do_mul ((de_v (fun _ => pv 4))) (de_int))))))) dq_nil)))) (DE.p de_int))))
    (dss_cons (ds_if ((dt_cmp cm_gt (dp_v (fun _ => pv 1)) (DE.p (de_pow (DE.p de_int) (DE.p de_int))))) (dss_one (ds_set (i := 5) (fun _ => nd__law_pick) (fun _ => rfl) (fun _ => .inl rfl) (DE.o (de_pow (DE.p (DO.d (do_int (fun _ => rfl) (fun _ => g_int h) (dq_cons (DE.p (DO.d (do_add ((DO.d (do_mul ((de_v (fun _ => pv 5))) (de_int)))) ((de_v (fun _ => pv 4)))))) dq_nil)))) (DE.p de_int))))) dss_nil)
    (dss_one (ds_ret (DE.o (de_mod (DE.p (DO.d (do_int (fun _ => rfl) (fun _ => g_int h) (dq_cons (DE.p (de_fdiv (dp_v (fun _ => pv 5)) (DE.p de_int))) dq_nil)))) (dp_v (fun _ => pv 1))))))))))))))))⟩
def F__law_pick : List D → M DV := runB d__law_pick.1 6
theorem ok__law_pick (P : Program) (w : World) {K : PySem.W.Frag} {mg : Str → Option Value} {base : Heap} (h : Hyp P K mg base) : OkD P w K mg base (LCK K) 1 (He.ga K "_law_pick") ["source", "many"] 2 F__law_pick := by
  obtain ⟨fd, FD⟩ := h.c.def_ 1 (d := mkD "_law_pick" 29) rfl
  exact ⟨fd, fn_okF (N := N__law_pick) FD sc__law_pick fun E => d__law_pick.2 P w K mg base h E, FD.bindsN fun _ _ _ _ _ _ us hl => match us, hl with | [_, _], _ => rfl, FD.kp⟩
def N__law_word : List Str := ["source"]
theorem nd__law_word : N__law_word.Nodup := by decide +kernel
theorem sc__law_word : FnScope N__law_word ["source"] (defScope (top 30)) := fsc_by (by kernel_rfl)
def d__law_word : {m : SM // ∀ (P : Program) (w : World) (K : PySem.W.Frag) (mg : Str → Option Value) (base : Heap) (h : Hyp P K mg base) (E : XK), DSs (LCK K) (XD P w K mg base N__law_word 1 "_law_word" (defScope (top 30)) (He.ga K "_law_word") E) (WD E) (defBody (top 30)) m} := ⟨_, fun P w K mg base h E =>
    (dss_one (ds_ret (do_add ((de_ix (fun i => hu1 i.hr) (DE.p (de_str (by decide +kernel))) (DE.p (DO.d (do_callD (ok__law_pick P w h) (fun _ => ⟨rfl, rfl, rfl, rfl, rfl⟩) (fun i => i.hr.mono (by decide)) (fun _ => rfl) (g__law_pick h) pas_def (da_cons ((de_v (fun _ => pv 0))) (da_cons (de_int) da_nil))))))) ((DO.d (do_str (fun _ => rfl) (fun _ => g_str h) (dq_cons (DE.p (DO.d (do_callD (ok__law_pick P w h) (fun _ => ⟨rfl, rfl, rfl, rfl, rfl⟩) (fun i => i.hr.mono (by decide)) (fun _ => rfl) (g__law_pick h) pas_def (da_cons ((de_v (fun _ => pv 0))) (da_cons ((de_pow (DE.p de_int) (DE.p de_int))) da_nil))))) dq_nil)))))))⟩
def F__law_word : List D → M DV := runB d__law_word.1 1
theorem ok__law_word (P : Program) (w : World) {K : PySem.W.Frag} {mg : Str → Option Value} {base : Heap} (h : Hyp P K mg base) : OkD P w K mg base (LCK K) 2 (He.ga K "_law_word") ["source"] 1 F__law_word := by
  obtain ⟨fd, FD⟩ := h.c.def_ 2 (d := mkD "_law_word" 30) rfl
  exact ⟨fd, fn_okF (N := N__law_word) FD sc__law_word fun E => d__law_word.2 P w K mg base h E, FD.bindsN fun _ _ _ _ _ _ us hl => match us, hl with | [_], _ => rfl, FD.kp⟩
def N__law_plain : List Str := ["rows"]
theorem nd__law_plain : N__law_plain.Nodup := by decide +kernel
theorem sc__law_plain : FnScope N__law_plain [] (defScope (top 31)) := fsc_by (by kernel_rfl)
def d__law_plain : {m : SM // ∀ (P : Program) (w : World) (K : PySem.W.Frag) (mg : Str → Option Value) (base : Heap) (h : Hyp P K mg base) (E : XK), DSs (LCK K) (XD P w K mg base N__law_plain 2 "_law_plain" (defScope (top 31)) (He.ga K "_law_plain") E) (WD E) (defBody (top 31)) m} := ⟨_, fun P w K mg base h E =>
    (dss_cons (ds_set (i := 0) (fun _ => nd__law_plain) (fun _ => rfl) (fun _ => .inl rfl) (do_lst (da_cons ((de_mk0 exB_VE (ini_BadScale P w h) rfl (fun _ => ⟨rfl, rfl, rfl, rfl, rfl⟩) (fun i => i.hr.mono (by decide)) (fun _ => rfl) (g_BadScale h))) (da_cons ((de_mk0 exB_VE (ini_BadTable P w h) rfl (fun _ => ⟨rfl, rfl, rfl, rfl, rfl⟩) (fun i => i.hr.mono (by decide)) (fun _ => rfl) (g_BadTable h))) (da_cons ((de_mk0 exB_VE (ini_MixedScales P w h) rfl (fun _ => ⟨rfl, rfl, rfl, rfl, rfl⟩) (fun i => i.hr.mono (by decide)) (fun _ => rfl) (g_MixedScales h))) (da_cons ((de_mk0 exB_VE (ini_MixedSpaces P w h) rfl (fun _ => ⟨rfl, rfl, rfl, rfl, rfl⟩) (fun i => i.hr.mono (by decide)) (fun _ => rfl) (g_MixedSpaces h))) (da_cons ((de_mk0 exB_VE (ini_BadImages P w h) rfl (fun _ => ⟨rfl, rfl, rfl, rfl, rfl⟩) (fun i => i.hr.mono (by decide)) (fun _ => rfl) (g_BadImages h))) (da_cons ((de_mk0 exB_VE (ini_TooMany P w h) rfl (fun _ => ⟨rfl, rfl, rfl, rfl, rfl⟩) (fun i => i.hr.mono (by decide)) (fun _ => rfl) (g_TooMany h))) (da_cons ((de_mk0 exB_VE (ini_NotClosed P w h) rfl (fun _ => ⟨rfl, rfl, rfl, rfl, rfl⟩) (fun i => i.hr.mono (by decide)) (fun _ => rfl) (g_NotClosed h))) (da_cons ((de_mk0 exB_VE (ini_NotKept P w h) rfl (fun _ => ⟨rfl, rfl, rfl, rfl, rfl⟩) (fun i => i.hr.mono (by decide)) (fun _ => rfl) (g_NotKept h))) da_nil))))))))))
    (dss_one (ds_fz 0 (ds_ret (do_add ((de_v (fun _ => pv 0))) ((DO.d (do_lst (da_cons ((de_mk0 exB_VE (ini_NotLoose P w h) rfl (fun _ => ⟨rfl, rfl, rfl, rfl, rfl⟩) (fun i => i.hr.mono (by decide)) (fun _ => rfl) (g_NotLoose h))) (da_cons ((de_mk0 exB_VE (ini_NotFitting P w h) rfl (fun _ => ⟨rfl, rfl, rfl, rfl, rfl⟩) (fun i => i.hr.mono (by decide)) (fun _ => rfl) (g_NotFitting h))) (da_cons ((de_mk0 exB_VE (ini_NothingDone P w h) rfl (fun _ => ⟨rfl, rfl, rfl, rfl, rfl⟩) (fun i => i.hr.mono (by decide)) (fun _ => rfl) (g_NothingDone h))) da_nil)))))))))))⟩
def F__law_plain : List D → M DV := runB d__law_plain.1 1
theorem ok__law_plain (P : Program) (w : World) {K : PySem.W.Frag} {mg : Str → Option Value} {base : Heap} (h : Hyp P K mg base) : OkD P w K mg base (LCK K) 3 (He.ga K "_law_plain") [] 0 F__law_plain := by
  obtain ⟨fd, FD⟩ := h.c.def_ 3 (d := mkD "_law_plain" 31) rfl
  exact ⟨fd, fn_okF (N := N__law_plain) FD sc__law_plain fun E => d__law_plain.2 P w K mg base h E, FD.bindsN fun _ _ _ _ _ _ us hl => match us, hl with | [], _ => rfl, FD.kp⟩
def N__law_named : List Str := ["words", "number", "names", "points", "threes", "path", "pair", "given", "clash", "e"]
theorem nd__law_named : N__law_named.Nodup := by decide +kernel
theorem sc__law_named : FnScope N__law_named ["words", "number"] (defScope (top 32)) := fsc_by (by kernel_rfl)
def d__law_named : {m : SM // ∀ (P : Program) (w : World) (K : PySem.W.Frag) (mg : Str → Option Value) (base : Heap) (h : Hyp P K mg base) (E : XK), DSs (LCK K) (XD P w K mg base N__law_named 2 "_law_named" (defScope (top 32)) (He.ga K "_law_named") E) (WD E) (defBody (top 32)) m} := ⟨_, fun P w K mg base h E =>
    (dss_cons (ds_set (i := 2) (fun _ => nd__law_named) (fun _ => rfl) (fun _ => .inl rfl) (do_lst (da_cons ((de_mk exB_VE (ini_BadName P w h) rfl (fun _ => ⟨rfl, rfl, rfl, rfl, rfl⟩) (fun i => i.hr.mono (by decide)) (fun _ => rfl) (g_BadName h) (da_cons ((de_ix (fun i => hu1 i.hr) (dp_v (fun _ => pv 0)) (DE.p de_int))) da_nil))) (da_cons ((de_mk exB_VE (ini_TwiceTold P w h) rfl (fun _ => ⟨rfl, rfl, rfl, rfl, rfl⟩) (fun i => i.hr.mono (by decide)) (fun _ => rfl) (g_TwiceTold h) (da_cons ((de_ix (fun i => hu1 i.hr) (dp_v (fun _ => pv 0)) (DE.p de_int))) da_nil))) da_nil))))
    (dss_cons (ds_set (i := 3) (fun _ => nd__law_named) (fun _ => rfl) (fun _ => .inl rfl) (do_lst (da_cons ((de_mk exB_VE (ini_NotSame P w h) rfl (fun _ => ⟨rfl, rfl, rfl, rfl, rfl⟩) (fun i => i.hr.mono (by decide)) (fun _ => rfl) (g_NotSame h) (da_cons ((de_ix (fun i => hu1 i.hr) (dp_v (fun _ => pv 0)) (DE.p de_int))) da_nil))) (da_cons ((de_mk exB_VE (ini_Stretched P w h) rfl (fun _ => ⟨rfl, rfl, rfl, rfl, rfl⟩) (fun i => i.hr.mono (by decide)) (fun _ => rfl) (g_Stretched h) (da_cons ((de_ix (fun i => hu1 i.hr) (dp_v (fun _ => pv 0)) (DE.p de_int))) (da_cons ((de_ix (fun i => hu1 i.hr) (dp_v (fun _ => pv 0)) (DE.p de_int))) da_nil)))) da_nil))))
    (dss_cons (ds_set (i := 4) (fun _ => nd__law_named) (fun _ => rfl) (fun _ => .inl rfl) (do_lst (da_cons ((de_mk exB_VE (ini_NotThrough P w h) rfl (fun _ => ⟨rfl, rfl, rfl, rfl, rfl⟩) (fun i => i.hr.mono (by decide)) (fun _ => rfl) (g_NotThrough h) (da_cons ((de_ix (fun i => hu1 i.hr) (dp_v (fun _ => pv 0)) (DE.p de_int))) (da_cons ((de_ix (fun i => hu1 i.hr) (dp_v (fun _ => pv 0)) (DE.p de_int))) (da_cons ((de_ix (fun i => hu1 i.hr) (dp_v (fun _ => pv 0)) (DE.p de_int))) da_nil))))) (da_cons ((de_mk exB_VE (ini_NotAhead P w h) rfl (fun _ => ⟨rfl, rfl, rfl, rfl, rfl⟩) (fun i => i.hr.mono (by decide)) (fun _ => rfl) (g_NotAhead h) (da_cons ((de_ix (fun i => hu1 i.hr) (dp_v (fun _ => pv 0)) (DE.p de_int))) (da_cons ((de_ix (fun i => hu1 i.hr) (dp_v (fun _ => pv 0)) (DE.p de_int))) (da_cons ((de_ix (fun i => hu1 i.hr) (dp_v (fun _ => pv 0)) (DE.p de_int))) da_nil))))) da_nil))))
    (dss_cons (ds_app (i := 4) (fun _ => pv 4) ((de_mk exB_VE (ini_NotBehind P w h) rfl (fun _ => ⟨rfl, rfl, rfl, rfl, rfl⟩) (fun i => i.hr.mono (by decide)) (fun _ => rfl) (g_NotBehind h) (da_cons ((de_ix (fun i => hu1 i.hr) (dp_v (fun _ => pv 0)) (DE.p de_int))) (da_cons ((de_ix (fun i => hu1 i.hr) (dp_v (fun _ => pv 0)) (DE.p de_int))) (da_cons ((de_ix (fun i => hu1 i.hr) (dp_v (fun _ => pv 0)) (DE.p de_int))) da_nil))))))
    (dss_cons (ds_set (i := 5) (fun _ => nd__law_named) (fun _ => rfl) (fun _ => .inl rfl) (DE.o (de_mk exB_VE (ini_BadPath P w h) rfl (fun _ => ⟨rfl, rfl, rfl, rfl, rfl⟩) (fun i => i.hr.mono (by decide)) (fun _ => rfl) (g_BadPath h) (da_cons ((de_v (fun _ => pv 1))) da_nil))))
    (dss_cons (ds_set (i := 6) (fun _ => nd__law_named) (fun _ => rfl) (fun _ => .inl rfl) (DE.o (de_mk exB_VE (ini_BarePair P w h) rfl (fun _ => ⟨rfl, rfl, rfl, rfl, rfl⟩) (fun i => i.hr.mono (by decide)) (fun _ => rfl) (g_BarePair h) (da_cons ((de_tup (da_cons ((de_ix (fun i => hu1 i.hr) (dp_v (fun _ => pv 0)) (DE.p de_int))) da_nil))) (da_cons ((de_tup (da_cons ((de_ix (fun i => hu1 i.hr) (dp_v (fun _ => pv 0)) (DE.p de_int))) da_nil))) da_nil)))))
    (dss_cons (ds_set (i := 7) (fun _ => nd__law_named) (fun _ => rfl) (fun _ => .inl rfl) (DE.o (de_cell (do_lst (da_cons ((de_ix (fun i => hu1 i.hr) (dp_v (fun _ => pv 0)) (DE.p de_int))) (da_cons ((de_ix (fun i => hu1 i.hr) (dp_v (fun _ => pv 0)) (DE.p de_int))) da_nil))))))
    (dss_cons (ds_set (i := 8) (fun _ => nd__law_named) (fun _ => rfl) (fun _ => .inl rfl) (DE.o (de_mk exB_VE (ini_Clash P w h) rfl (fun _ => ⟨rfl, rfl, rfl, rfl, rfl⟩) (fun i => i.hr.mono (by decide)) (fun _ => rfl) (g_Clash h) (da_cons ((de_ix (fun i => hu1 i.hr) (dp_v (fun _ => pv 0)) (DE.p de_int))) (da_cons ((de_v (fun _ => pv 7))) da_nil)))))
    (dss_cons (ds_app (i := 7) (fun _ => pv 7) ((de_str (by decide +kernel))))
    (dss_cons (ds_fz 3 (ds_fz 2 (ds_if ((DW.t (dw_or ((dt_in (fun i => hu65 i.hr) (DE.p de_bl) (DE.p (DO.d (do_lc (own := [("e", 9)]) (fun _ => rfl) (fun _ => nd__law_named) (fun _ => blk_by (by kernel_rfl)) rfl (dit_seq ((de_v (fun _ => pv 2)))) (dg_name (i := 9) (fun _ => nd__law_named) (fun _ => rfl) (fun _ => .inl rfl)) dts_nil ((de_cmp (cm_eq (fun i => hu64 i.i.hr)) (DE.p (de_xat (cs := csOf "name") ((de_v (fun _ => pv 9))) (xa_of h))) (DE.p (de_ix (fun i => hu1 i.i.hr) (dp_v (fun _ => pv 0)) (DE.p de_int))))) (by decide)))))) (dw_or1 ((dt_in (fun i => hu65 i.hr) (DE.p de_bl) (DE.p (DO.d (do_lc (own := [("e", 9)]) (fun _ => rfl) (fun _ => nd__law_named) (fun _ => blk_by (by kernel_rfl)) rfl (dit_seq ((de_v (fun _ => pv 3)))) (dg_name (i := 9) (fun _ => nd__law_named) (fun _ => rfl) (fun _ => .inl rfl)) dts_nil ((de_cmp (cm_eq (fun i => hu64 i.i.hr)) (DE.p (de_xat (cs := csOf "x") ((de_v (fun _ => pv 9))) (xa_of h))) (DE.p (de_ix (fun i => hu1 i.i.hr) (dp_v (fun _ => pv 0)) (DE.p de_int))))) (by decide)))))))))) (dss_one (ds_ret (do_lst da_nil))) dss_nil)))
    (dss_cons (ds_fz 4 (ds_if ((DW.t (dw_or ((dt_cmp (cm_ne (fun i => hu64 i.hr)) (DE.p (de_xat (cs := csOf "y") ((de_ix (fun i => hu1 i.hr) (dp_v (fun _ => pv 3)) (DE.p de_int))) (xa_of h))) (DE.p (de_ix (fun i => hu1 i.hr) (dp_v (fun _ => pv 0)) (DE.p de_int))))) (dw_or1 ((dt_in (fun i => hu65 i.hr) (DE.p de_bl) (DE.p (DO.d (do_lc (own := [("e", 9)]) (fun _ => rfl) (fun _ => nd__law_named) (fun _ => blk_by (by kernel_rfl)) rfl (dit_seq ((de_v (fun _ => pv 4)))) (dg_name (i := 9) (fun _ => nd__law_named) (fun _ => rfl) (fun _ => .inl rfl)) dts_nil ((de_cmp (cm_eq (fun i => hu64 i.i.hr)) (DE.p (DO.d (do_lst (da_cons ((de_xat (cs := csOf "x") ((de_v (fun _ => pv 9))) (xa_of h))) (da_cons ((de_xat (cs := csOf "y") ((de_v (fun _ => pv 9))) (xa_of h))) (da_cons ((de_xat (cs := csOf "z") ((de_v (fun _ => pv 9))) (xa_of h))) da_nil)))))) (dp_v (fun _ => pv 0)))) (by decide)))))))))) (dss_one (ds_ret (do_lst da_nil))) dss_nil))
    (dss_cons (ds_if ((DW.t (dw_or ((dt_cmp (cm_ne (fun i => hu64 i.hr)) (DE.p (de_xat (cs := csOf "number") ((de_v (fun _ => pv 5))) (xa_of h))) (dp_v (fun _ => pv 1)))) (dw_or1 ((dt_cmp (cm_ne (fun i => hu64 i.hr)) (DE.p (de_tup (da_cons ((de_xat (cs := csOf "column") ((de_v (fun _ => pv 6))) (xa_of h))) (da_cons ((de_xat (cs := csOf "row") ((de_v (fun _ => pv 6))) (xa_of h))) da_nil)))) (DE.p (de_tup (da_cons ((de_tup (da_cons ((de_ix (fun i => hu1 i.hr) (dp_v (fun _ => pv 0)) (DE.p de_int))) da_nil))) (da_cons ((de_tup (da_cons ((de_ix (fun i => hu1 i.hr) (dp_v (fun _ => pv 0)) (DE.p de_int))) da_nil))) da_nil)))))))))) (dss_one (ds_ret (do_lst da_nil))) dss_nil)
    (dss_cons (ds_if ((DW.t (dw_or ((dt_cmp (cm_ne (fun i => hu64 i.hr)) (DE.p (de_xat (cs := csOf "name") ((de_v (fun _ => pv 8))) (xa_of h))) (DE.p (de_ix (fun i => hu1 i.hr) (dp_v (fun _ => pv 0)) (DE.p de_int))))) (dw_or1 ((dt_cmp (cm_ne (fun i => hu64 i.hr)) (DE.p (de_xat (cs := csOf "path") ((de_v (fun _ => pv 8))) (xa_of h))) (DE.p (DO.d (do_lst (da_cons ((de_ix (fun i => hu1 i.hr) (dp_v (fun _ => pv 0)) (DE.p de_int))) (da_cons ((de_ix (fun i => hu1 i.hr) (dp_v (fun _ => pv 0)) (DE.p de_int))) da_nil))))))))))) (dss_one (ds_ret (do_lst da_nil))) dss_nil)
    (dss_one (ds_fz 4 (ds_fz 3 (ds_fz 2 (ds_ret (do_add ((DO.d (do_add ((DO.d (do_add ((de_v (fun _ => pv 2))) ((de_v (fun _ => pv 3)))))) ((de_v (fun _ => pv 4)))))) ((DO.d (do_lst (da_cons ((de_v (fun _ => pv 5))) (da_cons ((de_v (fun _ => pv 6))) (da_cons ((de_v (fun _ => pv 8))) da_nil)))))))))))))))))))))))))⟩
def F__law_named : List D → M DV := runB d__law_named.1 10
theorem ok__law_named (P : Program) (w : World) {K : PySem.W.Frag} {mg : Str → Option Value} {base : Heap} (h : Hyp P K mg base) : OkD P w K mg base (LCK K) 3 (He.ga K "_law_named") ["words", "number"] 2 F__law_named := by
  obtain ⟨fd, FD⟩ := h.c.def_ 4 (d := mkD "_law_named" 32) rfl
  exact ⟨fd, fn_okF (N := N__law_named) FD sc__law_named fun E => d__law_named.2 P w K mg base h E, FD.bindsN fun _ _ _ _ _ _ us hl => match us, hl with | [_, _], _ => rfl, FD.kp⟩
def N__law_missing : List Str := ["word", "rows", "e"]
theorem nd__law_missing : N__law_missing.Nodup := by decide +kernel
theorem sc__law_missing : FnScope N__law_missing ["word"] (defScope (top 33)) := fsc_by (by kernel_rfl)
def d__law_missing : {m : SM // ∀ (P : Program) (w : World) (K : PySem.W.Frag) (mg : Str → Option Value) (base : Heap) (h : Hyp P K mg base) (E : XK), DSs (LCK K) (XD P w K mg base N__law_missing 2 "_law_missing" (defScope (top 33)) (He.ga K "_law_missing") E) (WD E) (defBody (top 33)) m} := ⟨_, fun P w K mg base h E =>
    (dss_cons (ds_set (i := 1) (fun _ => nd__law_missing) (fun _ => rfl) (fun _ => .inl rfl) (do_lst (da_cons ((de_mk exB_LE (ini_UnknownGrade P w h) rfl (fun _ => ⟨rfl, rfl, rfl, rfl, rfl⟩) (fun i => i.hr.mono (by decide)) (fun _ => rfl) (g_UnknownGrade h) (da_cons ((de_v (fun _ => pv 0))) da_nil))) (da_cons ((de_mk exB_LE (ini_UnknownPoint P w h) rfl (fun _ => ⟨rfl, rfl, rfl, rfl, rfl⟩) (fun i => i.hr.mono (by decide)) (fun _ => rfl) (g_UnknownPoint h) (da_cons ((de_v (fun _ => pv 0))) da_nil))) (da_cons ((de_mk exB_LE (ini_NotTold P w h) rfl (fun _ => ⟨rfl, rfl, rfl, rfl, rfl⟩) (fun i => i.hr.mono (by decide)) (fun _ => rfl) (g_NotTold h) (da_cons ((de_v (fun _ => pv 0))) da_nil))) da_nil)))))
    (dss_one (ds_fz 1 (ds_ret (do_if ((dt_notin (fun i => hu65 i.hr) (DE.p de_bl) (DE.p (DO.d (do_lc (own := [("e", 2)]) (fun _ => rfl) (fun _ => nd__law_missing) (fun _ => blk_by (by kernel_rfl)) rfl (dit_seq ((de_v (fun _ => pv 1)))) (dg_name (i := 2) (fun _ => nd__law_missing) (fun _ => rfl) (fun _ => .inl rfl)) dts_nil ((de_cmp (cm_eq (fun i => hu64 i.i.hr)) (DE.p (de_xat (cs := csOf "name") ((de_v (fun _ => pv 2))) (xa_of h))) (dp_v (fun _ => pv 0)))) (by decide)))))) ((DE.o (de_v (fun _ => pv 1)))) ((do_lst da_nil)))))))⟩
def F__law_missing : List D → M DV := runB d__law_missing.1 3
theorem ok__law_missing (P : Program) (w : World) {K : PySem.W.Frag} {mg : Str → Option Value} {base : Heap} (h : Hyp P K mg base) : OkD P w K mg base (LCK K) 3 (He.ga K "_law_missing") ["word"] 1 F__law_missing := by
  obtain ⟨fd, FD⟩ := h.c.def_ 5 (d := mkD "_law_missing" 33) rfl
  exact ⟨fd, fn_okF (N := N__law_missing) FD sc__law_missing fun E => d__law_missing.2 P w K mg base h E, FD.bindsN fun _ _ _ _ _ _ us hl => match us, hl with | [_], _ => rfl, FD.kp⟩
def N__law_classes : List Str := ["e", "rows", "k"]
theorem nd__law_classes : N__law_classes.Nodup := by decide +kernel
theorem sc__law_classes : FnScope N__law_classes ["e"] (defScope (top 34)) := fsc_by (by kernel_rfl)
def d__law_classes : {m : SM // ∀ (P : Program) (w : World) (K : PySem.W.Frag) (mg : Str → Option Value) (base : Heap) (h : Hyp P K mg base) (E : XK), DSs (LCK K) (XD P w K mg base N__law_classes 0 "_law_classes" (defScope (top 34)) (He.ga K "_law_classes") E) (WD E) (defBody (top 34)) m} := ⟨_, fun P w K mg base h E =>
    (dss_cons (ds_set (i := 1) (fun _ => nd__law_classes) (fun _ => rfl) (fun _ => .inr rfl) (do_lst (da_cons ((de_isX (ClsV.own _) (kit_BadScale h) (fun _ => rfl) (fun _ => g_isinstance h) ((de_v (fun _ => pv 0))) (fun _ => pe_glob rfl (g_BadScale h) rfl))) (da_cons ((de_isX (ClsV.own _) (kit_BadTable h) (fun _ => rfl) (fun _ => g_isinstance h) ((de_v (fun _ => pv 0))) (fun _ => pe_glob rfl (g_BadTable h) rfl))) (da_cons ((de_isX (ClsV.own _) (kit_MixedScales h) (fun _ => rfl) (fun _ => g_isinstance h) ((de_v (fun _ => pv 0))) (fun _ => pe_glob rfl (g_MixedScales h) rfl))) (da_cons ((de_isX (ClsV.own _) (kit_MixedSpaces h) (fun _ => rfl) (fun _ => g_isinstance h) ((de_v (fun _ => pv 0))) (fun _ => pe_glob rfl (g_MixedSpaces h) rfl))) (da_cons ((de_isX (ClsV.own _) (kit_BadImages h) (fun _ => rfl) (fun _ => g_isinstance h) ((de_v (fun _ => pv 0))) (fun _ => pe_glob rfl (g_BadImages h) rfl))) (da_cons ((de_isX (ClsV.own _) (kit_TooMany h) (fun _ => rfl) (fun _ => g_isinstance h) ((de_v (fun _ => pv 0))) (fun _ => pe_glob rfl (g_TooMany h) rfl))) (da_cons ((de_isX (ClsV.own _) (kit_NotClosed h) (fun _ => rfl) (fun _ => g_isinstance h) ((de_v (fun _ => pv 0))) (fun _ => pe_glob rfl (g_NotClosed h) rfl))) (da_cons ((de_isX (ClsV.own _) (kit_NotKept h) (fun _ => rfl) (fun _ => g_isinstance h) ((de_v (fun _ => pv 0))) (fun _ => pe_glob rfl (g_NotKept h) rfl))) (da_cons ((de_isX (ClsV.own _) (kit_NotLoose h) (fun _ => rfl) (fun _ => g_isinstance h) ((de_v (fun _ => pv 0))) (fun _ => pe_glob rfl (g_NotLoose h) rfl))) (da_cons ((de_isX (ClsV.own _) (kit_NotFitting h) (fun _ => rfl) (fun _ => g_isinstance h) ((de_v (fun _ => pv 0))) (fun _ => pe_glob rfl (g_NotFitting h) rfl))) (da_cons ((de_isX (ClsV.own _) (kit_NothingDone h) (fun _ => rfl) (fun _ => g_isinstance h) ((de_v (fun _ => pv 0))) (fun _ => pe_glob rfl (g_NothingDone h) rfl))) (da_cons ((de_isX (ClsV.own _) (kit_BadName h) (fun _ => rfl) (fun _ => g_isinstance h) ((de_v (fun _ => pv 0))) (fun _ => pe_glob rfl (g_BadName h) rfl))) (da_cons ((de_isX (ClsV.own _) (kit_TwiceTold h) (fun _ => rfl) (fun _ => g_isinstance h) ((de_v (fun _ => pv 0))) (fun _ => pe_glob rfl (g_TwiceTold h) rfl))) (da_cons ((de_isX (ClsV.own _) (kit_NotSame h) (fun _ => rfl) (fun _ => g_isinstance h) ((de_v (fun _ => pv 0))) (fun _ => pe_glob rfl (g_NotSame h) rfl))) (da_cons ((de_isX (ClsV.own _) (kit_Stretched h) (fun _ => rfl) (fun _ => g_isinstance h) ((de_v (fun _ => pv 0))) (fun _ => pe_glob rfl (g_Stretched h) rfl))) (da_cons ((de_isX (ClsV.own _) (kit_NotThrough h) (fun _ => rfl) (fun _ => g_isinstance h) ((de_v (fun _ => pv 0))) (fun _ => pe_glob rfl (g_NotThrough h) rfl))) (da_cons ((de_isX (ClsV.own _) (kit_NotAhead h) (fun _ => rfl) (fun _ => g_isinstance h) ((de_v (fun _ => pv 0))) (fun _ => pe_glob rfl (g_NotAhead h) rfl))) (da_cons ((de_isX (ClsV.own _) (kit_NotBehind h) (fun _ => rfl) (fun _ => g_isinstance h) ((de_v (fun _ => pv 0))) (fun _ => pe_glob rfl (g_NotBehind h) rfl))) (da_cons ((de_isX (ClsV.own _) (kit_BadPath h) (fun _ => rfl) (fun _ => g_isinstance h) ((de_v (fun _ => pv 0))) (fun _ => pe_glob rfl (g_BadPath h) rfl))) (da_cons ((de_isX (ClsV.own _) (kit_BarePair h) (fun _ => rfl) (fun _ => g_isinstance h) ((de_v (fun _ => pv 0))) (fun _ => pe_glob rfl (g_BarePair h) rfl))) (da_cons ((de_isX (ClsV.own _) (kit_Clash h) (fun _ => rfl) (fun _ => g_isinstance h) ((de_v (fun _ => pv 0))) (fun _ => pe_glob rfl (g_Clash h) rfl))) (da_cons ((de_isX (ClsV.own _) (kit_UnknownGrade h) (fun _ => rfl) (fun _ => g_isinstance h) ((de_v (fun _ => pv 0))) (fun _ => pe_glob rfl (g_UnknownGrade h) rfl))) (da_cons ((de_isX (ClsV.own _) (kit_UnknownPoint h) (fun _ => rfl) (fun _ => g_isinstance h) ((de_v (fun _ => pv 0))) (fun _ => pe_glob rfl (g_UnknownPoint h) rfl))) (da_cons ((de_isX (ClsV.own _) (kit_NotTold h) (fun _ => rfl) (fun _ => g_isinstance h) ((de_v (fun _ => pv 0))) (fun _ => pe_glob rfl (g_NotTold h) rfl))) da_nil))))))))))))))))))))))))))
    (dss_one (ds_ret (do_lc (own := [("k", 2)]) (fun _ => rfl) (fun _ => nd__law_classes) (fun _ => blk_by (by kernel_rfl)) rfl (dit_range1 (fun _ => rfl) (fun _ => g_range h) (DE.p (DO.d (do_len (fun _ => rfl) (fun _ => g_len h) (dq_cons (dp_v (fun _ => pv 1)) dq_nil))))) (dg_name (i := 2) (fun _ => nd__law_classes) (fun _ => rfl) (fun _ => .inl rfl)) (dts_one ((dt_val (DE.p (de_ix (fun i => hu1 i.i.hr) (dp_v (fun _ => pv 1)) (dp_v (fun _ => pv 2))))))) ((de_v (fun _ => pv 2))) (by decide)))))⟩
def F__law_classes : List D → M DV := runB d__law_classes.1 3
theorem ok__law_classes (P : Program) (w : World) {K : PySem.W.Frag} {mg : Str → Option Value} {base : Heap} (h : Hyp P K mg base) : OkD P w K mg base (LCK K) 1 (He.ga K "_law_classes") ["e"] 1 F__law_classes := by
  obtain ⟨fd, FD⟩ := h.c.def_ 6 (d := mkD "_law_classes" 34) rfl
  exact ⟨fd, fn_okF (N := N__law_classes) FD sc__law_classes fun E => d__law_classes.2 P w K mg base h E, FD.bindsN fun _ _ _ _ _ _ us hl => match us, hl with | [_], _ => rfl, FD.kp⟩
def N_law : List Str := ["script", "source", "words", "k", "rows", "lost", "e"]
theorem nd_law : N_law.Nodup := by decide +kernel
theorem sc_law : FnScope N_law ["script"] (defScope (top 35)) := fsc_by (by kernel_rfl)
def d_law : {m : SM // ∀ (P : Program) (w : World) (K : PySem.W.Frag) (mg : Str → Option Value) (base : Heap) (h : Hyp P K mg base) (E : XK), DSs (LCK K) (XD P w K mg base N_law 4 "law" (defScope (top 35)) (He.ga K "law") E) (WD E) (defBody (top 35)) m} := ⟨_, fun P w K mg base h E =>
    (dss_cons (ds_set (i := 1) (fun _ => nd_law) (fun _ => rfl) (fun _ => .inr rfl) (DE.o (de_cell (do_callD (ok__law_source P w h) (fun _ => ⟨rfl, rfl, rfl, rfl, rfl⟩) (fun i => i.hr.mono (by decide)) (fun _ => rfl) (g__law_source h) pas_def (da_cons ((de_v (fun _ => pv 0))) da_nil)))))
    (dss_cons (ds_setLc (i := 2) (own := [("k", 3)]) (fun _ => rfl) (fun _ => nd_law) (fun _ => rfl) (fun _ => rfl) (fun _ => sw_true rfl rfl rfl rfl) (fun _ => blk_by (by kernel_rfl)) rfl (dit_range1 (fun _ => rfl) (fun _ => g_range h) (DE.p de_int)) (dg_name (i := 3) (fun _ => nd_law) (fun _ => rfl) (fun _ => .inl rfl)) dts_nil ((DO.d (do_callD (ok__law_word P w h) (fun _ => ⟨rfl, rfl, rfl, rfl, rfl⟩) (fun i => i.i.hr.mono (by decide)) (fun _ => rfl) (g__law_word h) pas_blk (da_cons ((de_v (fun _ => pv 1))) da_nil)))) (by decide))
    (dss_cons (ds_fz 2 (ds_set (i := 4) (fun _ => nd_law) (fun _ => rfl) (fun _ => .inl rfl) (do_add ((DO.d (do_callD0 (ok__law_plain P w h) (fun _ => ⟨rfl, rfl, rfl, rfl, rfl⟩) (fun i => i.hr.mono (by decide)) (fun _ => rfl) (g__law_plain h) pas_def))) ((DO.d (do_callD (ok__law_named P w h) (fun _ => ⟨rfl, rfl, rfl, rfl, rfl⟩) (fun i => i.hr.mono (by decide)) (fun _ => rfl) (g__law_named h) pas_def (da_cons ((de_v (fun _ => pv 2))) (da_cons ((DO.d (do_callD (ok__law_pick P w h) (fun _ => ⟨rfl, rfl, rfl, rfl, rfl⟩) (fun i => i.hr.mono (by decide)) (fun _ => rfl) (g__law_pick h) pas_def (da_cons ((de_v (fun _ => pv 1))) (da_cons ((de_pow (DE.p de_int) (DE.p de_int))) da_nil))))) da_nil))))))))
    (dss_cons (ds_set (i := 5) (fun _ => nd_law) (fun _ => rfl) (fun _ => .inl rfl) (do_callD (ok__law_missing P w h) (fun _ => ⟨rfl, rfl, rfl, rfl, rfl⟩) (fun i => i.hr.mono (by decide)) (fun _ => rfl) (g__law_missing h) pas_def (da_cons ((de_ix (fun i => hu1 i.hr) (dp_v (fun _ => pv 2)) (DE.p de_int))) da_nil)))
    (dss_cons (ds_if ((DW.t (dw_or ((dt_cmp (cm_ne (fun i => hu64 i.hr)) (DE.p (DO.d (do_len (fun _ => rfl) (fun _ => g_len h) (dq_cons (dp_v (fun _ => pv 4)) dq_nil)))) (DE.p de_int))) (dw_or1 ((dt_cmp (cm_ne (fun i => hu64 i.hr)) (DE.p (DO.d (do_len (fun _ => rfl) (fun _ => g_len h) (dq_cons (dp_v (fun _ => pv 5)) dq_nil)))) (DE.p de_int))))))) (dss_one (ds_ret (DE.o de_bl))) dss_nil)
    (dss_cons (ds_fz 4 (ds_fz 5 (ds_if ((dt_cmp (cm_ne (fun i => hu64 i.hr)) (DE.p (DO.d (do_lc (own := [("e", 6)]) (fun _ => rfl) (fun _ => nd_law) (fun _ => blk_by (by kernel_rfl)) rfl (dit_seq ((DO.d (do_add ((de_v (fun _ => pv 4))) ((de_v (fun _ => pv 5))))))) (dg_name (i := 6) (fun _ => nd_law) (fun _ => rfl) (fun _ => .inl rfl)) dts_nil ((DO.d (do_callD (ok__law_classes P w h) (fun _ => ⟨rfl, rfl, rfl, rfl, rfl⟩) (fun i => i.i.hr.mono (by decide)) (fun _ => rfl) (g__law_classes h) pas_blk (da_cons ((de_v (fun _ => pv 6))) da_nil)))) (by decide)))) (DE.p (DO.d (do_lc (own := [("k", 3)]) (fun _ => rfl) (fun _ => nd_law) (fun _ => blk_by (by kernel_rfl)) rfl (dit_range1 (fun _ => rfl) (fun _ => g_range h) (DE.p de_int)) (dg_name (i := 3) (fun _ => nd_law) (fun _ => rfl) (fun _ => .inl rfl)) dts_nil ((DO.d (do_lst (da_cons ((de_v (fun _ => pv 3))) da_nil)))) (by decide)))))) (dss_one (ds_ret (DE.o de_bl))) dss_nil)))
    (dss_cons (ds_fz 4 (ds_for (fun i => po_def i) (fun _ => rfl) (dit_seq ((de_v (fun _ => pv 4)))) (dg_name (i := 6) (fun _ => nd_law) (fun _ => rfl) (fun _ => .inl rfl)) (dss_cons (ds_if ((DW.t (dw_or ((dt_not ((dt_val (DE.p (de_isX (ClsV.ty "ValueError") (kit_ValueError h) (fun _ => rfl) (fun _ => g_isinstance h) ((de_v (fun _ => pv 6))) (fun _ => pe_bltn rfl (g_ValueError h) (by kernel_rfl) rfl))))))) (dw_or ((dt_not ((dt_val (DE.p (de_isX (ClsV.own _) (kit_FarscaleError h) (fun _ => rfl) (fun _ => g_isinstance h) ((de_v (fun _ => pv 6))) (fun _ => pe_glob rfl (g_FarscaleError h) rfl))))))) (dw_or1 ((dt_val (DE.p (de_isX (ClsV.own _) (kit_NameMissing h) (fun _ => rfl) (fun _ => g_isinstance h) ((de_v (fun _ => pv 6))) (fun _ => pe_glob rfl (g_NameMissing h) rfl)))))))))) (dss_one (ds_ret (DE.o de_bl))) dss_nil)
    (dss_one (ds_if ((dt_val (DE.p (de_isX (ClsV.ty "LookupError") (kit_LookupError h) (fun _ => rfl) (fun _ => g_isinstance h) ((de_v (fun _ => pv 6))) (fun _ => pe_bltn rfl (g_LookupError h) (by kernel_rfl) rfl))))) (dss_one (ds_ret (DE.o de_bl))) dss_nil)))))
    (dss_cons (ds_fz 5 (ds_for (fun i => po_def i) (fun _ => rfl) (dit_seq ((de_v (fun _ => pv 5)))) (dg_name (i := 6) (fun _ => nd_law) (fun _ => rfl) (fun _ => .inl rfl)) (dss_cons (ds_if ((DW.t (dw_or ((dt_not ((dt_val (DE.p (de_isX (ClsV.ty "LookupError") (kit_LookupError h) (fun _ => rfl) (fun _ => g_isinstance h) ((de_v (fun _ => pv 6))) (fun _ => pe_bltn rfl (g_LookupError h) (by kernel_rfl) rfl))))))) (dw_or ((dt_not ((dt_val (DE.p (de_isX (ClsV.own _) (kit_NameMissing h) (fun _ => rfl) (fun _ => g_isinstance h) ((de_v (fun _ => pv 6))) (fun _ => pe_glob rfl (g_NameMissing h) rfl))))))) (dw_or1 ((dt_val (DE.p (de_isX (ClsV.own _) (kit_FarscaleError h) (fun _ => rfl) (fun _ => g_isinstance h) ((de_v (fun _ => pv 6))) (fun _ => pe_glob rfl (g_FarscaleError h) rfl)))))))))) (dss_one (ds_ret (DE.o de_bl))) dss_nil)
    (dss_one (ds_if ((DW.t (dw_or ((dt_val (DE.p (de_isX (ClsV.ty "KeyError") (kit_KeyError h) (fun _ => rfl) (fun _ => g_isinstance h) ((de_v (fun _ => pv 6))) (fun _ => pe_bltn rfl (g_KeyError h) (by kernel_rfl) rfl))))) (dw_or1 ((dt_val (DE.p (de_isX (ClsV.ty "IndexError") (kit_IndexError h) (fun _ => rfl) (fun _ => g_isinstance h) ((de_v (fun _ => pv 6))) (fun _ => pe_bltn rfl (g_IndexError h) (by kernel_rfl) rfl))))))))) (dss_one (ds_ret (DE.o de_bl))) dss_nil)))))
    (dss_one (ds_ret (DE.o de_bl)))))))))))⟩
def F_law : List D → M DV := runB d_law.1 7
theorem ok_law (P : Program) (w : World) {K : PySem.W.Frag} {mg : Str → Option Value} {base : Heap} (h : Hyp P K mg base) : OkD P w K mg base (LCK K) 5 (He.ga K "law") ["script"] 1 F_law := by
  obtain ⟨fd, FD⟩ := h.c.def_ 7 (d := mkD "law" 35) rfl
  exact ⟨fd, fn_okF (N := N_law) FD sc_law fun E => d_law.2 P w K mg base h E, FD.bindsN fun _ _ _ _ _ _ us hl => match us, hl with | [_], _ => rfl, FD.kp⟩
end T91
end

section
namespace T91
open PySem PySem.Spec PyProof.Rows L2 DX DL NdefX
def Sx (cs : List Int) (l m t : Int) (rest : Store) : Store := .lst (cs.map D.int) :: .dct [(.str "cells", .cell 0), (.str "left", .int l), (.str "mixed", .int m), (.str "turn", .int t)] :: rest
def pT : G → M Bool := tand (fun g => tob (n2 vLt (n2 (u2 vIx) (gp 0) fun x => DL.ret (D.str (Str.ofString "left"))) (fun x => DL.ret (D.int 2)) g))
  fun g => tob (n2 vGt (fun g => dm (mcall (c1 bLen) (mcons (gp 2) fun x => DL.ret []) g)) (fun x => DL.ret (D.int 0)) g)
def pB : SM := sdput 0 (fun x => DL.ret (D.str (Str.ofString "left"))) fun g => dm (DL.bind (gv 2 g) popc)
def p3 : SM := sseq (sdput 0 (fun x => DL.ret (D.str (Str.ofString "left"))) (n2 vFdiv (gp 3) (gp 1))) (sret fun g => om (n2 vMod (fun g => dm (mcall (c1 bInt) (mcons (gp 3) fun x => DL.ret []) g)) (gp 1) g))
def p4 : SM := sdput 0 (fun x => DL.ret (D.str (Str.ofString "turn"))) fun g => dm (m2 vAdd (n2 (u2 vIx) (gp 0) fun x => DL.ret (D.str (Str.ofString "turn"))) (fun x => DL.ret (D.int 1)) g)
def p5 : SM := sasg 5 fun g => om (n2 vMod (fun g => dm (mcall (c1 bInt) (mcons (fun g => dm (m2 vAdd (n2 (u2 vIx) (gp 0) fun x => DL.ret (D.str (Str.ofString "mixed"))) (fun g => dm (m2 vMul (gv 4) (fun x => DL.ret (D.int 104729)) g)) g)) fun x => DL.ret []) g)) (fun x => DL.ret (D.int 998244353)) g)
def p6 : SM := sasg 5 fun g => om (n2 vMod (fun g => dm (mcall (c1 bInt) (mcons (fun g => dm (m2 vAdd (fun g => dm (m2 vMul (gv 5) (gv 5) g)) (fun g => dm (m2 vMul (gv 4) (fun x => DL.ret (D.int 17)) g)) g)) fun x => DL.ret []) g)) (fun x => DL.ret (D.int 2147483647)) g)
def p7 : SM := sif (fun g => tob (n2 vGt (gp 1) (n2 vPow (fun x => DL.ret (D.int 10)) fun x => DL.ret (D.int 7)) g))
  (sasg 5 fun g => om (n2 vPow (fun g => dm (mcall (c1 bInt) (mcons (fun g => dm (m2 vAdd (fun g => dm (m2 vMul (gv 5) (fun x => DL.ret (D.int 48271)) g)) (gv 4) g)) fun x => DL.ret []) g)) (fun x => DL.ret (D.int 9)) g)) snx
def p8 : SM := sret fun g => om (n2 vMod (fun g => dm (mcall (c1 bInt) (mcons (n2 vFdiv (gp 5) fun x => DL.ret (D.int 16)) fun x => DL.ret []) g)) (gp 1) g)
def pR : SM := sseq (sasg 3 fun g => om (n2 (u2 vIx) (gp 0) (fun x => DL.ret (D.str (Str.ofString "left"))) g)) (sseq (sif (fun g => tob (n2 vGt (gp 3) (fun x => DL.ret (D.int 1)) g)) p3 snx)
  (sseq p4 (sseq (sasg 4 fun g => om (n2 (u2 vIx) (gp 0) (fun x => DL.ret (D.str (Str.ofString "turn"))) g)) (sseq p5 (sseq p6 (sseq p7 p8))))))
def p0 : SM := sif (fun g => tob (n2 vLt (gp 1) (fun x => DL.ret (D.int 2)) g)) (sret fun g => om (DL.ret (D.int 0))) snx
def p1 : SM := sasg 2 fun g => om (n2 (u2 vIx) (gp 0) (fun x => DL.ret (D.str (Str.ofString "cells"))) g)
theorem pick_eq : d__law_pick.1 = sseq p0 (sseq p1 (sseq (whileGo pT pB 80) pR)) := rfl
abbrev gP (many : Int) (a3 a4 a5 : Slot) : G := [.sh (.cell 1), .sh (.int many), .sh (.cell 0), a3, a4, a5]
section
variable {cs : List Int} {l m t many : Int} {rest : Store} {a3 a4 a5 : Slot}
theorem pT_ok : pT (gP many a3 a4 a5) (Sx cs l m t rest) = .ok (decide (l < 2) && decide (0 < ((cs.map D.int).length : Int))) (Sx cs l m t rest) := by
  have t1 : tob (n2 vLt (n2 (u2 vIx) (gp 0) fun x => DL.ret (D.str (Str.ofString "left"))) (fun x => DL.ret (D.int 2)) (gP many a3 a4 a5)) (Sx cs l m t rest) = .ok (decide (l < 2)) (Sx cs l m t rest) := rfl
  have t2 : tob (n2 vGt (fun g => dm (mcall (c1 bLen) (mcons (gp 2) fun x => DL.ret []) g)) (fun x => DL.ret (D.int 0)) (gP many a3 a4 a5)) (Sx cs l m t rest) = .ok (decide (0 < ((cs.map D.int).length : Int))) (Sx cs l m t rest) := rfl
  by_cases h : l < 2
  · rw [decide_eq_true h] at t1 ⊢; rw [Bool.true_and]; exact x_tand_t t1 t2
  · rw [decide_eq_false h] at t1 ⊢; rw [Bool.false_and]; exact x_tand_f t1
theorem popc_ok {c : Int} : popc (.cell 0) (Sx (cs ++ [c]) l m t rest) = .ok (.sh (.int c)) (Sx cs l m t rest) := by
  simp [popc, Sx]
theorem pB_ok {c : Int} : pB (gP many a3 a4 a5) (Sx (cs ++ [c]) l m t rest) = .ok (.nx (gP many a3 a4 a5)) (Sx cs c m t rest) := by
  have h0 : dm (DL.bind (gv 2 (gP many a3 a4 a5)) popc) (Sx (cs ++ [c]) l m t rest) = .ok (.int c) (Sx cs l m t rest) := by
    show dm (popc (.cell 0)) _ = _
    unfold dm DL.bind
    rw [popc_ok]
    rfl
  show ofM (dm (DL.bind (gv 2 (gP many a3 a4 a5)) popc) (Sx (cs ++ [c]) l m t rest)) _ _ = _
  rw [h0]
  rfl
theorem loop_ok : ∀ (n : Nat) (cs : List Int) (l : Int), cs.length < n → (∀ c ∈ cs, 0 ≤ c) → 0 ≤ l → ∃ cs' l', whileGo pT pB n (gP many a3 a4 a5) (Sx cs l m t rest) = .ok (.nx (gP many a3 a4 a5)) (Sx cs' l' m t rest) ∧ (∀ c ∈ cs', 0 ≤ c) ∧ 0 ≤ l' ∧ cs'.length ≤ cs.length
  | 0, cs, l, h, _, _ => absurd h (Nat.not_lt_zero _)
  | n + 1, cs, l, h, hc, hl => by
    unfold whileGo
    rw [pT_ok]
    by_cases h2 : l < 2
    · rcases List.eq_nil_or_concat cs with rfl | ⟨cs0, c, rfl⟩
      · refine ⟨[], l, ?_, hc, hl, Nat.le_refl _⟩
        simp
      · simp only [List.concat_eq_append] at h hc ⊢
        have hd : (decide (l < 2) && decide (0 < (((cs0 ++ [c]).map D.int).length : Int))) = true := by
          rw [decide_eq_true h2, List.length_map, List.length_append, List.length_singleton, decide_eq_true (by omega)]; rfl
        rw [hd]
        dsimp only
        rw [pB_ok]
        dsimp only
        obtain ⟨cs', l', e, r1, r2, r3⟩ := loop_ok n cs0 c (by simp only [List.length_append, List.length_cons, List.length_nil] at h; omega) (fun x hx => hc x (by simp [hx])) (hc c (by simp))
        exact ⟨cs', l', e, r1, r2, by simp only [List.length_append, List.length_cons, List.length_nil]; omega⟩
    · refine ⟨cs, l, ?_, hc, hl, Nat.le_refl _⟩
      simp [h2]
/-- behind the loop -/
theorem pR_ok (hl : 0 ≤ l) (hm0 : 0 ≤ m) (hm1 : m < 2147483629) (ht0 : 0 ≤ t) (ht1 : t < 1000000) (h1 : 2 ≤ many) (h2 : many ≤ 1000000000) : ∃ r l' t', pR (gP many .un .un .un) (Sx cs l m t rest) = .ok (.rt (.sh (.int r))) (Sx cs l' m t' rest) ∧ 0 ≤ r ∧ r < many ∧ 0 ≤ l' ∧ t ≤ t' ∧ t' ≤ t + 1 := by
  have hp : (0 : Int) < many := by omega
  by_cases hl1 : 1 < l
  · have q3 : p3 (gP many (.sh (.int l)) .un .un) (Sx cs l m t rest) = .ok (.rt (.sh (.int (l % many)))) (Sx cs (l / many) m t rest) :=
      x_seq (x_dput (x_n2 rfl rfl (x_fdiv ⟨by omega, by omega⟩)) rfl rfl rfl rfl rfl rfl) (x_ret (x_om (x_n2 (x_dm (x_mcall (x_mcons rfl rfl) rfl)) rfl (x_mod hp))))
    refine ⟨l % many, l / many, t, x_seq rfl ?_, Int.emod_nonneg _ (by omega), Int.emod_lt_of_pos _ hp, Int.ediv_nonneg (by omega) (by omega), by omega, by omega⟩
    exact x_seq_r (x_if_t (by rw [show (true : Bool) = decide (1 < l) from (decide_eq_true hl1).symm]; rfl) q3)
  · obtain ⟨u, hu⟩ : ∃ u : Int, u = t + 1 := ⟨_, rfl⟩
    obtain ⟨x5, hx5⟩ : ∃ x : Int, x = (m + u * 104729) % 998244353 := ⟨_, rfl⟩
    have b5 : 0 ≤ x5 ∧ x5 < 998244353 := by rw [hx5]; exact ⟨Int.emod_nonneg _ (by omega), Int.emod_lt_of_pos _ (by omega)⟩
    obtain ⟨x6, hx6⟩ : ∃ x : Int, x = (x5 * x5 + u * 17) % 2147483647 := ⟨_, rfl⟩
    have b6 : 0 ≤ x6 ∧ x6 < 2147483647 := by rw [hx6]; exact ⟨Int.emod_nonneg _ (by omega), Int.emod_lt_of_pos _ (by omega)⟩
    have q4 : p4 (gP many (.sh (.int l)) .un .un) (Sx cs l m t rest) = .ok (.nx (gP many (.sh (.int l)) .un .un)) (Sx cs l m u rest) := by rw [hu]; rfl
    have q5 : p5 (gP many (.sh (.int l)) (.sh (.int u)) .un) (Sx cs l m u rest) = .ok (.nx (gP many (.sh (.int l)) (.sh (.int u)) (.sh (.int x5)))) (Sx cs l m u rest) := by
      rw [hx5]
      refine x_asg (x_om (x_n2 (x_dm (x_mcall (x_mcons (x_dm (x_m2 rfl (x_dm (x_m2 rfl rfl (x_mul (.inr ⟨by decide, by decide⟩)))) rfl)) rfl) rfl)) rfl (x_mod (by decide)))) rfl
    have q6 : p6 (gP many (.sh (.int l)) (.sh (.int u)) (.sh (.int x5))) (Sx cs l m u rest) = .ok (.nx (gP many (.sh (.int l)) (.sh (.int u)) (.sh (.int x6)))) (Sx cs l m u rest) := by
      rw [hx6]
      refine x_asg (x_om (x_n2 (x_dm (x_mcall (x_mcons (x_dm (x_m2 (x_dm (x_m2 rfl rfl (x_mul (.inr ⟨by omega, by omega⟩)))) (x_dm (x_m2 rfl rfl (x_mul (.inr ⟨by decide, by decide⟩)))) rfl)) rfl) rfl)) rfl (x_mod (by decide)))) rfl
    have q7 : ∃ x7, p7 (gP many (.sh (.int l)) (.sh (.int u)) (.sh (.int x6))) (Sx cs l m u rest) = .ok (.nx (gP many (.sh (.int l)) (.sh (.int u)) (.sh (.int x7)))) (Sx cs l m u rest) := by
      have hb : (fun g => tob (n2 vGt (gp 1) (n2 vPow (fun x => DL.ret (D.int 10)) fun x => DL.ret (D.int 7)) g)) (gP many (.sh (.int l)) (.sh (.int u)) (.sh (.int x6))) (Sx cs l m u rest) = .ok (decide ((10 : Int) ^ (7 : Int).toNat < many)) (Sx cs l m u rest) :=
        x_tob (x_n2 rfl (x_n2 rfl rfl (x_pow ⟨by decide, by decide, by decide⟩)) rfl)
      by_cases hc : (10 : Int) ^ (7 : Int).toNat < many
      · rw [decide_eq_true hc] at hb
        refine ⟨(x6 * 48271 + u) ^ (9 : Int).toNat, x_if_t hb ?_⟩
        refine x_asg (x_om (x_n2 (x_dm (x_mcall (x_mcons (x_dm (x_m2 (x_dm (x_m2 rfl rfl (x_mul (.inr ⟨by decide, by decide⟩)))) rfl rfl)) rfl) rfl)) rfl (x_pow ⟨by decide, by decide, ?_⟩))) rfl
        have : (x6 * 48271 + u).natAbs < 2 ^ 64 := by omega
        exact this
      · rw [decide_eq_false hc] at hb
        exact ⟨x6, x_if_f hb rfl⟩
    obtain ⟨x7, q7⟩ := q7
    have q8 : p8 (gP many (.sh (.int l)) (.sh (.int u)) (.sh (.int x7))) (Sx cs l m u rest) = .ok (.rt (.sh (.int ((x7 / 16) % many)))) (Sx cs l m u rest) :=
      x_ret (x_om (x_n2 (x_dm (x_mcall (x_mcons (x_n2 rfl rfl (x_fdiv ⟨by decide, by decide⟩)) rfl) rfl)) rfl (x_mod hp)))
    refine ⟨(x7 / 16) % many, l, u, x_seq rfl ?_, Int.emod_nonneg _ (by omega), Int.emod_lt_of_pos _ hp, hl, by omega, by omega⟩
    refine x_seq (x_if_f (by rw [show (false : Bool) = decide (1 < l) from (decide_eq_false hl1).symm]; rfl) rfl) ?_
    exact x_seq q4 (x_seq rfl (x_seq q5 (x_seq q6 (x_seq q7 q8))))
/-- THE LAW OF A DRAW -/
theorem pick_ok (hc : ∀ c ∈ cs, 0 ≤ c) (hcl : cs.length < 80) (hl : 0 ≤ l) (hm0 : 0 ≤ m) (hm1 : m < 2147483629) (ht0 : 0 ≤ t) (ht1 : t < 1000000) (h1 : 2 ≤ many) (h2 : many ≤ 1000000000) :
    ∃ r cs' l' t', F__law_pick [.cell 1, .int many] (Sx cs l m t rest) = .ok (.sh (.int r)) (Sx cs' l' m t' rest) ∧ 0 ≤ r ∧ r < many ∧ (∀ c ∈ cs', 0 ≤ c) ∧ cs'.length < 80 ∧ 0 ≤ l' ∧ t ≤ t' ∧ t' ≤ t + 1 := by
  obtain ⟨cs', l1, e1, c1, c2, c3⟩ := loop_ok (m := m) (t := t) (many := many) (rest := rest) (a3 := .un) (a4 := .un) (a5 := .un) 80 cs l hcl hc hl
  obtain ⟨r, l', t', e2, r1, r2, r3, r4, r5⟩ := pR_ok (cs := cs') (rest := rest) c2 hm0 hm1 ht0 ht1 h1 h2
  refine ⟨r, cs', l', t', ?_, r1, r2, c1, by omega, r3, r4, r5⟩
  refine x_runB ?_
  rw [pick_eq]
  exact x_seq (x_if_f (x_tob (x_n2 rfl rfl (by show (.ok (.bl (decide (many < 2))) _ : Res D) = _; rw [decide_eq_false (by omega)]))) rfl) (x_seq rfl (x_seq e1 e2))
end
end T91
end

section
namespace T91
open PySem PySem.Spec PyProof.Rows L2 DX DL NdefX
/-! ### the source -/
def sStep : SM := sasg 1 fun g => om (n2 vMod (fun g => dm (mcall (c1 bInt) (mcons (fun g => dm (m2 vAdd (fun g => dm (m2 vAdd (fun g => dm (m2 vMul (gv 1) (fun x => DL.ret (D.int 69069)) g)) (fun g => dm (m2 vMul (gv 2) (fun x => DL.ret (D.int 31)) g)) g)) (fun x => DL.ret (D.int 5)) g)) fun x => DL.ret []) g)) (fun x => DL.ret (D.int 2147483629)) g)
def sScr : G → M (List D) := fun g => DL.bind (gv 0 g) fun x => match x with
  | D.scr xs => DL.ret (List.map D.int xs)
  | x => stuck
def sC1 : G → M DV := mlc sScr (tname 2) (fun x => DL.ret true) (fun g => dm (mcall (c1 bAbs) (mcons (gp 2) fun x => DL.ret []) g)) (List.map (fun x => Prod.snd x) [(Str.ofString "cell", 2)])
def sC2 : G → M DV := mlc (mrange1 fun g => dm (mcall (c1 bLen) (mcons (gp 3) fun x => DL.ret []) g)) (tname 4) (fun x => DL.ret true)
  (n2 (u2 vIx) (gp 3) (n2 vSub (n2 vSub (fun g => dm (mcall (c1 bLen) (mcons (gp 3) fun x => DL.ret []) g)) fun x => DL.ret (D.int 1)) (gp 4))) (List.map (fun x => Prod.snd x) [(Str.ofString "k", 4)])
def sEnd : SM := sret (mdisp [Str.ofString "cells", Str.ofString "left", Str.ofString "mixed", Str.ofString "turn"] (mcons (mcell sC2) (mcons (fun x => DL.ret (D.int 1)) (mcons (gv 1) (mcons (fun x => DL.ret (D.int 0)) fun x => DL.ret [])))))
theorem source_eq : d__law_source.1 = sseq (sasg 1 fun g => om (DL.ret (D.int 11))) (sseq (sfor sScr (tname 2) sStep) (sseq (sasg 3 sC1) sEnd)) := rfl
section
variable {S : Store}
theorem atI_of {α : Type} {xs : List α} {i : Int} {d : α} (h0 : 0 ≤ i) (h : xs[i.toNat]? = some d) : atI xs i = some d := by
  have hl := (List.getElem?_eq_some_iff.mp h).1
  unfold atI ixN
  rw [if_pos h0, if_pos (by omega)]
  exact h
theorem x_ixl {xs : List D} {i : Int} {d : D} (h0 : 0 ≤ i) (h : xs[i.toNat]? = some d) : u2 vIx (.lst xs) (.int i) S = .ok d S := by
  show (match atI xs i with | some d => DL.ret d | none => DL.stuck : M D) S = _
  rw [atI_of h0 h]; rfl
theorem x_ixs {s : Str} {i : Int} {c : Nat} (h0 : 0 ≤ i) (h : s.cps.toList[i.toNat]? = some c) : u2 vIx (.str s) (.int i) S = .ok (.str ⟨#[c]⟩) S := by
  show (match atI s.cps.toList i with | some c => DL.ret (.str ⟨#[c]⟩) | none => DL.stuck : M D) S = _
  rw [atI_of h0 h]; rfl
theorem src_loop {xs0 : List Int} : ∀ (xs : List Int) (m : Int) (s2 : Slot), 0 ≤ m → m < 2147483629 → ∃ m' s2', forGo (tname 2) sStep (xs.map D.int) [.sh (.scr xs0), .sh (.int m), s2, .un, .un] S = .ok (.nx [.sh (.scr xs0), .sh (.int m'), s2', .un, .un]) S ∧ 0 ≤ m' ∧ m' < 2147483629
  | [], m, s2, h0, h1 => ⟨m, s2, rfl, h0, h1⟩
  | x :: xs, m, s2, h0, h1 => by
    obtain ⟨u, hu⟩ : ∃ u : Int, u = (m * 69069 + x * 31 + 5) % 2147483629 := ⟨_, rfl⟩
    have hb : sStep [.sh (.scr xs0), .sh (.int m), .sh (.int x), .un, .un] S = .ok (.nx [.sh (.scr xs0), .sh (.int u), .sh (.int x), .un, .un]) S := by
      rw [hu]
      exact x_asg (x_om (x_n2 (x_dm (x_mcall (x_mcons (x_dm (x_m2 (x_dm (x_m2 (x_dm (x_m2 rfl rfl (x_mul (.inr ⟨by decide, by decide⟩)))) (x_dm (x_m2 rfl rfl (x_mul (.inr ⟨by decide, by decide⟩)))) rfl)) rfl rfl)) rfl) rfl)) rfl (x_mod (by decide)))) rfl
    obtain ⟨m', s2', e, r1, r2⟩ := src_loop xs u (.sh (.int x)) (by rw [hu]; exact Int.emod_nonneg _ (by omega)) (by rw [hu]; exact Int.emod_lt_of_pos _ (by omega))
    exact ⟨m', s2', x_forc rfl hb e, r1, r2⟩
def ab (i : Int) : Int := if i < 0 then -i else i
theorem ab_nn (i : Int) : 0 ≤ ab i := by unfold ab; split <;> omega
theorem source_ok (xs : List Int) (hx : xs.length < 80) : ∃ (cs : List Int) (m : Int), F__law_source [.scr xs] S = .ok (.ow (.dct [(.str "cells", .cell S.length), (.str "left", .int 1), (.str "mixed", .int m), (.str "turn", .int 0)])) (S ++ [.lst (cs.map D.int)]) ∧ (∀ c ∈ cs, 0 ≤ c) ∧ cs.length = xs.length ∧ 0 ≤ m ∧ m < 2147483629 := by
  obtain ⟨m, s2, e1, b1, b2⟩ := src_loop (S := S) (xs0 := xs) xs 11 .un (by decide) (by decide)
  let F1 : D → D := fun d => match d with
    | .int i => .int (ab i)
    | d => d
  have hF1 : (xs.map D.int).map F1 = (xs.map ab).map D.int := by
    rw [List.map_map, List.map_map]; rfl
  have e2 : sC1 [.sh (.scr xs), .sh (.int m), s2, .un, .un] S = .ok (.ow (.lst ((xs.map ab).map D.int))) S := by
    rw [← hF1]
    refine x_mlc (ds := xs.map D.int) rfl (by rw [List.length_map]; omega) ?_
    have h := x_compmap (S := S) (f := tname 2) (m := fun g => dm (mcall (c1 bAbs) (mcons (gp 2) fun x => DL.ret []) g)) (vs := List.map (fun x => Prod.snd x) [(Str.ofString "cell", 2)]) (g := [.sh (.scr xs), .sh (.int m), s2, .un, .un]) (F := F1) (ds := xs.map D.int) (acc := []) (fun d hd => by
      obtain ⟨i, _, rfl⟩ := List.mem_map.mp hd
      exact ⟨_, rfl, rfl⟩)
    rw [List.nil_append] at h
    exact h
  let cs0 := xs.map ab
  let n := cs0.length
  let F2 : D → D := fun d => match d with
    | .int k => .int (cs0.getD (n - 1 - k.toNat) 0)
    | d => d
  have hn : n < 80 := by show (xs.map ab).length < 80; rw [List.length_map]; exact hx
  let ks : List D := (List.range (n : Int).toNat).map fun i => D.int (0 + (i : Nat))
  let cs : List Int := (List.range n).map fun i => cs0.getD (n - 1 - i) 0
  have hF2 : ks.map F2 = cs.map D.int := by
    show ((List.range (n : Int).toNat).map _).map F2 = ((List.range n).map _).map D.int
    rw [List.map_map, List.map_map, Int.toNat_natCast]
    refine List.map_congr_left fun i _ => ?_
    show D.int (cs0.getD (n - 1 - (0 + (i : Int)).toNat) 0) = _
    rw [Int.zero_add, Int.toNat_natCast]; rfl
  have e3 : sC2 [.sh (.scr xs), .sh (.int m), s2, .ow (.lst (cs0.map D.int)), .un] S = .ok (.ow (.lst (cs.map D.int))) S := by
    rw [← hF2]
    have hlen : ((cs0.map D.int).length : Int) = (n : Int) := by rw [List.length_map]
    refine x_mlc (S1 := S) (ds := ks) ?_ (by show ((List.range (n : Int).toNat).map _).length ≤ _; rw [List.length_map, List.length_range, Int.toNat_natCast]; omega) ?_
    · refine x_bind (a := D.int ((cs0.map D.int).length : Int)) (S1 := S) rfl ?_
      rw [hlen]
      show (if (n : Int) < 2 ^ 62 ∧ -(2 ^ 62) ≤ (n : Int) then _ else _ : M (List D)) S = _
      rw [if_pos ⟨by omega, by omega⟩]
      rfl
    · have h := x_compmap (S := S) (f := tname 4) (m := n2 (u2 vIx) (gp 3) (n2 vSub (n2 vSub (fun g => dm (mcall (c1 bLen) (mcons (gp 3) fun x => DL.ret []) g)) fun x => DL.ret (D.int 1)) (gp 4))) (vs := List.map (fun x => Prod.snd x) [(Str.ofString "k", 4)]) (g := [.sh (.scr xs), .sh (.int m), s2, .ow (.lst (cs0.map D.int)), .un]) (F := F2) (ds := ks) (acc := []) (fun d hd => by
        obtain ⟨i, hi, rfl⟩ := List.mem_map.mp hd
        rw [Int.toNat_natCast, List.mem_range] at hi
        refine ⟨_, rfl, ?_⟩
        refine x_n2 (S1 := S) (S2 := S) (x := .lst (cs0.map D.int)) (y := .int ((n : Int) - 1 - (0 + (i : Int)))) rfl ?_ ?_
        · rw [← hlen]; rfl
        · refine x_ixl (by omega) ?_
          rw [List.getElem?_map]
          have e0 : ((n : Int) - 1 - (0 + (i : Int))).toNat = n - 1 - i := by omega
          rw [e0]
          show _ = some (D.int (cs0.getD (n - 1 - (0 + (i : Int)).toNat) 0))
          have e1 : (0 + (i : Int)).toNat = i := by omega
          rw [e1, List.getD_eq_getElem?_getD, List.getElem?_eq_getElem (show n - 1 - i < cs0.length by show n - 1 - i < n; omega)]
          rfl)
      rw [List.nil_append] at h
      exact h
  refine ⟨cs, m, ?_, ?_, ?_, b1, b2⟩
  · refine x_runB ?_
    rw [source_eq]
    refine x_seq rfl (x_seq (x_for rfl e1) (x_seq (x_asg e2 rfl) ?_))
    exact x_ret (x_bind (x_mcons (x_mcell e3) (x_mcons rfl (x_mcons rfl (x_mcons rfl rfl)))) rfl)
  · intro c hc
    obtain ⟨i, _, rfl⟩ := List.mem_map.mp hc
    rw [List.getD_eq_getElem?_getD]
    cases h : cs0[n - 1 - i]? with
    | none => simp
    | some y =>
      have hm := List.mem_of_getElem? h
      obtain ⟨z, _, rfl⟩ := List.mem_map.mp hm
      simpa using ab_nn z
  · show ((List.range n).map _).length = _
    rw [List.length_map, List.length_range]
    show (xs.map ab).length = _
    rw [List.length_map]
end
end T91
end

section
namespace T91
open PySem PySem.Spec PyProof.Rows L2 DX DL NdefX
def OkS (cs : List Int) (l m t n : Int) : Prop := (∀ c ∈ cs, 0 ≤ c) ∧ cs.length < 80 ∧ 0 ≤ l ∧ 0 ≤ m ∧ m < 2147483629 ∧ 0 ≤ t ∧ t ≤ n
section
variable {cs : List Int} {l m t many n : Int} {rest S : Store}
theorem x_c1 {f : D → M DV} {d d' : D} {S1 : Store} {r : Res DV} (hu : un d S = .ok d' S1) (hf : f d' S1 = r) : c1 f [d] S = r := x_bind hu hf
theorem pick' (h : OkS cs l m t n) (hn : n < 999999) (h1 : 2 ≤ many) (h2 : many ≤ 1000000000) : ∃ r cs' l' t', F__law_pick [.cell 1, .int many] (Sx cs l m t rest) = .ok (.sh (.int r)) (Sx cs' l' m t' rest) ∧ 0 ≤ r ∧ r < many ∧ OkS cs' l' m t' (n + 1) := by
  obtain ⟨a1, a2, a3, a4, a5, a6, a7⟩ := h
  obtain ⟨r, cs', l', t', e, b1, b2, b3, b4, b5, b6, b7⟩ := pick_ok (rest := rest) a1 a2 a3 a4 a5 a6 (by omega) h1 h2
  exact ⟨r, cs', l', t', e, b1, b2, b3, b4, b5, a4, a5, by omega, by omega⟩
theorem letters : ∀ i : Nat, i < 26 → ∃ c, (Str.ofString "abcdefghijklmnopqrstuvwxyz").cps.toList[i]? = some c := fun i hi => by
  have hl : (Str.ofString "abcdefghijklmnopqrstuvwxyz").cps.toList.length = 26 := by decide +kernel
  exact ⟨_, List.getElem?_eq_getElem (by rw [hl]; exact hi)⟩
theorem word_ok (h : OkS cs l m t n) (hn : n < 900000) : ∃ w cs' l' t', F__law_word [.cell 1] (Sx cs l m t rest) = .ok (.sh (.str w)) (Sx cs' l' m t' rest) ∧ OkS cs' l' m t' (n + 2) ∧ sOk w ∧ w.length ≤ 13 := by
  obtain ⟨r, cs1, l1, t1, e1, b1, b2, h1⟩ := pick' (many := 26) (rest := rest) h (by omega) (by decide) (by decide)
  obtain ⟨q, cs2, l2, t2, e2, c1, c2, h2⟩ := pick' (many := 10 ^ (6 : Int).toNat) (rest := rest) h1 (by omega) (by decide) (by decide)
  obtain ⟨c, hc⟩ := letters r.toNat (by omega)
  have ho : sOk (Str.ofString "abcdefghijklmnopqrstuvwxyz") := by decide +kernel
  have hs : sOk ⟨#[c]⟩ := sOk_sign ho (atI_of b1 hc)
  obtain ⟨i1, i2, i3⟩ := int_str (i := q) c1 (Int.lt_trans c2 (by decide))
  have hl1 : (⟨#[c]⟩ : Str).length = 1 := rfl
  refine ⟨⟨#[c]⟩ ++ Str.ofString (toString q), cs2, l2, t2, ?_, by rw [show n + 2 = n + 1 + 1 by omega]; exact h2, sOk_append hs i2 (by omega), by rw [slen]; omega⟩
  refine x_runB ?_
  refine x_ret (x_m2 (S1 := Sx cs1 l1 m t1 rest) (S2 := Sx cs2 l2 m t2 rest) (x := .str ⟨#[c]⟩) (y := .str (Str.ofString (toString q))) ?_ ?_ (x_adds (by omega)))
  · exact x_n2 rfl (x_dm (x_mfn rfl rfl e1)) (x_ixs b1 hc)
  · exact x_dm (x_mcall (x_mcons (x_dm (x_mfn (x_mcons rfl (x_mcons (x_n2 rfl rfl (x_pow ⟨by decide, by decide, by decide⟩)) rfl)) rfl e2)) rfl) (x_c1 rfl (x_strI ⟨i1, i2⟩)))
/-! ### the exceptions -/
theorem x_initF {n : Nat} {sup : G → M (List D)} {l : List (Str × (G → M D))} {ds xs : List D} {fs : List (Str × D)} {S1 S2 : Store} (hs : sup (startI n ds) S = .ok xs S1) (hl : xs.length ≤ 1000) (hf : fldGo l [] (startI n ds) S1 = .ok fs S2) : initF n sup l ds S = .ok fs S2 := by
  refine x_bind (x_nox hs) ?_
  rw [if_pos hl]; exact hf
/-- a text around a name -/
theorem msg1 {g : G} {a w : Str} {i : Nat} (ha : a.length ≤ 1000) (hw : sOk w) (hl : w.length ≤ 100) (hg : gp i g S = .ok (.str w) S) : mjs Str.empty [fun x => DL.ret (D.str a), n1 vFmtR (gp i)] g S = .ok (.str (Str.empty ++ a ++ reprText w)) S := by
  have h1 := repr_len hw
  have e0 : Str.empty.length = 0 := rfl
  refine x_mjc rfl (by omega) (x_mjc (x_n1 hg (x_fmtR (sOk_repr hw (by omega)))) (by rw [slen]; omega) x_mjn)
theorem xeq {d : D} (h : d.pur 60 = true) (hc : d.pd.canLay0 = true) : vEq d d S = .ok (.bl true) S := by
  unfold vEq D.eqv
  rw [h, SeqAt.eqv_refl _ hc]; rfl
theorem xne {d : D} (h : d.pur 60 = true) (hc : d.pd.canLay0 = true) : vNe d d S = .ok (.bl false) S := by
  unfold vNe D.eqv
  rw [h, SeqAt.eqv_refl _ hc]; rfl
end
end T91
end

section
namespace T91
open PySem PySem.Spec PyProof.Rows L2 DX DL NdefX
def exN (c : Str) (f : Str) (w : Str) : D := .exc c [(f, .str w)]
def ex3 (c : Str) (x y z : Str) : D := .exc c [("z", .str z), ("y", .str y), ("x", .str x)]
section
variable {S : Store} {w w0 w1 w2 : Str} {nb : Int}
structure Ws (w : Str) : Prop where
  ok : sOk w
  len : w.length ≤ 100
theorem fi_BadName (h : Ws w) : FI_BadName [.str w] S = .ok [("name", .str w)] S := by
  show initF _ (mcons (mjs Str.empty [(fun x => DL.ret (D.str (Str.ofString "no name: "))), (n1 vFmtR (gp 1))]) fun x => DL.ret []) [(Str.ofString "name", gv 1)] _ _ = _
  exact x_initF (x_mcons (msg1 (by decide +kernel) h.ok h.len rfl) rfl) (by show 1 ≤ 1000; decide) rfl
theorem fi_TwiceTold (h : Ws w) : FI_TwiceTold [.str w] S = .ok [("name", .str w)] S := by
  show initF _ (mcons (mjs Str.empty [(fun x => DL.ret (D.str (Str.ofString "told already: "))), (n1 vFmtR (gp 1))]) fun x => DL.ret []) [(Str.ofString "name", gv 1)] _ _ = _
  exact x_initF (x_mcons (msg1 (by decide +kernel) h.ok h.len rfl) rfl) (by show 1 ≤ 1000; decide) rfl
theorem fi_UnknownGrade (h : Ws w) : FI_UnknownGrade [.str w] S = .ok [("name", .str w)] S := by
  show initF _ (mcons (mjs Str.empty [(fun x => DL.ret (D.str (Str.ofString "no grade "))), (n1 vFmtR (gp 1))]) fun x => DL.ret []) [(Str.ofString "name", gv 1)] _ _ = _
  exact x_initF (x_mcons (msg1 (by decide +kernel) h.ok h.len rfl) rfl) (by show 1 ≤ 1000; decide) rfl
theorem fi_UnknownPoint (h : Ws w) : FI_UnknownPoint [.str w] S = .ok [("name", .str w)] S := by
  show initF _ (mcons (mjs Str.empty [(fun x => DL.ret (D.str (Str.ofString "no point "))), (n1 vFmtR (gp 1))]) fun x => DL.ret []) [(Str.ofString "name", gv 1)] _ _ = _
  exact x_initF (x_mcons (msg1 (by decide +kernel) h.ok h.len rfl) rfl) (by show 1 ≤ 1000; decide) rfl
theorem fi_NotTold (h : Ws w) : FI_NotTold [.str w] S = .ok [("name", .str w)] S := by
  show initF _ (mcons (mjs Str.empty [(fun x => DL.ret (D.str (Str.ofString "nothing told by the name "))), (n1 vFmtR (gp 1))]) fun x => DL.ret []) [(Str.ofString "name", gv 1)] _ _ = _
  exact x_initF (x_mcons (msg1 (by decide +kernel) h.ok h.len rfl) rfl) (by show 1 ≤ 1000; decide) rfl
theorem rl (h : Ws w) : (reprText w).length ≤ 1002 := by have := repr_len h.ok; have := h.len; omega
theorem rs (h : Ws w) : sOk (reprText w) := sOk_repr h.ok (by have := h.len; omega)
theorem fi_NotSame (h : Ws w) : FI_NotSame [.str w] S = .ok [("x", .str w)] S := by
  show initF _ (mcons (mjs Str.empty [(n1 vFmtR (gp 1)), (fun x => DL.ret (D.str (Str.ofString " is less near to itself than the unit")))]) fun x => DL.ret []) [(Str.ofString "x", gv 1)] _ _ = _
  have h1 := rl h
  have e0 : Str.empty.length = 0 := rfl
  have e1 : (Str.ofString " is less near to itself than the unit").length ≤ 100 := by decide +kernel
  exact x_initF (x_mcons (x_mjc (x_n1 rfl (x_fmtR (rs h))) (by omega) (x_mjc rfl (by rw [slen]; omega) x_mjn)) rfl) (by show 1 ≤ 1000; decide) rfl
theorem fi_Stretched (h : Ws w0) (h' : Ws w1) : FI_Stretched [.str w0, .str w1] S = .ok [("y", .str w1), ("x", .str w0)] S := by
  show initF _ (mcons (mjs Str.empty [(fun x => DL.ret (D.str (Str.ofString "the images of "))), (n1 vFmtR (gp 1)), (fun x => DL.ret (D.str (Str.ofString " and "))), (n1 vFmtR (gp 2)), (fun x => DL.ret (D.str (Str.ofString " are less near")))]) fun x => DL.ret []) [(Str.ofString "x", gv 1), (Str.ofString "y", gv 2)] _ _ = _
  have h1 := rl h
  have h2 := rl h'
  have e0 : Str.empty.length = 0 := rfl
  have e1 : (Str.ofString "the images of ").length ≤ 100 := by decide +kernel
  have e2 : (Str.ofString " and ").length ≤ 100 := by decide +kernel
  have e3 : (Str.ofString " are less near").length ≤ 100 := by decide +kernel
  exact x_initF (x_mcons (x_mjc rfl (by omega) (x_mjc (x_n1 rfl (x_fmtR (rs h))) (by simp only [slen]; omega) (x_mjc rfl (by simp only [slen]; omega) (x_mjc (x_n1 rfl (x_fmtR (rs h'))) (by simp only [slen]; omega) (x_mjc rfl (by simp only [slen]; omega) x_mjn))))) rfl) (by show 1 ≤ 1000; decide) rfl
theorem fi_NotThrough (h : Ws w0) (h' : Ws w1) (h'' : Ws w2) : FI_NotThrough [.str w0, .str w1, .str w2] S = .ok [("z", .str w2), ("y", .str w1), ("x", .str w0)] S := by
  show initF _ (mcons (mjs Str.empty [(n1 vFmtR (gp 1)), (fun x => DL.ret (D.str (Str.ofString " is nearer to "))), (n1 vFmtR (gp 3)), (fun x => DL.ret (D.str (Str.ofString " through "))), (n1 vFmtR (gp 2))]) fun x => DL.ret []) [(Str.ofString "x", gv 1), (Str.ofString "y", gv 2), (Str.ofString "z", gv 3)] _ _ = _
  have h1 := rl h
  have h2 := rl h'
  have h3 := rl h''
  have e0 : Str.empty.length = 0 := rfl
  have e1 : (Str.ofString " is nearer to ").length ≤ 100 := by decide +kernel
  have e2 : (Str.ofString " through ").length ≤ 100 := by decide +kernel
  exact x_initF (x_mcons (x_mjc (x_n1 rfl (x_fmtR (rs h))) (by omega) (x_mjc rfl (by simp only [slen]; omega) (x_mjc (x_n1 rfl (x_fmtR (rs h''))) (by simp only [slen]; omega) (x_mjc rfl (by simp only [slen]; omega) (x_mjc (x_n1 rfl (x_fmtR (rs h'))) (by simp only [slen]; omega) x_mjn))))) rfl) (by show 1 ≤ 1000; decide) rfl
theorem fi_NotAhead (h : Ws w0) (h' : Ws w1) (h'' : Ws w2) : FI_NotAhead [.str w0, .str w1, .str w2] S = .ok [("z", .str w2), ("y", .str w1), ("x", .str w0)] S := by
  show initF _ (mcons (mjs Str.empty [(n1 vFmtR (gp 1)), (fun x => DL.ret (D.str (Str.ofString " is nearer to "))), (n1 vFmtR (gp 3)), (fun x => DL.ret (D.str (Str.ofString " by way of "))), (n1 vFmtR (gp 2)), (fun x => DL.ret (D.str (Str.ofString " ahead of the table")))]) fun x => DL.ret []) [(Str.ofString "x", gv 1), (Str.ofString "y", gv 2), (Str.ofString "z", gv 3)] _ _ = _
  have h1 := rl h
  have h2 := rl h'
  have h3 := rl h''
  have e0 : Str.empty.length = 0 := rfl
  have e1 : (Str.ofString " is nearer to ").length ≤ 100 := by decide +kernel
  have e2 : (Str.ofString " by way of ").length ≤ 100 := by decide +kernel
  have e3 : (Str.ofString " ahead of the table").length ≤ 100 := by decide +kernel
  exact x_initF (x_mcons (x_mjc (x_n1 rfl (x_fmtR (rs h))) (by omega) (x_mjc rfl (by simp only [slen]; omega) (x_mjc (x_n1 rfl (x_fmtR (rs h''))) (by simp only [slen]; omega) (x_mjc rfl (by simp only [slen]; omega) (x_mjc (x_n1 rfl (x_fmtR (rs h'))) (by simp only [slen]; omega) (x_mjc rfl (by simp only [slen]; omega) x_mjn)))))) rfl) (by show 1 ≤ 1000; decide) rfl
theorem fi_NotBehind (h : Ws w0) (h' : Ws w1) (h'' : Ws w2) : FI_NotBehind [.str w0, .str w1, .str w2] S = .ok [("z", .str w2), ("y", .str w1), ("x", .str w0)] S := by
  show initF _ (mcons (mjs Str.empty [(n1 vFmtR (gp 1)), (fun x => DL.ret (D.str (Str.ofString " is nearer to "))), (n1 vFmtR (gp 3)), (fun x => DL.ret (D.str (Str.ofString " by way of "))), (n1 vFmtR (gp 2)), (fun x => DL.ret (D.str (Str.ofString " behind the table")))]) fun x => DL.ret []) [(Str.ofString "x", gv 1), (Str.ofString "y", gv 2), (Str.ofString "z", gv 3)] _ _ = _
  have h1 := rl h
  have h2 := rl h'
  have h3 := rl h''
  have e0 : Str.empty.length = 0 := rfl
  have e1 : (Str.ofString " is nearer to ").length ≤ 100 := by decide +kernel
  have e2 : (Str.ofString " by way of ").length ≤ 100 := by decide +kernel
  have e3 : (Str.ofString " behind the table").length ≤ 100 := by decide +kernel
  exact x_initF (x_mcons (x_mjc (x_n1 rfl (x_fmtR (rs h))) (by omega) (x_mjc rfl (by simp only [slen]; omega) (x_mjc (x_n1 rfl (x_fmtR (rs h''))) (by simp only [slen]; omega) (x_mjc rfl (by simp only [slen]; omega) (x_mjc (x_n1 rfl (x_fmtR (rs h'))) (by simp only [slen]; omega) (x_mjc rfl (by simp only [slen]; omega) x_mjn)))))) rfl) (by show 1 ≤ 1000; decide) rfl
theorem fi_BadPath (h0 : 0 ≤ nb) (h1 : nb < 1000000000) : FI_BadPath [.int nb] S = .ok [("number", .int nb)] S := by
  show initF _ (mcons (mjs Str.empty [(fun x => DL.ret (D.str (Str.ofString "list "))), (n1 vFmt (gp 1)), (fun x => DL.ret (D.str (Str.ofString " is no path")))]) fun x => DL.ret []) [(Str.ofString "number", gv 1)] _ _ = _
  obtain ⟨i1, i2, i3⟩ := int_str (i := nb) h0 (by omega)
  have e0 : Str.empty.length = 0 := rfl
  have e1 : (Str.ofString "list ").length ≤ 100 := by decide +kernel
  have e2 : (Str.ofString " is no path").length ≤ 100 := by decide +kernel
  exact x_initF (x_mcons (x_mjc rfl (by omega) (x_mjc (x_n1 rfl (x_fmtI ⟨i1, i2⟩)) (by simp only [slen]; omega) (x_mjc rfl (by simp only [slen]; omega) x_mjn))) rfl) (by show 1 ≤ 1000; decide) rfl
theorem fi_BarePair {a b : D} : FI_BarePair [a, b] S = .ok [("row", b), ("column", a)] S := by
  show initF _ (mcons (fun x => DL.ret (D.str (Str.ofString "a closed pair is the pair of no point"))) fun x => DL.ret []) [(Str.ofString "column", gv 1), (Str.ofString "row", gv 2)] _ _ = _
  exact x_initF rfl (by show 1 ≤ 1000; decide) rfl
theorem fi_Clash {xs : List D} {j : Nat} (h : Ws w) (hj : S[j]? = some (.lst xs)) : FI_Clash [.str w, .cell j] S = .ok [("path", .lst xs), ("name", .str w)] S := by
  show initF _ (mcons (mjs Str.empty [(fun x => DL.ret (D.str (Str.ofString "a path goes beyond the cap "))), (n1 vFmtR (gp 1))]) fun x => DL.ret []) [(Str.ofString "name", gv 1), (Str.ofString "path", fun g => dm (mcall (c1 bList) (mcons (gp 2) fun x => DL.ret []) g))] _ _ = _
  refine x_initF (x_mcons (msg1 (by decide +kernel) h.ok h.len rfl) rfl) (by show 1 ≤ 1000; decide) ?_
  refine x_bind (x_nox rfl) (x_bind (x_nox (x_dm (dv := .ow (.lst xs)) (x_mcall (xs := [.cell j]) rfl (x_c1 (d' := .lst xs) ?_ rfl)))) rfl)
  show (match S[j]? with | some c => Res.ok c S | none => .stuck) = _
  rw [hj]
/-! ### the rows -/
def rowsP : List D := (["BadScale", "BadTable", "MixedScales", "MixedSpaces", "BadImages", "TooMany", "NotClosed", "NotKept", "NotLoose", "NotFitting", "NothingDone"] : List Str).map fun c => .exc c []
theorem plain_ok : F__law_plain [] S = .ok (.ow (.lst rowsP)) S := by kernel_rfl
def rowsL (w : Str) : List D := [.exc "UnknownGrade" [("name", .str w)], .exc "UnknownPoint" [("name", .str w)], .exc "NotTold" [("name", .str w)]]
theorem sEq {a b : G → M D} {g : G} (ha : a g S = .ok (.str w) S) (hb : b g S = .ok (.str w) S) (h : sOk w) : n2 vEq a b g S = .ok (.bl true) S := x_n2 ha hb (xeq rfl h.1)
theorem sNe {a b : G → M D} {g : G} (ha : a g S = .ok (.str w) S) (hb : b g S = .ok (.str w) S) (h : sOk w) : n2 vNe a b g S = .ok (.bl false) S := x_n2 ha hb (xne rfl h.1)
theorem missing_ok (h : Ws w) : F__law_missing [.str w] S = .ok (.sh (.lst (rowsL w))) S := by
  refine x_runB (x_seq (x_asg (x_mlst (xs := rowsL w) (x_mcons (x_mexc rfl ⟨rfl, by decide⟩ (fi_UnknownGrade h)) (x_mcons (x_mexc rfl ⟨rfl, by decide⟩ (fi_UnknownPoint h)) (x_mcons (x_mexc rfl ⟨rfl, by decide⟩ (fi_NotTold h)) rfl))) (by show 3 ≤ 1000000; decide)) rfl) ?_)
  refine (show sret _ _ S = _ from x_ret (x_mif_t (x_tob (x_n2 rfl (x_dm (x_mlc (ds := rowsL w) (ys := [.bl true, .bl true, .bl true]) rfl (by show 3 ≤ 1000000; decide) ?_)) rfl)) rfl))
  exact x_compc rfl rfl (sEq rfl rfl h.ok) (x_compc rfl rfl (sEq rfl rfl h.ok) (x_compc rfl rfl (sEq rfl rfl h.ok) x_compn))
end
end T91
end

section
namespace T91
open PySem PySem.Spec PyProof.Rows L2 DX DL NdefX
section
variable {cs : List Int} {l m t : Int} {w0 w1 w2 : Str} {nb : Int}
abbrev W3 (w0 w1 w2 : Str) : D := .lst [.str w0, .str w1, .str w2]
def rN (w0 : Str) : List D := [exN "BadName" "name" w0, exN "TwiceTold" "name" w0]
def rP (w0 w1 : Str) : List D := [exN "NotSame" "x" w0, .exc "Stretched" [("y", .str w1), ("x", .str w0)]]
def rT2 (w0 w1 w2 : Str) : List D := [ex3 "NotThrough" w0 w1 w2, ex3 "NotAhead" w0 w1 w2]
def rT (w0 w1 w2 : Str) : List D := [ex3 "NotThrough" w0 w1 w2, ex3 "NotAhead" w0 w1 w2, ex3 "NotBehind" w0 w1 w2]
def rR (w0 w1 w2 : Str) (nb : Int) : List D := [.exc "BadPath" [("number", .int nb)], .exc "BarePair" [("row", .tup [.str w1]), ("column", .tup [.str w0])], .exc "Clash" [("path", .lst [.str w1, .str w2]), ("name", .str w0)]]
theorem x_fz {i : Nat} {mm : SM} {g : G} {S : Store} {r : SRes} (h : mm (fz i g) S = r) : sfz i mm g S = r := h
theorem x_mcell' {mm : G → M DV} {g : G} {S S1 S2 : Store} {d : D} {j : Nat} (h : mm g S = .ok (.ow d) S1) (hS : S1 ++ [d] = S2) (hj : S1.length = j) : mcell mm g S = .ok (.cell j) S2 := by subst hS hj; exact x_mcell h
theorem can3 (h0 : Ws w0) (h1 : Ws w1) (h2 : Ws w2) : (W3 w0 w1 w2).pd.canLay0 = true := by
  simp [D.pd, pdAll, PyData.canLay0, PyData.canLayAll0, h0.ok.1, h1.ok.1, h2.ok.1]
theorem named_ok (h0 : Ws w0) (h1 : Ws w1) (h2 : Ws w2) (n0 : 0 ≤ nb) (n1 : nb < 1000000000) :
    F__law_named [W3 w0 w1 w2, .int nb] (Sx cs l m t []) = .ok (.ow (.lst (rN w0 ++ rP w0 w1 ++ rT w0 w1 w2 ++ rR w0 w1 w2 nb))) (Sx cs l m t [.lst [.str w1, .str w2, .str "zz"]]) := by
  have c3 := can3 h0 h1 h2
  have c2 : (D.lst [.str w1, .str w2]).pd.canLay0 = true := by simp [D.pd, pdAll, PyData.canLay0, PyData.canLayAll0, h1.ok.1, h2.ok.1]
  have c4 : (D.tup [.tup [.str w0], .tup [.str w1]]).pd.canLay0 = true := by simp [D.pd, pdAll, PyData.canLay0, PyData.canLayAll0, h0.ok.1, h1.ok.1]
  refine x_runB ?_
  let gk : Slot → Slot → Slot → Slot → Slot → Slot → Slot → G := fun a2 a3 a4 a5 a6 a7 a8 => [.sh (W3 w0 w1 w2), .sh (.int nb), a2, a3, a4, a5, a6, a7, a8, .un]
  let eP : D := .exc "BadPath" [("number", .int nb)]
  let eB : D := .exc "BarePair" [("row", .tup [.str w1]), ("column", .tup [.str w0])]
  let eC : D := .exc "Clash" [("path", .lst [.str w1, .str w2]), ("name", .str w0)]
  refine x_seq (g1 := gk (.ow (.lst (rN w0))) .un .un .un .un .un .un) (S1 := Sx cs l m t []) (x_asg (x_mlst (xs := rN w0) (x_mcons (x_mexc rfl ⟨rfl, by decide⟩ (fi_BadName h0)) (x_mcons (x_mexc rfl ⟨rfl, by decide⟩ (fi_TwiceTold h0)) rfl)) (by show 2 ≤ 1000000; decide)) rfl) ?_
  refine x_seq (g1 := gk (.ow (.lst (rN w0))) (.ow (.lst (rP w0 w1))) .un .un .un .un .un) (S1 := Sx cs l m t []) (x_asg (x_mlst (xs := rP w0 w1) (x_mcons (x_mexc rfl ⟨rfl, by decide⟩ (fi_NotSame h0)) (x_mcons (x_mexc rfl ⟨rfl, by decide⟩ (fi_Stretched h0 h1)) rfl)) (by show 2 ≤ 1000000; decide)) rfl) ?_
  refine x_seq (g1 := gk (.ow (.lst (rN w0))) (.ow (.lst (rP w0 w1))) (.ow (.lst (rT2 w0 w1 w2))) .un .un .un .un) (S1 := Sx cs l m t []) (x_asg (x_mlst (xs := rT2 w0 w1 w2) (x_mcons (x_mexc rfl ⟨rfl, by decide⟩ (fi_NotThrough h0 h1 h2)) (x_mcons (x_mexc rfl ⟨rfl, by decide⟩ (fi_NotAhead h0 h1 h2)) rfl)) (by show 2 ≤ 1000000; decide)) rfl) ?_
  refine x_seq (g1 := gk (.ow (.lst (rN w0))) (.ow (.lst (rP w0 w1))) (.ow (.lst (rT w0 w1 w2))) .un .un .un .un) (S1 := Sx cs l m t []) (x_app (xs := rT2 w0 w1 w2) rfl (x_mexc rfl ⟨rfl, by decide⟩ (fi_NotBehind h0 h1 h2)) rfl (by show 2 ≤ 1000000; decide) rfl rfl) ?_
  refine x_seq (g1 := gk (.ow (.lst (rN w0))) (.ow (.lst (rP w0 w1))) (.ow (.lst (rT w0 w1 w2))) (.sh eP) .un .un .un) (S1 := Sx cs l m t []) (x_asg (x_om (x_mexc rfl ⟨rfl, by decide⟩ (fi_BadPath n0 n1))) rfl) ?_
  refine x_seq (g1 := gk (.ow (.lst (rN w0))) (.ow (.lst (rP w0 w1))) (.ow (.lst (rT w0 w1 w2))) (.sh eP) (.sh eB) .un .un) (S1 := Sx cs l m t []) (x_asg (x_om (x_mexc rfl ⟨rfl, by decide⟩ fi_BarePair)) rfl) ?_
  refine x_seq (g1 := gk (.ow (.lst (rN w0))) (.ow (.lst (rP w0 w1))) (.ow (.lst (rT w0 w1 w2))) (.sh eP) (.sh eB) (.sh (.cell 2)) .un) (S1 := Sx cs l m t [.lst [.str w1, .str w2]]) (x_asg (x_om (x_mcell' (x_mlst (xs := [.str w1, .str w2]) rfl (by show 2 ≤ 1000000; decide)) rfl rfl)) rfl) ?_
  refine x_seq (g1 := gk (.ow (.lst (rN w0))) (.ow (.lst (rP w0 w1))) (.ow (.lst (rT w0 w1 w2))) (.sh eP) (.sh eB) (.sh (.cell 2)) (.sh eC)) (S1 := Sx cs l m t [.lst [.str w1, .str w2]]) (x_asg (x_om (x_mexc rfl ⟨rfl, by decide⟩ (fi_Clash (xs := [.str w1, .str w2]) h0 rfl))) rfl) ?_
  refine x_seq (g1 := gk (.ow (.lst (rN w0))) (.ow (.lst (rP w0 w1))) (.ow (.lst (rT w0 w1 w2))) (.sh eP) (.sh eB) (.sh (.cell 2)) (.sh eC)) (S1 := Sx cs l m t [.lst [.str w1, .str w2, .str "zz"]]) (x_app (xs := [.str w1, .str w2]) rfl rfl rfl (by show 2 ≤ 1000000; decide) rfl rfl) ?_
  have el : ∀ {S : Store} {g : G} {a b : G → M D}, a g S = .ok (W3 w0 w1 w2) S → b g S = .ok (W3 w0 w1 w2) S → n2 vEq a b g S = .ok (.bl true) S := fun ha hb => x_n2 ha hb (xeq rfl c3)
  refine x_seq (g1 := gk (.sh (.lst (rN w0))) (.sh (.lst (rP w0 w1))) (.ow (.lst (rT w0 w1 w2))) (.sh eP) (.sh eB) (.sh (.cell 2)) (.sh eC)) (S1 := Sx cs l m t [.lst [.str w1, .str w2, .str "zz"]]) (x_fz (x_fz (x_if_f (x_tor_f
    (x_tob (x_n2 rfl (x_dm (x_mlc (ds := rN w0) (ys := [.bl true, .bl true]) rfl (by show 2 ≤ 1000000; decide) (x_compc rfl rfl (sEq rfl rfl h0.ok) (x_compc rfl rfl (sEq rfl rfl h0.ok) x_compn)))) rfl))
    (x_tob (x_n2 rfl (x_dm (x_mlc (ds := rP w0 w1) (ys := [.bl true, .bl true]) rfl (by show 2 ≤ 1000000; decide) (x_compc rfl rfl (sEq rfl rfl h0.ok) (x_compc rfl rfl (sEq rfl rfl h0.ok) x_compn)))) rfl))) rfl))) ?_
  refine x_seq (g1 := gk (.sh (.lst (rN w0))) (.sh (.lst (rP w0 w1))) (.sh (.lst (rT w0 w1 w2))) (.sh eP) (.sh eB) (.sh (.cell 2)) (.sh eC)) (S1 := Sx cs l m t [.lst [.str w1, .str w2, .str "zz"]]) (x_fz (x_if_f (x_tor_f (x_tob (sNe rfl rfl h1.ok))
    (x_tob (x_n2 rfl (x_dm (x_mlc (ds := rT w0 w1 w2) (ys := [.bl true, .bl true, .bl true]) rfl (by show 3 ≤ 1000000; decide) (x_compc rfl rfl (el rfl rfl) (x_compc rfl rfl (el rfl rfl) (x_compc rfl rfl (el rfl rfl) x_compn))))) rfl))) rfl)) ?_
  refine x_seq (g1 := gk (.sh (.lst (rN w0))) (.sh (.lst (rP w0 w1))) (.sh (.lst (rT w0 w1 w2))) (.sh eP) (.sh eB) (.sh (.cell 2)) (.sh eC)) (S1 := Sx cs l m t [.lst [.str w1, .str w2, .str "zz"]]) (x_if_f (x_tor_f (x_tob (x_n2 (x := .int nb) (y := .int nb) rfl rfl (xne rfl rfl))) (x_tob (x_n2 (x := .tup [.tup [.str w0], .tup [.str w1]]) (y := .tup [.tup [.str w0], .tup [.str w1]]) rfl rfl (xne rfl c4)))) rfl) ?_
  refine x_seq (g1 := gk (.sh (.lst (rN w0))) (.sh (.lst (rP w0 w1))) (.sh (.lst (rT w0 w1 w2))) (.sh eP) (.sh eB) (.sh (.cell 2)) (.sh eC)) (S1 := Sx cs l m t [.lst [.str w1, .str w2, .str "zz"]]) (x_if_f (x_tor_f (x_tob (sNe rfl rfl h0.ok)) (x_tob (x_n2 (x := .lst [.str w1, .str w2]) (y := .lst [.str w1, .str w2]) rfl rfl (xne rfl c2)))) rfl) ?_
  rfl
end
end T91
end

section
namespace T91
open PySem PySem.Spec PyProof.Rows L2 DX DL NdefX
section
variable {S : Store} {fs : List (Str × D)} {cs : List Int} {l m t n : Int} {w0 w1 w2 : Str} {nb : Int}
theorem cl_0 : F__law_classes [.exc "BadScale" fs] S = .ok (.ow (.lst [.int 0])) S := by kernel_rfl
theorem cl_1 : F__law_classes [.exc "BadTable" fs] S = .ok (.ow (.lst [.int 1])) S := by kernel_rfl
theorem cl_2 : F__law_classes [.exc "MixedScales" fs] S = .ok (.ow (.lst [.int 2])) S := by kernel_rfl
theorem cl_3 : F__law_classes [.exc "MixedSpaces" fs] S = .ok (.ow (.lst [.int 3])) S := by kernel_rfl
theorem cl_4 : F__law_classes [.exc "BadImages" fs] S = .ok (.ow (.lst [.int 4])) S := by kernel_rfl
theorem cl_5 : F__law_classes [.exc "TooMany" fs] S = .ok (.ow (.lst [.int 5])) S := by kernel_rfl
theorem cl_6 : F__law_classes [.exc "NotClosed" fs] S = .ok (.ow (.lst [.int 6])) S := by kernel_rfl
theorem cl_7 : F__law_classes [.exc "NotKept" fs] S = .ok (.ow (.lst [.int 7])) S := by kernel_rfl
theorem cl_8 : F__law_classes [.exc "NotLoose" fs] S = .ok (.ow (.lst [.int 8])) S := by kernel_rfl
theorem cl_9 : F__law_classes [.exc "NotFitting" fs] S = .ok (.ow (.lst [.int 9])) S := by kernel_rfl
theorem cl_10 : F__law_classes [.exc "NothingDone" fs] S = .ok (.ow (.lst [.int 10])) S := by kernel_rfl
theorem cl_11 : F__law_classes [.exc "BadName" fs] S = .ok (.ow (.lst [.int 11])) S := by kernel_rfl
theorem cl_12 : F__law_classes [.exc "TwiceTold" fs] S = .ok (.ow (.lst [.int 12])) S := by kernel_rfl
theorem cl_13 : F__law_classes [.exc "NotSame" fs] S = .ok (.ow (.lst [.int 13])) S := by kernel_rfl
theorem cl_14 : F__law_classes [.exc "Stretched" fs] S = .ok (.ow (.lst [.int 14])) S := by kernel_rfl
theorem cl_15 : F__law_classes [.exc "NotThrough" fs] S = .ok (.ow (.lst [.int 15])) S := by kernel_rfl
theorem cl_16 : F__law_classes [.exc "NotAhead" fs] S = .ok (.ow (.lst [.int 16])) S := by kernel_rfl
theorem cl_17 : F__law_classes [.exc "NotBehind" fs] S = .ok (.ow (.lst [.int 17])) S := by kernel_rfl
theorem cl_18 : F__law_classes [.exc "BadPath" fs] S = .ok (.ow (.lst [.int 18])) S := by kernel_rfl
theorem cl_19 : F__law_classes [.exc "BarePair" fs] S = .ok (.ow (.lst [.int 19])) S := by kernel_rfl
theorem cl_20 : F__law_classes [.exc "Clash" fs] S = .ok (.ow (.lst [.int 20])) S := by kernel_rfl
theorem cl_21 : F__law_classes [.exc "UnknownGrade" fs] S = .ok (.ow (.lst [.int 21])) S := by kernel_rfl
theorem cl_22 : F__law_classes [.exc "UnknownPoint" fs] S = .ok (.ow (.lst [.int 22])) S := by kernel_rfl
theorem cl_23 : F__law_classes [.exc "NotTold" fs] S = .ok (.ow (.lst [.int 23])) S := by kernel_rfl

abbrev rowsA (w0 w1 w2 : Str) (nb : Int) : List D := rowsP ++ (rN w0 ++ rP w0 w1 ++ rT w0 w1 w2 ++ rR w0 w1 w2 nb)
def gL (xs : List Int) (a1 a2 a3 a4 a5 a6 : Slot) : G := [.sh (.scr xs), a1, a2, a3, a4, a5, a6]
def sKs : D := .lst ((List.range 24).map fun i : Nat => .lst [.int (i : Int)])
theorem law_ok (xs : List Int) (hx : xs.length < 80) : ∃ S', F_law [.scr xs] [] = .ok (.sh (.bl true)) S' := by
  obtain ⟨cs, m, e1, p1, p2, p3, p4⟩ := source_ok (S := []) xs hx
  have k0 : OkS cs 1 m 0 0 := ⟨p1, by omega, by decide, p3, p4, by decide, by decide⟩
  obtain ⟨w0, c0, l0, t0, f0, k1, s0, z0⟩ := word_ok (rest := []) k0 (by decide)
  obtain ⟨w1, c1, l1, t1, f1, k2, s1, z1⟩ := word_ok (rest := []) k1 (by decide)
  obtain ⟨w2, c2, l2, t2, f2, k3, s2, z2⟩ := word_ok (rest := []) k2 (by decide)
  obtain ⟨nb, c3, l3, t3, f3, n0, n1, k4⟩ := pick' (many := 10 ^ (9 : Int).toNat) (rest := []) k3 (by decide) (by decide) (by decide)
  have h0 : Ws w0 := ⟨s0, by omega⟩
  have h1 : Ws w1 := ⟨s1, by omega⟩
  have h2 : Ws w2 := ⟨s2, by omega⟩
  refine ⟨Sx c3 l3 m t3 [.lst [.str w1, .str w2, .str "zz"]], x_runB ?_⟩
  refine x_seq (g1 := gL xs (.sh (.cell 1)) .un .un .un .un .un) (S1 := Sx cs 1 m 0 []) (x_asg (x_om (x_mcell' (x_mfn (x_mcons rfl rfl) rfl e1) rfl rfl)) rfl) ?_
  refine x_seq (g1 := gL xs (.sh (.cell 1)) (.ow (W3 w0 w1 w2)) .un .un .un .un) (S1 := Sx c2 l2 m t2 []) (x_asg (x_mlc (ds := [.int 0, .int 1, .int 2]) (ys := [.str w0, .str w1, .str w2]) rfl (by show 3 ≤ 1000000; decide) (x_compc rfl rfl (x_dm (x_mfn (x_mcons rfl rfl) rfl f0)) (x_compc rfl rfl (x_dm (x_mfn (x_mcons rfl rfl) rfl f1)) (x_compc rfl rfl (x_dm (x_mfn (x_mcons rfl rfl) rfl f2)) x_compn)))) rfl) ?_
  refine x_seq (g1 := gL xs (.sh (.cell 1)) (.sh (W3 w0 w1 w2)) .un (.ow (.lst (rowsA w0 w1 w2 nb))) .un .un) (S1 := Sx c3 l3 m t3 [.lst [.str w1, .str w2, .str "zz"]]) (x_fz (x_asg (x_m2 (x := .lst rowsP) (y := .lst (rN w0 ++ rP w0 w1 ++ rT w0 w1 w2 ++ rR w0 w1 w2 nb)) (x_dm (x_mfn rfl rfl plain_ok)) (x_dm (x_mfn (x_mcons rfl (x_mcons (x_dm (x_mfn (x_mcons rfl (x_mcons (x_n2 rfl rfl (x_pow ⟨by decide, by decide, by decide⟩)) rfl)) rfl f3)) rfl)) rfl (named_ok h0 h1 h2 n0 (Int.lt_of_lt_of_le n1 (by decide))))) (x_addl (by show 11 + 10 ≤ 1000000; decide))) rfl)) ?_
  refine x_seq (g1 := gL xs (.sh (.cell 1)) (.sh (W3 w0 w1 w2)) .un (.ow (.lst (rowsA w0 w1 w2 nb))) (.sh (.lst (rowsL w0))) .un) (S1 := Sx c3 l3 m t3 [.lst [.str w1, .str w2, .str "zz"]]) (x_asg (x_mfn (x_mcons rfl rfl) rfl (missing_ok h0)) rfl) ?_
  refine x_seq (g1 := gL xs (.sh (.cell 1)) (.sh (W3 w0 w1 w2)) .un (.ow (.lst (rowsA w0 w1 w2 nb))) (.sh (.lst (rowsL w0))) .un) (S1 := Sx c3 l3 m t3 [.lst [.str w1, .str w2, .str "zz"]]) (by kernel_rfl) ?_
  refine x_seq (g1 := gL xs (.sh (.cell 1)) (.sh (W3 w0 w1 w2)) .un (.sh (.lst (rowsA w0 w1 w2 nb))) (.sh (.lst (rowsL w0))) .un) (S1 := Sx c3 l3 m t3 [.lst [.str w1, .str w2, .str "zz"]]) (by kernel_rfl) ?_
  kernel_rfl
end
end T91
end

section
namespace T91
open PySem PySem.Spec PyProof.Rows L2 DX DL NdefX
/-- a law: F gives the written part, the function object, the promise over every base, where exceptions may be in the air -/
theorem walk_of {l : PySem.W.OpenLaw} {n k : Nat} {q : Program} {loose : List Str} {XP : (Str → Option Value) → Heap → Prop} {YP : World → Heap → Prop} {d : DefRec} {x : Str}
    (hn : l.most = some n) (hn2 : n ≤ sizeLine) (hdf : d.params.defaults = []) (hr : Room k callerA)
    (F : ∀ (w : World) (mg : Str → Option Value) (fa : Addr) (h : Heap), YP w h → h.Ns mainGlobals mg → mg d.name = some (.ref fa) →
      ∃ (K : PySem.W.Frag) (fd : FuncData) (sp : Sp), K.In h ∧ (∀ (s : Shared) (u : Value), BindsTo s fd ⟨[u], []⟩ [(x, u)]) ∧
        (∀ (H : Hp) (a : Addr) (ns : List Int), ns.length ≤ n → Only H → SqL K H a (ns.map V.int) → sp [.ref a] H (fun v _ => v = .bl true) fun _ _ _ => False) ∧
        ∀ base : Heap, K.In base → base.Ns mainGlobals mg → FnOk l.prog w K mg base (L2.CX l.prog w) k fa fd [x] sp) :
    PySem.W.WalkO q loose XP YP l.row.toRowW d [] (fun f vs => PySem.call f vs) := by
  refine Att.attach_call hn hdf fun w s₀ s₁ mg mb fa o pm cd doc a vs ns G Y ho hd hcd hmg hobj hints hlen hg => ?_
  obtain ⟨K, fd, sp, KX, hb, hsp, hF⟩ := F w mg fa _ Y G.T.g hmg
  exact law_call KX G.T.g G.T.b G.T.builtins G.T.nolimit hg hobj hints (Nat.le_trans hlen hn2) hr hF hb (fun H hO hS => hsp H a ns hlen hO hS) fun H e s' ⟨_, _, _, _, _, _, _, _, _, _, _, _, z⟩ => z
theorem facts {w : World} {K : PySem.W.Frag} {h : Heap} {mg : Str → Option Value} {f : Addr} (X : K.In h) (G : h.Ns mainGlobals mg) (hfa : mg ("law" : Str) = some (.ref f)) (c : SaysX fa fn fc fx K) :
    ∃ fd : FuncData, (∀ (s : Shared) (v : Value), BindsTo s fd ⟨[v], []⟩ [("script", v)]) ∧ ∀ base : Heap, K.In base → base.Ns mainGlobals mg → FnOk PySem.Challenge.rw_farscale_k91_errors.prog w K mg base (L2.CX PySem.Challenge.rw_farscale_k91_errors.prog w) 5 f fd ["script"] (spD (LCK K) 1 F_law) := by
  obtain ⟨fd, FD⟩ := c.def_ 7 (d := mkD "law" 35) rfl
  have e := hfa.symm.trans (He.glo_ok X G (c.fact 33 (f := .glo "law") rfl))
  cases e
  have b := FunD.bindsA (ps := ["script"]) FD fun _ _ _ _ _ _ us hl => match us, hl with | [_], _ => rfl
  refine ⟨fd, fun s v => b s [v] rfl, fun base X1 G1 => ?_⟩
  exact fn_okF (N := N_law) FD sc_law fun E => d_law.2 _ w K mg base ⟨X1, G1, c, by kernel_rfl, by kernel_rfl⟩ E
theorem says {K : PySem.W.Frag} {H : Hp} {a : Addr} {ns : List Int} (hl : ns.length ≤ 63) (hS : SqL K H a (ns.map V.int)) : spD (LCK K) 1 F_law [.ref a] H (fun v _ => v = .bl true) fun _ _ _ => False := by
  obtain ⟨S', e⟩ := law_ok ns (by omega)
  refine ⟨⟨[], H, H⟩, [], [.scr ns], rfl, ⟨fun _ _ h => h, fun _ h => absurd h List.not_mem_nil, List.nodup_nil, rfl, fun i _ _ h => by simp at h, fun _ h => absurd h List.not_mem_nil⟩, ⟨_, _, rfl, ⟨a, rfl, hS⟩, rfl⟩, rfl, ?_⟩
  rw [e]
  intro v w' _ _ r
  simpa only [RV, Rep] using r
end T91
open PySem PySem.W PySem.Calls PyProof.Rows
theorem PySem.Challenge.cw_farscale_k91_errors_holds : PySem.Challenge.rw_farscale_k91_errors.Holds := by
  w_on; o_law
  refine HandSHeadRun.head_any (r := OpenLaw.row PySem.Challenge.rw_farscale_k91_errors) (q := view (OpenLaw.row PySem.Challenge.rw_farscale_k91_errors).prog [35]) (H := T91.hk) (ob := T91.ob) (M := 8000) (loose := ((["FarscaleError", "BadScale", "BadName", "TwiceTold", "BadTable", "NotSame", "NotThrough", "BadPath", "MixedScales", "MixedSpaces", "BadImages", "Stretched", "NotAhead", "NotBehind", "TooMany", "NotClosed", "NotKept", "BarePair", "NotLoose", "NotFitting", "Clash", "NothingDone", "NameMissing", "UnknownGrade", "UnknownPoint", "NotTold", "_law_source", "_law_pick", "_law_word", "_law_plain"] : List Str) ++ (["_law_named", "_law_missing", "_law_classes"] : List Str))) (d := HandSHeadRun.topDef (OpenLaw.row PySem.Challenge.rw_farscale_k91_errors).prog 35) (kwd := []) T91.ob_eq
    (by kernel_rfl) (fun s => by kernel_rfl) T91.run (by kernel_rfl) (by kernel_rfl) (by kernel_rfl) (by rfl) (by first | assumption | decide +kernel) (by decide +kernel) ⟨rfl, rfl, rfl, rfl, rfl, by decide +kernel⟩ ?hw ?hc
  case hw => w_witness2
  case hc =>
    refine T91.walk_of (l := PySem.Challenge.rw_farscale_k91_errors) (n := 63) (k := 5) (x := "script") rfl (by decide) (by kernel_rfl) ⟨rfl, by decide, by decide⟩ ?F
    intro w mg fa h Y G hmg0
    obtain ⟨K, KX, c⟩ := Y
    have hmg : mg ("law" : PySem.Str) = some (.ref fa) := by
      have e : (HandSHeadRun.topDef (OpenLaw.row PySem.Challenge.rw_farscale_k91_errors).prog 35).name = ("law" : PySem.Str) := by kernel_rfl
      rw [← e]
      exact hmg0
    obtain ⟨fd, hb, hF⟩ := T91.facts (w := w) KX G hmg c
    exact ⟨K, fd, _, KX, hb, fun H a ns hl _ hS => T91.says hl hS, hF⟩
end
