import PyProof.Rows.All
import Wide.All
import OpenK.AllK
import Wide.FinOn
import HandS.ForMost
import HandS.ForExc
import HandS.Wide
import HandS.Zip
import HandS.TupAny
import HandS.DictTup
import HandS.IsInst
import KE.SortData
import HandS.Deep
import HandS.Style
import HandS.TupMul
import KE.DataCmp
import HandS.TupLen
import HandS.MapJoin
import HandS.Keys
import HandS.RaiseMore
import HandS.ExcOwn
import HandS.Small
import HandS.Defaults
import HandS.WordsExc
import HandS.Conv
import HandS.More
import Lean
import KE.KStateDown
import PyProof.ExcBaseAll.ValueError
import HandS.Ends
import HandS.Head0
import HandS.Head1
import HandS.Head2
import HandS.HeadEnd
import HandS.HeadHook1
import HandS.HeadHook2
import PySem.Challenge.RW_relaysandrows_k73_whole_texts_of_plans
set_option Elab.async false
set_option linter.all false
set_option maxRecDepth 100000
set_option maxHeartbeats 0
/-! PD1: data without the heap, how it stands in the heap, the state of a def's slots. -/
namespace PD
open PySem PySem.Spec PyProof.Rows L2
abbrev St := L2.St

abbrev D := PyData
abbrev Frag := PySem.W.Frag

/-! ### data in a heap whose objects stay -/
def kD : Key → D
  | .inl i => .int i
  | .inr s => .str s
def tkD (k : List Key) : D := .tuple (k.map kD)
/-- the script, as a datum that is none of the others -/
def scrD (ns : List Int) : D := .dict [(.none, .list (ns.map .int))]
mutual
inductive Rep (K : Frag) (G : Hp) : V → D → Prop
  | non : Rep K G .non .none
  | bl (b : Bool) : Rep K G (.bl b) (.bool b)
  | int (i : Int) : Rep K G (.int i) (.int i)
  | str (x : Str) : Rep K G (.str x) (.str x)
  | lst {a : Addr} {xs : List V} {ds : List D} : G a = some (.lst xs) → RepA K G xs ds → Rep K G (.ref a) (.list ds)
  | tup {a : Addr} {xs : List V} {ds : List D} : G a = some (.tup xs) → RepA K G xs ds → Rep K G (.ref a) (.tuple ds)
  | dK {a : Addr} {kvs : List (Key × V)} {es : List (D × D)} : G a = some (.dK kvs) → RepK K G kvs es → Rep K G (.ref a) (.dict es)
  | dT {a : Addr} {kvs : List (List Key × V)} {es : List (D × D)} : G a = some (.dT kvs) → RepT K G kvs es → Rep K G (.ref a) (.dict ((.bool true, .none) :: es))
  | scr {a : Addr} {ns : List Int} : SqL K G a (ns.map V.int) → Rep K G (.ref a) (scrD ns)
inductive RepA (K : Frag) (G : Hp) : List V → List D → Prop
  | nil : RepA K G [] []
  | cons {v : V} {vs : List V} {d : D} {ds : List D} : Rep K G v d → RepA K G vs ds → RepA K G (v :: vs) (d :: ds)
inductive RepK (K : Frag) (G : Hp) : List (Key × V) → List (D × D) → Prop
  | nil : RepK K G [] []
  | cons {k : Key} {v : V} {kvs : List (Key × V)} {d : D} {es : List (D × D)} : Rep K G v d → RepK K G kvs es → RepK K G ((k, v) :: kvs) ((kD k, d) :: es)
inductive RepT (K : Frag) (G : Hp) : List (List Key × V) → List (D × D) → Prop
  | nil : RepT K G [] []
  | cons {k : List Key} {v : V} {kvs : List (List Key × V)} {d : D} {es : List (D × D)} : Rep K G v d → RepT K G kvs es → RepT K G ((k, v) :: kvs) ((tkD k, d) :: es)
end

/-- G is a part of H -/
abbrev Sub (G H : Hp) : Prop := ∀ b o, G b = some o → H b = some o
theorem Sub.refl {G : Hp} : Sub G G := fun _ _ h => h
theorem Sub.trans {A B C : Hp} (h : Sub A B) (k : Sub B C) : Sub A C := fun b o e => k b o (h b o e)
theorem Sub.rd {G H : Hp} (s : Sub G H) {a : Addr} {u : HO} (h : Rd G a u) : Rd H a u := by
  rcases h with h | ⟨o, h⟩
  · exact .inl (s _ _ h)
  · exact .inr ⟨o, s _ _ h⟩
theorem Sub.sqL {K : Frag} {G H : Hp} (s : Sub G H) {a : Addr} {xs : List V} (h : SqL K G a xs) : SqL K H a xs := h.elim (fun h => .inl (s.rd h)) .inr
theorem Sub.sqT {K : Frag} {G H : Hp} (s : Sub G H) {a : Addr} {xs : List V} (h : SqT K G a xs) : SqT K H a xs := h.elim (fun h => .inl (s.rd h)) .inr
section
variable {K : Frag} {G H : Hp}
mutual
theorem Rep.mono (s : Sub G H) : ∀ {v : V} {d : D}, Rep K G v d → Rep K H v d
  | _, _, .non => .non
  | _, _, .bl b => .bl b
  | _, _, .int i => .int i
  | _, _, .str x => .str x
  | _, _, .lst h t => .lst (s _ _ h) (RepA.mono s t)
  | _, _, .tup h t => .tup (s _ _ h) (RepA.mono s t)
  | _, _, .dK h t => .dK (s _ _ h) (RepK.mono s t)
  | _, _, .dT h t => .dT (s _ _ h) (RepT.mono s t)
  | _, _, .scr h => .scr (s.sqL h)
theorem RepA.mono (s : Sub G H) : ∀ {v : List V} {d : List D}, RepA K G v d → RepA K H v d
  | _, _, .nil => .nil
  | _, _, .cons h t => .cons (Rep.mono s h) (RepA.mono s t)
theorem RepK.mono (s : Sub G H) : ∀ {v : List (Key × V)} {d : List (D × D)}, RepK K G v d → RepK K H v d
  | _, _, .nil => .nil
  | _, _, .cons h t => .cons (Rep.mono s h) (RepK.mono s t)
theorem RepT.mono (s : Sub G H) : ∀ {v : List (List Key × V)} {d : List (D × D)}, RepT K G v d → RepT K H v d
  | _, _, .nil => .nil
  | _, _, .cons h t => .cons (Rep.mono s h) (RepT.mono s t)
end
theorem RepA.length : ∀ {v : List V} {d : List D}, RepA K G v d → v.length = d.length
  | _, _, .nil => rfl
  | _, _, .cons _ t => by simp [RepA.length t]
theorem RepK.length : ∀ {v : List (Key × V)} {d : List (D × D)}, RepK K G v d → v.length = d.length
  | _, _, .nil => rfl
  | _, _, .cons _ t => by simp [RepK.length t]
theorem RepT.length : ∀ {v : List (List Key × V)} {d : List (D × D)}, RepT K G v d → v.length = d.length
  | _, _, .nil => rfl
  | _, _, .cons _ t => by simp [RepT.length t]
theorem RepA.get : ∀ {v : List V} {d : List D} {i : Nat} {x : D}, RepA K G v d → d[i]? = some x → ∃ u, v[i]? = some u ∧ Rep K G u x
  | _, _, _, _, .nil, e => by simp at e
  | _, _, 0, _, .cons h _, e => by simp at e; subst e; exact ⟨_, rfl, h⟩
  | _, _, i + 1, x, .cons _ t, e => by
    obtain ⟨u, h1, h2⟩ := RepA.get (i := i) (x := x) t (by simpa using e)
    exact ⟨u, by simpa using h1, h2⟩
theorem RepA.get' : ∀ {v : List V} {d : List D} {i : Nat} {u : V}, RepA K G v d → v[i]? = some u → ∃ x, d[i]? = some x ∧ Rep K G u x
  | _, _, _, _, .nil, e => by simp at e
  | _, _, 0, _, .cons h _, e => by simp at e; subst e; exact ⟨_, rfl, h⟩
  | _, _, i + 1, x, .cons _ t, e => by
    obtain ⟨u, h1, h2⟩ := RepA.get' (i := i) (u := x) t (by simpa using e)
    exact ⟨u, by simpa using h1, h2⟩
theorem RepA.append : ∀ {v v' : List V} {d d' : List D}, RepA K G v d → RepA K G v' d' → RepA K G (v ++ v') (d ++ d')
  | _, _, _, _, .nil, s => s
  | _, _, _, _, .cons h t, s => .cons h (RepA.append t s)
theorem RepA.take : ∀ {v : List V} {d : List D} (n : Nat), RepA K G v d → RepA K G (v.take n) (d.take n)
  | _, _, 0, _ => by simpa using RepA.nil
  | _, _, _ + 1, .nil => by simpa using RepA.nil
  | _, _, n + 1, .cons h t => by simpa using RepA.cons h (RepA.take n t)
theorem RepA.drop : ∀ {v : List V} {d : List D} (n : Nat), RepA K G v d → RepA K G (v.drop n) (d.drop n)
  | _, _, 0, h => by simpa using h
  | _, _, _ + 1, .nil => by simpa using RepA.nil
  | _, _, n + 1, .cons _ t => by simpa using RepA.drop n t
theorem RepA.set {u : V} {x : D} (r : Rep K G u x) : ∀ {v : List V} {d : List D} (n : Nat), RepA K G v d → RepA K G (v.set n u) (d.set n x)
  | _, _, _, .nil => .nil
  | _, _, 0, .cons _ t => .cons r t
  | _, _, n + 1, .cons h t => .cons h (RepA.set r n t)
theorem RepA.reverse : ∀ {v : List V} {d : List D}, RepA K G v d → RepA K G v.reverse d.reverse
  | _, _, .nil => .nil
  | _, _, .cons h t => by
    rw [List.reverse_cons, List.reverse_cons]
    exact (RepA.reverse t).append (.cons h .nil)
theorem RepA.ofZip : ∀ {v : List V} {d : List D}, v.length = d.length → (∀ p ∈ v.zip d, Rep K G p.1 p.2) → RepA K G v d
  | [], [], _, _ => .nil
  | [], _ :: _, h, _ => by simp at h
  | _ :: _, [], h, _ => by simp at h
  | a :: v, b :: d, h, k => .cons (k (a, b) (by simp)) (RepA.ofZip (by simpa using h) fun p hp => k p (by simp [hp]))
end

/-! ### slots -/
inductive Sl where
  | no
  | val (d : D)
  | lst (xs : List D)
  | dK (es : List (D × D))
  | dT (es : List (D × D))
  | fd
abbrev Fd := Option (Bool × List D)
def Sl.own : Sl → Bool
  | .lst _ => true
  | .dK _ => true
  | .dT _ => true
  | _ => false
/-- an object that is one's own -/
def OwnO (K : Frag) (H G : Hp) (a : Addr) : Sl → Prop
  | .lst xs => ∃ vs, H a = some (.lst vs) ∧ RepA K G vs xs
  | .dK es => ∃ kvs, H a = some (.dK kvs) ∧ RepK K G kvs es
  | .dT es => ∃ kvs, H a = some (.dT kvs) ∧ RepT K G kvs es
  | _ => False
def SlOk (K : Frag) (fa : Option Addr) (H G : Hp) (s : Sl) (v : Option (Option V)) : Prop := match s with
  | .no => True
  | .val d => ∃ x, v = some (some x) ∧ Rep K G x d
  | .fd => ∃ a, fa = some a ∧ v = some (some (.ref a))
  | s => ∃ a, v = some (some (.ref a)) ∧ G a = none ∧ OwnO K H G a s
def OwnAt (σ : St) (sl : List Sl) (i : Nat) (a : Addr) : Prop := σ[i]? = some (some (.ref a)) ∧ ∃ s, sl[i]? = some s ∧ s.own = true
def FdOk (K : Frag) (fa : Option Addr) (H G : Hp) (fd : Fd) : Prop := ∀ p ds, fd = some (p, ds) → ∃ a vs, fa = some a ∧ H a = some (.lst vs) ∧ RepA K G vs ds
/-- every tuple stays -/
def TP (G H : Hp) : Prop := ∀ b xs, H b = some (.tup xs) → G b = some (.tup xs)
/-- the state of a def's slots -/
structure EN (K : Frag) (fa : Option Addr) (σ : St) (H G : Hp) (sl : List Sl) (fd : Fd) : Prop where
  len : sl.length ≤ σ.length
  gh : Sub G H
  slot : ∀ (i : Nat) s, sl[i]? = some s → SlOk K fa H G s (σ[i]?)
  dis : ∀ i j a, OwnAt σ sl i a → OwnAt σ sl j a → i = j
  fdis : ∀ a, fa = some a → G a = none ∧ (∃ o, H a = some o) ∧ ∀ i, ¬ OwnAt σ sl i a
  fdo : FdOk K fa H G fd
  tp : TP G H
/-- what an expression may do to the heap -/
structure Step (fa : Option Addr) (G H G' H' : Hp) : Prop where
  sub : Sub G G'
  keep : ∀ b o, H b = some o → fa ≠ some b → H' b = some o
  new : ∀ b o, G' b = some o → G b = some o ∨ H b = none
  fak : ∀ a o, fa = some a → H a = some o → ∃ o', H' a = some o'
  tp : TP G H → TP G' H'
theorem Step.refl {fa : Option Addr} {G H : Hp} : Step fa G H G H := ⟨Sub.refl, fun _ _ h _ => h, fun _ _ h => .inl h, fun _ o _ h => ⟨o, h⟩, id⟩
theorem Step.trans {fa : Option Addr} {G H G1 H1 G2 H2 : Hp} (x : Step fa G H G1 H1) (y : Step fa G1 H1 G2 H2) : Step fa G H G2 H2 where
  sub := x.sub.trans y.sub
  keep := fun b o h n => y.keep b o (x.keep b o h n) n
  new := fun b o h => by
    rcases y.new b o h with h1 | h1
    · exact x.new b o h1
    · refine .inr ?_
      cases q : H b with
      | none => rfl
      | some u =>
        by_cases n : fa = some b
        · obtain ⟨o', e⟩ := x.fak b u n q
          rw [h1] at e; cases e
        · have := x.keep b u q n
          rw [h1] at this; cases this
  fak := fun a o e h => by
    obtain ⟨o1, h1⟩ := x.fak a o e h
    exact y.fak a o1 e h1
  tp := fun h => y.tp (x.tp h)
section
variable {K : Frag} {fa : Option Addr} {σ : St} {G H G' H' : Hp} {sl : List Sl} {fd fd' : Fd}
theorem OwnO.mono {a : Addr} {s : Sl} (h : OwnO K H G a s) (sub : Sub G G') (k : ∀ o, H a = some o → H' a = some o) : OwnO K H' G' a s := by
  cases s with
  | lst xs => obtain ⟨vs, e, r⟩ := h; exact ⟨vs, k _ e, r.mono sub⟩
  | dK es => obtain ⟨vs, e, r⟩ := h; exact ⟨vs, k _ e, r.mono sub⟩
  | dT es => obtain ⟨vs, e, r⟩ := h; exact ⟨vs, k _ e, r.mono sub⟩
  | no => exact h
  | val d => exact h
  | fd => exact h
theorem OwnO.ex {a : Addr} {s : Sl} (h : OwnO K H G a s) : (∃ o, H a = some o) ∧ s.own = true := by
  cases s with
  | lst xs => obtain ⟨vs, e, r⟩ := h; exact ⟨⟨_, e⟩, rfl⟩
  | dK es => obtain ⟨vs, e, r⟩ := h; exact ⟨⟨_, e⟩, rfl⟩
  | dT es => obtain ⟨vs, e, r⟩ := h; exact ⟨⟨_, e⟩, rfl⟩
  | no => exact h.elim
  | val d => exact h.elim
  | fd => exact h.elim
theorem SlOk.ofOwn {s : Sl} {v : Option (Option V)} (h : s.own = true) : SlOk K fa H G s v ↔ ∃ a, v = some (some (.ref a)) ∧ G a = none ∧ OwnO K H G a s := by
  cases s <;> first | exact Iff.rfl | cases h
theorem EN.ownAt (E : EN K fa σ H G sl fd) {i : Nat} {a : Addr} (h : OwnAt σ sl i a) : ∃ s, sl[i]? = some s ∧ s.own = true ∧ G a = none ∧ OwnO K H G a s := by
  obtain ⟨e, s, hs, o⟩ := h
  have := E.slot i s hs
  rw [SlOk.ofOwn o] at this
  obtain ⟨b, e2, g, oo⟩ := this
  rw [e] at e2
  cases e2
  exact ⟨s, hs, o, g, oo⟩
/-- the heap has changed by an expression -/
theorem EN.step (E : EN K fa σ H G sl fd) (S : Step fa G H G' H') (gh : Sub G' H') (hf : FdOk K fa H' G' fd') : EN K fa σ H' G' sl fd' where
  len := E.len
  gh := gh
  slot := fun i s hs => by
    have h := E.slot i s hs
    cases s with
    | no => trivial
    | val d => obtain ⟨x, e, r⟩ := h; exact ⟨x, e, r.mono S.sub⟩
    | fd => exact h
    | lst xs =>
      obtain ⟨a, e, g, o⟩ := h
      have own : OwnAt σ sl i a := ⟨e, _, hs, rfl⟩
      have nf : fa ≠ some a := fun z => (E.fdis a z).2.2 i own
      refine ⟨a, e, ?_, o.mono S.sub fun u q => S.keep a u q nf⟩
      cases q : G' a with
      | none => rfl
      | some u =>
        obtain ⟨⟨w, hw⟩, _⟩ := o.ex
        rcases S.new a u q with z | z
        · rw [g] at z; cases z
        · rw [hw] at z; cases z
    | dK xs =>
      obtain ⟨a, e, g, o⟩ := h
      have own : OwnAt σ sl i a := ⟨e, _, hs, rfl⟩
      have nf : fa ≠ some a := fun z => (E.fdis a z).2.2 i own
      refine ⟨a, e, ?_, o.mono S.sub fun u q => S.keep a u q nf⟩
      cases q : G' a with
      | none => rfl
      | some u =>
        obtain ⟨⟨w, hw⟩, _⟩ := o.ex
        rcases S.new a u q with z | z
        · rw [g] at z; cases z
        · rw [hw] at z; cases z
    | dT xs =>
      obtain ⟨a, e, g, o⟩ := h
      have own : OwnAt σ sl i a := ⟨e, _, hs, rfl⟩
      have nf : fa ≠ some a := fun z => (E.fdis a z).2.2 i own
      refine ⟨a, e, ?_, o.mono S.sub fun u q => S.keep a u q nf⟩
      cases q : G' a with
      | none => rfl
      | some u =>
        obtain ⟨⟨w, hw⟩, _⟩ := o.ex
        rcases S.new a u q with z | z
        · rw [g] at z; cases z
        · rw [hw] at z; cases z
  dis := E.dis
  fdis := fun a e => by
    obtain ⟨g, ⟨o, ho⟩, n⟩ := E.fdis a e
    refine ⟨?_, S.fak a o e ho, n⟩
    cases q : G' a with
    | none => rfl
    | some u =>
      rcases S.new a u q with z | z
      · rw [g] at z; cases z
      · rw [ho] at z; cases z
  fdo := hf
  tp := S.tp E.tp
theorem FdOk.step (h : FdOk K fa H G fd) (S : Step fa G H G' H') (k : ∀ a, fa = some a → ∀ o, H a = some o → H' a = some o) : FdOk K fa H' G' fd := fun p ds e => by
  obtain ⟨a, vs, e1, e2, r⟩ := h p ds e
  exact ⟨a, vs, e1, k a e1 _ e2, r.mono S.sub⟩
/-- a new object that stays -/
theorem Step.frz {p : Addr} {o : HO} (gh : Sub G H) (hp : H p = none) : Step fa G H (upd G p o) (upd H p o) where
  sub := fun b u e => by
    by_cases q : b = p
    · subst q
      rw [gh _ _ e] at hp; cases hp
    · rw [upd_ne q]; exact e
  keep := fun b u e _ => by rw [upd_ne (ne_of_none e hp)]; exact e
  new := fun b u e => by
    by_cases q : b = p
    · subst q; exact .inr hp
    · rw [upd_ne q] at e; exact .inl e
  fak := fun a u _ e => ⟨u, by rw [upd_ne (ne_of_none e hp)]; exact e⟩
  tp := fun h b xs e => by
    by_cases q : b = p
    · subst q; rw [upd_same] at e ⊢; exact e
    · rw [upd_ne q] at e ⊢; exact h b xs e
/-- a new object that is one's own -/
theorem Step.own {p : Addr} {o : HO} (hp : H p = none) (ho : ∀ xs, o ≠ .tup xs := by intro _ h; cases h) : Step fa G H G (upd H p o) where
  sub := Sub.refl
  keep := fun b u e _ => by rw [upd_ne (ne_of_none e hp)]; exact e
  new := fun b u e => .inl e
  fak := fun a u _ e => ⟨u, by rw [upd_ne (ne_of_none e hp)]; exact e⟩
  tp := fun h b xs e => by
    by_cases q : b = p
    · subst q; rw [upd_same] at e; injection e with e; exact absurd e (ho xs)
    · rw [upd_ne q] at e; exact h b xs e
theorem Sub.frz {p : Addr} {o : HO} (gh : Sub G H) : Sub (upd G p o) (upd H p o) := fun b u e => by
  by_cases q : b = p
  · subst q; rw [upd_same] at e ⊢; exact e
  · rw [upd_ne q] at e ⊢; exact gh _ _ e
theorem Sub.own {p : Addr} {o : HO} (gh : Sub G H) (hp : H p = none) : Sub G (upd H p o) := fun b u e => by
  rw [upd_ne (ne_of_none (gh _ _ e) hp)]; exact gh _ _ e
/-- a fresh object frozen -/
theorem EN.frz (E : EN K fa σ H G sl fd) {p : Addr} {o : HO} (hp : H p = none) : EN K fa σ (upd H p o) (upd G p o) sl fd :=
  E.step (Step.frz E.gh hp) E.gh.frz (E.fdo.step (Step.frz E.gh hp) fun a _ u q => by rw [upd_ne (ne_of_none q hp)]; exact q)
theorem EN.owned (E : EN K fa σ H G sl fd) {p : Addr} {o : HO} (hp : H p = none) (ho : ∀ xs, o ≠ .tup xs := by intro _ h; cases h) : EN K fa σ (upd H p o) G sl fd :=
  E.step (Step.own hp ho) (E.gh.own hp) (E.fdo.step (Step.own hp ho) fun a _ u q => by rw [upd_ne (ne_of_none q hp)]; exact q)
end
end PD

/-! PD2: results of expressions, how they are shown, arguments. -/
namespace PD
open PySem PySem.Spec PyProof.Rows L2

/-! ### results -/
inductive R (α : Type) where
  | bad
  | ok (a : α) (fd : Fd)
  | exc (c : Str) (fd : Fd)
def R.bind {α β : Type} (r : R α) (k : α → Fd → R β) : R β := match r with
  | .bad => .bad
  | .ok a fd => k a fd
  | .exc c fd => .exc c fd
def R.opt {α : Type} (o : Option α) (fd : Fd) : R α := match o with
  | some a => .ok a fd
  | none => .bad
/-- the value that a result is, when it stays -/
def frz : Sl → Option D
  | .val d => some d
  | .lst xs => some (.list xs)
  | .dK es => some (.dict es)
  | .dT es => some (.dict ((.bool true, .none) :: es))
  | _ => none
def R.frz (r : R Sl) : R D := r.bind fun s fd => R.opt (PD.frz s) fd

/-! ### readings of data -/
section
variable {K : Frag} {H H' G G' : Hp}
/-- v is to be read as d: it stays, or it is one's own -/
def CRep (K : Frag) (H G : Hp) (v : V) (d : D) : Prop := Rep K G v d ∨ ∃ a s, v = .ref a ∧ OwnO K H G a s ∧ frz s = some d
theorem CRep.of {v : V} {d : D} (h : Rep K G v d) : CRep K H G v d := .inl h
theorem CRep.list {v : V} {ds : List D} (s : Sub G H) (h : CRep K H G v (.list ds)) : ∃ a vs, v = .ref a ∧ H a = some (.lst vs) ∧ RepA K G vs ds := by
  rcases h with h | ⟨a, s', rfl, o, e⟩
  · cases h with
    | lst h t => exact ⟨_, _, rfl, s _ _ h, t⟩
  · cases s' with
    | lst xs =>
      have e' : xs = ds := by injection e with e; injection e
      subst e'
      obtain ⟨vs, q, r⟩ := o
      exact ⟨a, vs, rfl, q, r⟩
    | dK es => injection e with e; cases e
    | dT es => injection e with e; cases e
    | _ => exact o.elim
theorem CRep.tup {v : V} {ds : List D} (h : CRep K H G v (.tuple ds)) : ∃ a vs, v = .ref a ∧ G a = some (.tup vs) ∧ RepA K G vs ds := by
  rcases h with h | ⟨a, s', rfl, o, e⟩
  · cases h with
    | tup h t => exact ⟨_, _, rfl, h, t⟩
  · cases s' with
    | lst xs => injection e with e; cases e
    | dK es => injection e with e; cases e
    | dT es => injection e with e; cases e
    | _ => exact o.elim
theorem CRep.int {v : V} {i : Int} (h : CRep K H G v (.int i)) : v = .int i := by
  rcases h with h | ⟨a, s', rfl, o, e⟩
  · cases h; rfl
  · cases s' <;> first | exact o.elim | (injection e with e; cases e)
theorem CRep.bl {v : V} {i : Bool} (h : CRep K H G v (.bool i)) : v = .bl i := by
  rcases h with h | ⟨a, s', rfl, o, e⟩
  · cases h; rfl
  · cases s' <;> first | exact o.elim | (injection e with e; cases e)
theorem CRep.str {v : V} {i : Str} (h : CRep K H G v (.str i)) : v = .str i := by
  rcases h with h | ⟨a, s', rfl, o, e⟩
  · cases h; rfl
  · cases s' <;> first | exact o.elim | (injection e with e; cases e)
theorem CRep.non {v : V} (h : CRep K H G v .none) : v = .non := by
  rcases h with h | ⟨a, s', rfl, o, e⟩
  · cases h; rfl
  · cases s' <;> first | exact o.elim | (injection e with e; cases e)
theorem CRep.inH {v : V} {d : D} (s : Sub G H) (h : CRep K H G v d) : Rep K H v d := by
  rcases h with h | ⟨a, s', rfl, o, e⟩
  · exact h.mono s
  · cases s' with
    | lst xs =>
      injection e with e; subst e
      obtain ⟨vs, q, r⟩ := o
      exact .lst q (r.mono s)
    | dK xs =>
      injection e with e; subst e
      obtain ⟨vs, q, r⟩ := o
      exact .dK q (r.mono s)
    | dT xs =>
      injection e with e; subst e
      obtain ⟨vs, q, r⟩ := o
      exact .dT q (r.mono s)
    | _ => exact o.elim
end

/-- a result: it stays, or it is new and one's own -/
def ResOk (K : Frag) (Hp0 H G : Hp) (v : V) (s : Sl) : Prop := match s with
  | .val d => Rep K G v d
  | s => ∃ a, v = .ref a ∧ Hp0 a = none ∧ G a = none ∧ OwnO K H G a s
def RepR (K : Frag) (_ _ G : Hp) (v : V) (d : D) : Prop := Rep K G v d
def RepAR (K : Frag) (_ _ G : Hp) (v : List V) (d : List D) : Prop := RepA K G v d
def SameR {α : Type} (_ _ _ : Hp) (v d : α) : Prop := v = d

section
variable (X : Cx) (W : WX)
def excV (mg : Str → Option Value) (c : Str) : Value := (mg c).getD .none
/-- what must follow from a result -/
def Post {α β : Type} (fa : Option Addr) (σ : St) (H G : Hp) (sl : List Sl) (r : R α) (rel : Hp → Hp → Hp → β → α → Prop) (Q : β → Hp → Prop) : Prop := match r with
  | .bad => False
  | .ok a fd' => ∀ v H' G', EN X.K fa σ H' G' sl fd' → Step fa G H G' H' → rel H H' G' v a → Q v H'
  | .exc c fd' => ∀ dx H' G', EN X.K fa σ H' G' sl fd' → Step fa G H G' H' → W (excV X.mg c) dx σ H'
structure SndE (e : Expr) (f : List Sl → Fd → R D) : Prop where
  ex : ∃ t, PE X e t ∧ ∀ fa σ H G sl fd Q, EN X.K fa σ H G sl fd → Post X W fa σ H G sl (f sl fd) (RepR X.K) Q → t σ H Q
structure SndR (e : Expr) (f : List Sl → Fd → R Sl) : Prop where
  ex : ∃ t, PE X e t ∧ ∀ fa σ H G sl fd Q, EN X.K fa σ H G sl fd → Post X W fa σ H G sl (f sl fd) (ResOk X.K) Q → t σ H Q
structure SndT (e : Expr) (f : List Sl → Fd → R Bool) : Prop where
  ex : ∃ t, PT X e t ∧ ∀ fa σ H G sl fd Q, EN X.K fa σ H G sl fd → Post X W fa σ H G sl (f sl fd) SameR Q → t σ H Q
structure SndA (es : List Expr) (f : List Sl → Fd → R (List D)) : Prop where
  ex : ∃ t, PA X es t ∧ ∀ fa σ H G sl fd Q, EN X.K fa σ H G sl fd → Post X W fa σ H G sl (f sl fd) (RepAR X.K) Q → t σ H Q
end

section
variable {X : Cx} {W : WX}
theorem Post.bind {α β γ δ : Type} {fa : Option Addr} {σ : St} {H G : Hp} {sl : List Sl} {r : R α} {k : α → Fd → R γ} {rel : Hp → Hp → Hp → β → α → Prop} {rel2 : Hp → Hp → Hp → δ → γ → Prop} {Q : δ → Hp → Prop} {Q1 : β → Hp → Prop}
    (h : Post X W fa σ H G sl (r.bind k) rel2 Q)
    (mono : ∀ H1 H2 G2 v a, (∀ b, H1 b = none → H b = none) → rel2 H1 H2 G2 v a → rel2 H H2 G2 v a)
    (h2 : ∀ a fd1 v H1 G1, EN X.K fa σ H1 G1 sl fd1 → Step fa G H G1 H1 → rel H H1 G1 v a → Post X W fa σ H1 G1 sl (k a fd1) rel2 Q → Q1 v H1) : Post X W fa σ H G sl r rel Q1 := by
  cases r with
  | bad => exact h
  | exc c fd => exact h
  | ok a fd =>
    intro v H1 G1 E1 S1 r1
    refine h2 a fd v H1 G1 E1 S1 r1 ?_
    have hk : Post X W fa σ H G sl (k a fd) rel2 Q := h
    cases q : k a fd with
    | bad => rw [q] at hk; exact hk
    | exc c fd2 => rw [q] at hk; exact fun dx H2 G2 E2 S2 => hk dx H2 G2 E2 (S1.trans S2)
    | ok b fd2 =>
      rw [q] at hk
      refine fun w H2 G2 E2 S2 r2 => hk w H2 G2 E2 (S1.trans S2) (mono H1 H2 G2 w b (fun c hc => ?_) r2)
      cases z : H c with
      | none => rfl
      | some o =>
        by_cases n : fa = some c
        · obtain ⟨o', e⟩ := S1.fak c o n z
          rw [hc] at e; cases e
        · have := S1.keep c o z n
          rw [hc] at this; cases this
theorem ResOk.mono {K : Frag} {H H1 H2 G2 : Hp} {v : V} {s : Sl} (k : ∀ b, H1 b = none → H b = none) (h : ResOk K H1 H2 G2 v s) : ResOk K H H2 G2 v s := by
  cases s with
  | val d => exact h
  | no => obtain ⟨a, e, n, r⟩ := h; exact ⟨a, e, k a n, r⟩
  | fd => obtain ⟨a, e, n, r⟩ := h; exact ⟨a, e, k a n, r⟩
  | lst xs => obtain ⟨a, e, n, r⟩ := h; exact ⟨a, e, k a n, r⟩
  | dK xs => obtain ⟨a, e, n, r⟩ := h; exact ⟨a, e, k a n, r⟩
  | dT xs => obtain ⟨a, e, n, r⟩ := h; exact ⟨a, e, k a n, r⟩
theorem Post.bindE {α β : Type} {fa : Option Addr} {σ : St} {H G : Hp} {sl : List Sl} {r : R α} {k : α → Fd → R D} {rel : Hp → Hp → Hp → β → α → Prop} {Q : V → Hp → Prop} {Q1 : β → Hp → Prop}
    (h : Post X W fa σ H G sl (r.bind k) (RepR X.K) Q)
    (h2 : ∀ a fd1 v H1 G1, EN X.K fa σ H1 G1 sl fd1 → Step fa G H G1 H1 → rel H H1 G1 v a → Post X W fa σ H1 G1 sl (k a fd1) (RepR X.K) Q → Q1 v H1) : Post X W fa σ H G sl r rel Q1 :=
  Post.bind h (fun _ _ _ _ _ _ r => r) h2
theorem Post.bindR {α β : Type} {fa : Option Addr} {σ : St} {H G : Hp} {sl : List Sl} {r : R α} {k : α → Fd → R Sl} {rel : Hp → Hp → Hp → β → α → Prop} {Q : V → Hp → Prop} {Q1 : β → Hp → Prop}
    (h : Post X W fa σ H G sl (r.bind k) (ResOk X.K) Q)
    (h2 : ∀ a fd1 v H1 G1, EN X.K fa σ H1 G1 sl fd1 → Step fa G H G1 H1 → rel H H1 G1 v a → Post X W fa σ H1 G1 sl (k a fd1) (ResOk X.K) Q → Q1 v H1) : Post X W fa σ H G sl r rel Q1 :=
  Post.bind h (fun _ _ _ _ _ k r => r.mono k) h2
theorem Post.opt {α β : Type} {fa : Option Addr} {σ : St} {H G : Hp} {sl : List Sl} {o : Option α} {fd : Fd} {rel : Hp → Hp → Hp → β → α → Prop} {Q : β → Hp → Prop} (h : Post X W fa σ H G sl (R.opt o fd) rel Q) :
    ∃ a, o = some a ∧ ∀ v H' G', EN X.K fa σ H' G' sl fd → Step fa G H G' H' → rel H H' G' v a → Q v H' := by
  cases o with
  | none => exact h.elim
  | some a => exact ⟨a, rfl, h⟩
/-- freezing -/
theorem OwnO.frz {K : Frag} {H G : Hp} {a : Addr} {s : Sl} {d : D} (h : OwnO K H G a s) (gh : Sub G H) (ga : G a = none) (e : frz s = some d) : ∃ o, H a = some o ∧ Rep K (upd G a o) (.ref a) d := by
  have sub : ∀ o, Sub G (upd G a o) := fun o b u q => by rw [upd_ne (ne_of_none q ga)]; exact q
  cases s with
  | lst xs =>
    injection e with e; subst e
    obtain ⟨vs, q, r⟩ := h
    exact ⟨_, q, .lst upd_same (r.mono (sub _))⟩
  | dK xs =>
    injection e with e; subst e
    obtain ⟨vs, q, r⟩ := h
    exact ⟨_, q, .dK upd_same (r.mono (sub _))⟩
  | dT xs =>
    injection e with e; subst e
    obtain ⟨vs, q, r⟩ := h
    exact ⟨_, q, .dT upd_same (r.mono (sub _))⟩
  | _ => exact h.elim
theorem Step.fz {fa : Option Addr} {G H G1 H1 : Hp} {a : Addr} {o : HO} (S : Step fa G H G1 H1) (ga : G1 a = none) (ha : H a = none) (h1 : H1 a = some o) : Step fa G H (upd G1 a o) H1 where
  sub := fun b u q => by
    have := S.sub b u q
    rw [upd_ne (ne_of_none this ga)]; exact this
  keep := S.keep
  new := fun b u q => by
    by_cases z : b = a
    · subst z; exact .inr ha
    · rw [upd_ne z] at q; exact S.new b u q
  fak := S.fak
  tp := fun h b xs e => by
    have q := S.tp h b xs e
    rw [upd_ne (ne_of_none q ga)]; exact q
theorem Sub.fz {G H : Hp} {a : Addr} {o : HO} (s : Sub G H) (h1 : H a = some o) : Sub (upd G a o) H := fun b u q => by
  by_cases z : b = a
  · subst z; rw [upd_same] at q; cases q; exact h1
  · rw [upd_ne z] at q; exact s b u q
theorem Post.frz {fa : Option Addr} {σ : St} {H G : Hp} {sl : List Sl} {fd : Fd} {r : R Sl} {Q : V → Hp → Prop} (E : EN X.K fa σ H G sl fd) (h : Post X W fa σ H G sl r.frz (RepR X.K) Q) : Post X W fa σ H G sl r (ResOk X.K) Q := by
  cases r with
  | bad => exact h
  | exc c fd => exact h
  | ok s fd' =>
    obtain ⟨d, hd, h⟩ := Post.opt (show Post X W fa σ H G sl (R.opt (PD.frz s) fd') (RepR X.K) Q from h)
    intro v H1 G1 E1 S1 r1
    have own : ∀ s, PD.frz s = some d → (∃ a, v = .ref a ∧ H a = none ∧ G1 a = none ∧ OwnO X.K H1 G1 a s) → Q v H1 := fun s hd r1 => by
      obtain ⟨a, rfl, ha, ga, o⟩ := r1
      obtain ⟨u, hu, r⟩ := o.frz E1.gh ga hd
      have S2 := S1.fz ga ha hu
      have sub : Sub G1 (upd G1 a u) := fun b w q => by rw [upd_ne (ne_of_none q ga)]; exact q
      refine h _ H1 (upd G1 a u) (E.step S2 (E1.gh.fz hu) fun p ds e => ?_) S2 r
      obtain ⟨b, vs, e1, e2, e3⟩ := E1.fdo p ds e
      exact ⟨b, vs, e1, e2, e3.mono sub⟩
    cases s with
    | val d' => injection hd with hd; subst hd; exact h v H1 G1 E1 S1 r1
    | no => exact own _ hd r1
    | fd => exact own _ hd r1
    | lst xs => exact own _ hd r1
    | dK xs => exact own _ hd r1
    | dT xs => exact own _ hd r1
theorem SndR.snd {e : Expr} {f : List Sl → Fd → R Sl} (h : SndR X W e f) : SndE X W e fun sl fd => (f sl fd).frz := by
  obtain ⟨t, p, q⟩ := h.ex
  exact ⟨t, p, fun fa σ H G sl fd Q E k => q fa σ H G sl fd Q E (Post.frz E k)⟩
theorem SndE.res {e : Expr} {f : List Sl → Fd → R D} (h : SndE X W e f) : SndR X W e fun sl fd => (f sl fd).bind fun d fd => .ok (.val d) fd := by
  obtain ⟨t, p, q⟩ := h.ex
  refine ⟨t, p, fun fa σ H G sl fd Q E k => q fa σ H G sl fd Q E ?_⟩
  revert k
  cases f sl fd with
  | bad => exact fun k => k
  | ok d fd => exact fun k => k
  | exc c fd => exact fun k => k

/-! ### operands that are looked at -/
inductive Pk where
  | sl (i : Nat)
  | dt (d : D)
def lookP (sl : List Sl) (fd : Fd) : Pk → Option D
  | .dt d => some d
  | .sl i => match sl[i]? with
    | some .fd => fd.map fun p => .list p.2
    | some s => frz s
    | none => none
def PkOk (K : Frag) (σ : St) (G : Hp) (v : V) : Pk → Prop
  | .dt d => Rep K G v d
  | .sl i => σ[i]? = some (some v)
def PkR (K : Frag) (σ : St) (_ _ G : Hp) (v : V) (p : Pk) : Prop := PkOk K σ G v p
structure SndP (X : Cx) (W : WX) (e : Expr) (f : List Sl → Fd → R Pk) : Prop where
  ex : ∃ t, PE X e t ∧ ∀ fa σ H G sl fd Q, EN X.K fa σ H G sl fd → Post X W fa σ H G sl (f sl fd) (PkR X.K σ) Q → t σ H Q
theorem SndE.pk {e : Expr} {f : List Sl → Fd → R D} (h : SndE X W e f) : SndP X W e fun sl fd => (f sl fd).bind fun d fd => .ok (.dt d) fd := by
  obtain ⟨t, p, q⟩ := h.ex
  refine ⟨t, p, fun fa σ H G sl fd Q E k => q fa σ H G sl fd Q E ?_⟩
  revert k
  cases f sl fd with
  | bad => exact fun k => k
  | ok d fd => exact fun k => k
  | exc c fd => exact fun k => k
theorem look_ok {K : Frag} {fa : Option Addr} {σ : St} {H G : Hp} {sl : List Sl} {fd : Fd} {v : V} {p : Pk} {d : D} (E : EN K fa σ H G sl fd) (h : PkOk K σ G v p) (e : lookP sl fd p = some d) : CRep K H G v d := by
  cases p with
  | dt d' => injection e with e; subst e; exact .inl h
  | sl i =>
    have h : σ[i]? = some (some v) := h
    unfold lookP at e
    cases q : sl[i]? with
    | none => simp only [q] at e; cases e
    | some s =>
      have so := E.slot i s q
      rw [h] at so
      simp only [q] at e
      cases s with
      | no => cases e
      | val d' =>
        injection e with e; subst e
        obtain ⟨x, e, r⟩ := so
        injection e with e; injection e with e; subst e
        exact .inl r
      | fd =>
        obtain ⟨a, e1, e2⟩ := so
        injection e2 with e2; injection e2 with e2; subst e2
        cases fd with
        | none => cases e
        | some w =>
          obtain ⟨b, vs, e3, e4, r⟩ := E.fdo w.1 w.2 rfl
          rw [e1] at e3; cases e3
          injection e with e; subst e
          exact .inr ⟨a, .lst w.2, rfl, ⟨vs, e4, r⟩, rfl⟩
      | lst xs =>
        obtain ⟨a, e1, g, o⟩ := so
        injection e1 with e1; injection e1 with e1; subst e1
        exact .inr ⟨a, _, rfl, o, e⟩
      | dK xs =>
        obtain ⟨a, e1, g, o⟩ := so
        injection e1 with e1; injection e1 with e1; subst e1
        exact .inr ⟨a, _, rfl, o, e⟩
      | dT xs =>
        obtain ⟨a, e1, g, o⟩ := so
        injection e1 with e1; injection e1 with e1; subst e1
        exact .inr ⟨a, _, rfl, o, e⟩
theorem PkOk.step {K : Frag} {σ : St} {G G' : Hp} {v : V} {p : Pk} (h : PkOk K σ G v p) (s : Sub G G') : PkOk K σ G' v p := by
  cases p with
  | dt d => exact Rep.mono s h
  | sl i => exact h
/-- a name that is looked at -/
theorem snd_pvar {i : Nat} {x : Str} {pos : Pos} (hN : X.N[i]? = some x) (hv : Vis X.env.scope x) (hd : (x == ("__debug__" : Str)) = false) (hcd : (x == ("__classdict__" : Str)) = false) :
    SndP X W (.Name x pos) fun sl fd => match sl[i]? with
      | some .no => .bad
      | some _ => .ok (.sl i) fd
      | none => .bad := by
  refine ⟨tVar i, pe_var hN hv hd hcd, fun fa σ H G sl fd Q E k => ?_⟩
  cases q : sl[i]? with
  | none => simp only [q] at k; exact k.elim
  | some s =>
    simp only [q] at k
    have so := E.slot i s q
    have key : ∀ v, σ[i]? = some (some v) → Post X W fa σ H G sl (.ok (Pk.sl i) fd) (PkR X.K σ) Q → tVar i σ H Q := fun v e k => ⟨v, e, k v H G E Step.refl e⟩
    cases s with
    | no => exact k.elim
    | val d => obtain ⟨x, e, _⟩ := so; exact key _ e k
    | fd => obtain ⟨a, _, e⟩ := so; exact key _ e k
    | lst xs => obtain ⟨a, e, _⟩ := so; exact key _ e k
    | dK xs => obtain ⟨a, e, _⟩ := so; exact key _ e k
    | dT xs => obtain ⟨a, e, _⟩ := so; exact key _ e k
theorem snd_var {i : Nat} {x : Str} {pos : Pos} (hN : X.N[i]? = some x) (hv : Vis X.env.scope x) (hd : (x == ("__debug__" : Str)) = false) (hcd : (x == ("__classdict__" : Str)) = false) :
    SndE X W (.Name x pos) fun sl fd => match sl[i]? with
      | some (.val d) => .ok d fd
      | _ => .bad := by
  refine ⟨tVar i, pe_var hN hv hd hcd, fun fa σ H G sl fd Q E k => ?_⟩
  cases q : sl[i]? with
  | none => simp only [q] at k; exact k.elim
  | some s =>
    simp only [q] at k
    have so := E.slot i s q
    cases s with
    | val d => obtain ⟨x, e, r⟩ := so; exact ⟨x, e, k x H G E Step.refl r⟩
    | _ => exact k.elim
theorem snd_const {e : Expr} {v : V} {d : D} (h : PE X e (tC v)) (r : ∀ G, Rep X.K G v d) : SndE X W e fun _ fd => .ok d fd :=
  ⟨tC v, h, fun fa σ H G sl fd Q E k => k v H G E Step.refl (r G)⟩

/-! ### one and two operands -/
/-- an operation's outcome, by values: the result s -/
def Out (K : Frag) (H G : Hp) (s : Sl) (Q : VK) : Prop := ∀ v H' G', Sub G G' → Sub G' H' → (∀ b o, H b = some o → H' b = some o) → (∀ b o, G' b = some o → G b = some o ∨ H b = none) → (TP G H → TP G' H') → ResOk K H H' G' v s → Q v H'
theorem Out.val {K : Frag} {H G : Hp} {d : D} {Q : VK} (k : Out K H G (.val d) Q) (gh : Sub G H) {v : V} (r : Rep K G v d) : Q v H := k v H G Sub.refl gh (fun _ _ h => h) (fun _ _ h => .inl h) id r
theorem Out.newT {K : Frag} {H G : Hp} {ds : List D} {Q : VK} (k : Out K H G (.val (.tuple ds)) Q) (gh : Sub G H) {vs : List V} (r : RepA K G vs ds) (p : Addr) (hp : H p = none) : Q (.ref p) (upd H p (.tup vs)) := by
  have S := Step.frz (fa := none) (o := HO.tup vs) gh hp
  exact k _ _ _ S.sub gh.frz (fun b o e => S.keep b o e (by simp)) S.new S.tp (Rep.tup upd_same (r.mono S.sub))
theorem Out.newL {K : Frag} {H G : Hp} {ds : List D} {Q : VK} (k : Out K H G (.lst ds) Q) (gh : Sub G H) {vs : List V} (r : RepA K G vs ds) (p : Addr) (hp : H p = none) : Q (.ref p) (upd H p (.lst vs)) := by
  have S := Step.own (fa := none) (G := G) (o := HO.lst vs) hp
  refine k _ _ _ Sub.refl (gh.own hp) (fun b o e => S.keep b o e (by simp)) S.new S.tp ⟨p, rfl, hp, ?_, ⟨vs, upd_same, r⟩⟩
  cases q : G p with
  | none => rfl
  | some u => rw [gh _ _ q] at hp; cases hp
theorem Out.post {fa : Option Addr} {σ : St} {H G : Hp} {sl : List Sl} {fd : Fd} {s : Sl} {Q : VK} (E : EN X.K fa σ H G sl fd) (h : Post X W fa σ H G sl (.ok s fd) (ResOk X.K) Q) : Out X.K H G s Q := by
  intro v H' G' s1 s2 s3 s4 s5 r
  have S : Step fa G H G' H' := ⟨s1, fun b o e _ => s3 b o e, s4, fun a o _ e => ⟨o, s3 a o e⟩, s5⟩
  exact h v H' G' (E.step S s2 (E.fdo.step S fun a _ o e => s3 a o e)) S r
/-- two operands -/
theorem snd_op {a b : Expr} {fa' fb : List Sl → Fd → R Pk} {e : Expr} {r : R2} {g : D → D → Option Sl}
    (mk : ∀ ta tb, PE X a ta → PE X b tb → PE X e (tOp r ta tb)) (ha : SndP X W a fa') (hb : SndP X W b fb)
    (hg : ∀ H G x y dx dy s Q, Sub G H → CRep X.K H G x dx → CRep X.K H G y dy → g dx dy = some s → Out X.K H G s Q → r x y H Q) :
    SndR X W e fun sl fd => (fa' sl fd).bind fun p fd1 => (fb sl fd1).bind fun q fd2 => match lookP sl fd2 p, lookP sl fd2 q with
      | some dx, some dy => R.opt (g dx dy) fd2
      | _, _ => .bad := by
  obtain ⟨ta, pa, qa⟩ := ha.ex
  obtain ⟨tb, pb, qb⟩ := hb.ex
  refine ⟨_, mk ta tb pa pb, fun fa σ H G sl fd Q E k => ?_⟩
  refine qa fa σ H G sl fd _ E (Post.bindR k fun p fd1 x H1 G1 E1 S1 r1 k1 => ?_)
  refine qb fa σ H1 G1 sl fd1 _ E1 (Post.bindR k1 fun q fd2 y H2 G2 E2 S2 r2 k2 => ?_)
  cases h1 : lookP sl fd2 p with
  | none => simp only [h1] at k2; exact k2.elim
  | some dx =>
    cases h2 : lookP sl fd2 q with
    | none => simp only [h1, h2] at k2; exact k2.elim
    | some dy =>
      simp only [h1, h2] at k2
      cases hs : g dx dy with
      | none => rw [hs] at k2; exact k2.elim
      | some s =>
        rw [hs] at k2
        exact hg H2 G2 x y dx dy s Q E2.gh (look_ok E2 (r1.step S2.sub) h1) (look_ok E2 r2 h2) hs (Out.post E2 k2)
end
end PD

/-! PD3: operators, comparisons, by data. -/
namespace PD
open PySem PySem.Spec PyProof.Rows L2

/-! ### data as the library's rules want it -/
section
variable {K : Frag} {H : Hp}
mutual
theorem Rep.dp : ∀ {v : V} {d : D}, Rep K H v d → d.canLay0 = true → Dp K H v d
  | _, _, .non, _ => .non
  | _, _, .bl b, _ => .bl b
  | _, _, .int i, _ => .int i
  | _, _, .str x, _ => .str x
  | _, _, .lst h t, c => .lst (.of h) (RepA.dp t (by simpa [PyData.canLay0] using c))
  | _, _, .tup h t, c => .tup (.of h) (RepA.dp t (by simpa [PyData.canLay0] using c))
  | _, _, .dK _ _, c => by simp [PyData.canLay0] at c
  | _, _, .dT _ _, c => by simp [PyData.canLay0] at c
  | _, _, .scr _, c => by simp [scrD, PyData.canLay0] at c
theorem RepA.dp : ∀ {v : List V} {d : List D}, RepA K H v d → PyData.canLayAll0 d = true → DpAll K H v d
  | _, _, .nil, _ => .nil
  | _, _, .cons h t, c => by
    simp only [PyData.canLayAll0, Bool.and_eq_true] at c
    exact .cons (Rep.dp h c.1) (RepA.dp t c.2)
end
mutual
theorem Rep.dpA : ∀ {v : V} {d : D}, Rep K H v d → W.alike d d = true → Dp K H v d
  | _, _, .non, _ => .non
  | _, _, .bl b, _ => .bl b
  | _, _, .int i, _ => .int i
  | _, _, .str x, _ => .str x
  | _, _, .lst h t, c => .lst (.of h) (RepA.dpA t (by simpa [W.alike] using c))
  | _, _, .tup h t, c => .tup (.of h) (RepA.dpA t (by simpa [W.alike] using c))
  | _, _, .dK _ _, c => by simp [W.alike] at c
  | _, _, .dT _ _, c => by simp [W.alike] at c
  | _, _, .scr _, c => by simp [scrD, W.alike] at c
theorem RepA.dpA : ∀ {v : List V} {d : List D}, RepA K H v d → W.alikeAll d d = true → DpAll K H v d
  | _, _, .nil, _ => .nil
  | _, _, .cons h t, c => by
    simp only [W.alikeAll, Bool.and_eq_true] at c
    exact .cons (Rep.dpA h c.1) (RepA.dpA t c.2)
end
theorem Rep.list {v : V} {ds : List D} (h : Rep K H v (.list ds)) : ∃ a vs, v = .ref a ∧ H a = some (.lst vs) ∧ RepA K H vs ds := by
  cases h with
  | lst h t => exact ⟨_, _, rfl, h, t⟩
theorem Rep.tuple {v : V} {ds : List D} (h : Rep K H v (.tuple ds)) : ∃ a vs, v = .ref a ∧ H a = some (.tup vs) ∧ RepA K H vs ds := by
  cases h with
  | tup h t => exact ⟨_, _, rfl, h, t⟩
end

section
variable {X : Cx}
/-! ### + -/
def addD : D → D → Option Sl
  | .int i, .int j => some (.val (.int (i + j)))
  | .str s, .str t => if s.length + t.length ≤ sizeLine then some (.val (.str (s ++ t))) else none
  | .list xs, .list ys => if xs.length + ys.length ≤ sizeLine then some (.lst (xs ++ ys)) else none
  | .tuple xs, .tuple ys => if xs.length + ys.length ≤ sizeLine then some (.val (.tuple (xs ++ ys))) else none
  | _, _ => none
def rAddD (K : Frag) : R2 := fun x y H Q => (rI0 (fun i j => .int (i + j)) x y H Q) ∨ ((∃ i j, x = .str i ∧ y = .str j ∧ i.length + j.length ≤ sizeLine ∧ Q (.str (i ++ j)) H) ∨ (rCatA K x y H Q ∨ rCat x y H Q))
theorem op_addD : OpR X (binaryOp .Add) (rAddD X.K) := op_add.or (op_add_str.or (op_catA.or op_cat))
theorem hg_add (H G : Hp) (x y : V) (dx dy : D) (s : Sl) (Q : VK) (gh : Sub G H) (hx : CRep X.K H G x dx) (hy : CRep X.K H G y dy) (e : addD dx dy = some s) (k : Out X.K H G s Q) : rAddD X.K x y H Q := by
  unfold addD at e
  split at e
  · injection e with e; subst e
    exact .inl ⟨_, _, hx.int, hy.int, k.val gh (.int _)⟩
  · split at e
    · injection e with e; subst e
      exact .inr (.inl ⟨_, _, hx.str, hy.str, by assumption, k.val gh (.str _)⟩)
    · cases e
  · split at e
    · rename_i hz
      injection e with e; subst e
      obtain ⟨a, vs, rfl, ha, r1⟩ := hx.list gh
      obtain ⟨b, ws, rfl, hb, r2⟩ := hy.list gh
      exact .inr (.inr (.inr ⟨a, b, vs, ws, rfl, rfl, ha, hb, by rw [r1.length, r2.length]; exact hz, fun p hp => k.newL gh (r1.append r2) p hp⟩))
    · cases e
  · split at e
    · rename_i hz
      injection e with e; subst e
      obtain ⟨a, vs, rfl, ha, r1⟩ := hx.tup
      obtain ⟨b, ws, rfl, hb, r2⟩ := hy.tup
      refine .inr (.inr (.inl ⟨a, b, vs, ws, rfl, rfl, .of (gh _ _ ha), .of (gh _ _ hb), by rw [r1.length, r2.length]; exact hz, fun z => ?_, fun _ z => ?_, fun _ _ p hp => k.newT gh (r1.append r2) p hp⟩))
      · subst z
        cases r1
        exact k.val gh (.tup hb r2)
      · subst z
        cases r2
        simp only [List.append_nil] at k
        exact k.val gh (.tup ha r1)
    · cases e
  · cases e
def subD : D → D → Option Sl
  | .int i, .int j => some (.val (.int (i - j)))
  | _, _ => none
theorem hg_sub (H G : Hp) (x y : V) (dx dy : D) (s : Sl) (Q : VK) (gh : Sub G H) (hx : CRep X.K H G x dx) (hy : CRep X.K H G y dy) (e : subD dx dy = some s) (k : Out X.K H G s Q) : rI0 (fun i j => .int (i - j)) x y H Q := by
  unfold subD at e
  split at e
  · injection e with e; subst e
    exact ⟨_, _, hx.int, hy.int, k.val gh (.int _)⟩
  · cases e
/-- a bound that products and quotients stay below -/
def mulOk (i j : Int) : Bool := decide (i.natAbs.log2 + j.natAbs.log2 < 1000000)
def divOk (j : Int) : Bool := decide (0 < j) && decide (j.natAbs.log2 < 9000)
def powOk (i j : Int) : Bool := decide (0 ≤ j) && decide (j ≤ 1000000) && decide (i.natAbs < 18446744073709551616)
def mulD : D → D → Option Sl
  | .int i, .int j => if (decide (i.natAbs < 18446744073709551616) || decide (j.natAbs < 18446744073709551616) || mulOk i j) = true then some (.val (.int (i * j))) else none
  | .list xs, .int k => if k < 1000000 ∧ -1000000 < k ∧ xs.length * k.toNat ≤ sizeLine then some (.lst (List.replicate k.toNat xs).flatten) else none
  | _, _ => none
def rMulD : R2 := fun x y H Q => rI CMul (fun i j => .int (i * j)) x y H Q ∨ (rI CMulW (fun i j => .int (i * j)) x y H Q ∨ rRep x y H Q)
theorem op_mulD : OpR X (binaryOp .Mult) rMulD := op_mul.or (op_mulW.or op_rep)
theorem RepA.rep {K : Frag} {G : Hp} {v : List V} {d : List D} (r : RepA K G v d) : ∀ n : Nat, RepA K G (List.replicate n v).flatten (List.replicate n d).flatten
  | 0 => by simpa using RepA.nil
  | n + 1 => by
    rw [List.replicate_succ, List.replicate_succ, List.flatten_cons, List.flatten_cons]
    exact r.append (RepA.rep r n)
theorem small_of {i : Int} (h : i.natAbs < 18446744073709551616) : -(2 ^ 64) < i ∧ i < 2 ^ 64 := by
  have e : (2 : Int) ^ 64 = 18446744073709551616 := by decide
  rw [e]; omega
theorem hg_mul (H G : Hp) (x y : V) (dx dy : D) (s : Sl) (Q : VK) (gh : Sub G H) (hx : CRep X.K H G x dx) (hy : CRep X.K H G y dy) (e : mulD dx dy = some s) (k : Out X.K H G s Q) : rMulD x y H Q := by
  unfold mulD at e
  split at e
  · split at e
    · rename_i hc
      injection e with e; subst e
      simp only [Bool.or_eq_true, decide_eq_true_eq] at hc
      rcases hc with (hc | hc) | hc
      · exact .inl ⟨_, _, hx.int, hy.int, .inl (small_of hc), k.val gh (.int _)⟩
      · exact .inl ⟨_, _, hx.int, hy.int, .inr (small_of hc), k.val gh (.int _)⟩
      · exact .inr (.inl ⟨_, _, hx.int, hy.int, (of_decide_eq_true (p := _ < _) hc), k.val gh (.int _)⟩)
    · cases e
  · split at e
    · rename_i hc
      injection e with e; subst e
      obtain ⟨a, vs, rfl, ha, r⟩ := hx.list gh
      exact .inr (.inr ⟨a, _, vs, rfl, hy.int, ha, by omega, by omega, by rw [r.length]; exact hc.2.2, fun p hp => k.newL gh (r.rep _) p hp⟩)
    · cases e
  · cases e
def fdivD : D → D → Option Sl
  | .int i, .int j => if divOk j = true then some (.val (.int (i / j))) else none
  | _, _ => none
theorem hg_fdiv (H G : Hp) (x y : V) (dx dy : D) (s : Sl) (Q : VK) (gh : Sub G H) (hx : CRep X.K H G x dx) (hy : CRep X.K H G y dy) (e : fdivD dx dy = some s) (k : Out X.K H G s Q) : rI CDivW (fun i j => .int (i / j)) x y H Q := by
  unfold fdivD at e
  split at e
  · split at e
    · rename_i hc
      injection e with e; subst e
      simp only [divOk, Bool.and_eq_true, decide_eq_true_eq] at hc
      exact ⟨_, _, hx.int, hy.int, hc, k.val gh (.int _)⟩
    · cases e
  · cases e
def modD : D → D → Option Sl
  | .int i, .int j => if 0 < j then some (.val (.int (i % j))) else none
  | _, _ => none
theorem hg_mod (H G : Hp) (x y : V) (dx dy : D) (s : Sl) (Q : VK) (gh : Sub G H) (hx : CRep X.K H G x dx) (hy : CRep X.K H G y dy) (e : modD dx dy = some s) (k : Out X.K H G s Q) : rI (fun _ j => 0 < j) (fun i j => .int (i % j)) x y H Q := by
  unfold modD at e
  split at e
  · split at e
    · rename_i hc
      injection e with e; subst e
      exact ⟨_, _, hx.int, hy.int, hc, k.val gh (.int _)⟩
    · cases e
  · cases e
def powD : D → D → Option Sl
  | .int i, .int j => if powOk i j = true then some (.val (.int (i ^ j.toNat))) else none
  | _, _ => none
theorem hg_pow (H G : Hp) (x y : V) (dx dy : D) (s : Sl) (Q : VK) (gh : Sub G H) (hx : CRep X.K H G x dx) (hy : CRep X.K H G y dy) (e : powD dx dy = some s) (k : Out X.K H G s Q) : rI CPow (fun i j => .int (i ^ j.toNat)) x y H Q := by
  unfold powD at e
  split at e
  · split at e
    · rename_i hc
      injection e with e; subst e
      simp only [powOk, Bool.and_eq_true, decide_eq_true_eq] at hc
      exact ⟨_, _, hx.int, hy.int, ⟨hc.1.1, hc.1.2, hc.2⟩, k.val gh (.int _)⟩
    · cases e
  · cases e

/-! ### comparisons -/
def scalD : D → D → Bool
  | .none, .none => true | .none, .int _ => true | .int _, .none => true | .none, .bool _ => true | .bool _, .none => true | .none, .str _ => true | .str _, .none => true
  | .int _, .int _ => true | .bool _, .bool _ => true | .str _, .str _ => true
  | .int _, .str _ => true | .str _, .int _ => true | .bool _, .str _ => true | .str _, .bool _ => true
  | _, _ => false
/-- == of data that can be compared -/
def eqD (x y : D) : Option Bool := if (scalD x y || (SeqAt.shaped x && SeqAt.shaped y)) = true then some (PyData.eqv x y) else none
def rEqX (K : Frag) : R2 := fun x y H Q => rEq x y H Q ∨ rEqD K x y H Q
def rNeX (K : Frag) : R2 := fun x y H Q => rNe x y H Q ∨ rNeD K x y H Q
theorem scal_ok {K : Frag} {H G : Hp} {x y : V} {dx dy : D} (hx : CRep K H G x dx) (hy : CRep K H G y dy) (h : scalD dx dy = true) : scal x y = true ∧ decide (x = y) = PyData.eqv dx dy := by
  unfold scalD at h
  split at h
  all_goals first
    | (cases h; done)
    | (have ex := hx.non; have ey := hy.non; subst ex ey; exact ⟨rfl, by simp [PyData.eqv]⟩)
    | (have ex := hx.non; have ey := hy.int; subst ex ey; exact ⟨rfl, by simp [PyData.eqv]⟩)
    | (have ex := hx.int; have ey := hy.non; subst ex ey; exact ⟨rfl, by simp [PyData.eqv]⟩)
    | (have ex := hx.non; have ey := hy.bl; subst ex ey; exact ⟨rfl, by simp [PyData.eqv]⟩)
    | (have ex := hx.bl; have ey := hy.non; subst ex ey; exact ⟨rfl, by simp [PyData.eqv]⟩)
    | (have ex := hx.non; have ey := hy.str; subst ex ey; exact ⟨rfl, by simp [PyData.eqv]⟩)
    | (have ex := hx.str; have ey := hy.non; subst ex ey; exact ⟨rfl, by simp [PyData.eqv]⟩)
    | (have ex := hx.int; have ey := hy.int; subst ex ey; exact ⟨rfl, dec_int⟩)
    | (have ex := hx.bl; have ey := hy.bl; subst ex ey; exact ⟨rfl, dec_bl⟩)
    | (have ex := hx.str; have ey := hy.str; subst ex ey; exact ⟨rfl, dec_str⟩)
    | (have ex := hx.int; have ey := hy.str; subst ex ey; exact ⟨rfl, by simp [PyData.eqv]⟩)
    | (have ex := hx.str; have ey := hy.int; subst ex ey; exact ⟨rfl, by simp [PyData.eqv]⟩)
    | (have ex := hx.bl; have ey := hy.str; subst ex ey; exact ⟨rfl, by simp [PyData.eqv]⟩)
    | (have ex := hx.str; have ey := hy.bl; subst ex ey; exact ⟨rfl, by simp [PyData.eqv]⟩)
def blO (o : Option Bool) : Option Sl := o.map fun b => .val (.bool b)
theorem blO_some {o : Option Bool} {s : Sl} (e : blO o = some s) : ∃ b, o = some b ∧ s = .val (.bool b) := by
  cases o with
  | none => cases e
  | some b => injection e with e; exact ⟨b, rfl, e.symm⟩
theorem shaped_both {x y : D} (h : (SeqAt.shaped x && SeqAt.shaped y) = true) : SeqAt.shaped x = true ∧ SeqAt.shaped y = true := Bool.and_eq_true_iff.mp h
theorem hg_eq (H G : Hp) (x y : V) (dx dy : D) (s : Sl) (Q : VK) (gh : Sub G H) (hx : CRep X.K H G x dx) (hy : CRep X.K H G y dy) (e : blO (eqD dx dy) = some s) (k : Out X.K H G s Q) : rEqX X.K x y H Q := by
  obtain ⟨b, e2, rfl⟩ := blO_some e
  clear e
  have e := e2
  unfold eqD at e
  split at e
  · rename_i hc
    injection e with e; subst e
    rcases Bool.or_eq_true_iff.mp hc with hc | hc
    · obtain ⟨h1, h2⟩ := scal_ok hx hy hc
      exact .inl ⟨h1, by rw [h2]; exact k.val gh (.bl _)⟩
    · obtain ⟨h1, h2⟩ := shaped_both hc
      exact .inr ⟨dx, dy, (hx.inH gh).dp (SeqAt.canLay_of_shaped h1), (hy.inH gh).dp (SeqAt.canLay_of_shaped h2), h1, h2, k.val gh (.bl _)⟩
  · cases e
theorem hg_ne (H G : Hp) (x y : V) (dx dy : D) (s : Sl) (Q : VK) (gh : Sub G H) (hx : CRep X.K H G x dx) (hy : CRep X.K H G y dy) (e : blO ((eqD dx dy).map not) = some s) (k : Out X.K H G s Q) : rNeX X.K x y H Q := by
  obtain ⟨b, e2, rfl⟩ := blO_some e
  clear e
  have e := e2
  unfold eqD at e
  split at e
  · rename_i hc
    injection e with e; subst e
    rcases Bool.or_eq_true_iff.mp hc with hc | hc
    · obtain ⟨h1, h2⟩ := scal_ok hx hy hc
      exact .inl ⟨h1, by rw [h2]; exact k.val gh (.bl _)⟩
    · obtain ⟨h1, h2⟩ := shaped_both hc
      exact .inr ⟨dx, dy, (hx.inH gh).dp (SeqAt.canLay_of_shaped h1), (hy.inH gh).dp (SeqAt.canLay_of_shaped h2), h1, h2, k.val gh (.bl _)⟩
  · cases e
theorem op_eqX (hu : X.A.units + 64 < cLine) : OpR X (compareOp .Eq) (rEqX X.K) := op_eq.or (op_eqD hu)
theorem op_neX (hu : X.A.units + 64 < cLine) : OpR X (compareOp .NotEq) (rNeX X.K) := op_ne.or (op_neD hu)
/-- < of ints, or of data that are alike -/
def nnD : D → Bool
  | .none => false
  | _ => true
def ltD : D → D → Option Bool
  | .int i, .int j => some (decide (i < j))
  | x, y => if (W.alike x x && W.alike y y && W.alike x y && decide (x.depth ≤ 60) && nnD x) = true then some (W.dataLt x y) else none
def rLtX (K : Frag) : R2 := fun x y H Q => rI0 (fun i j => .bl (decide (i < j))) x y H Q ∨ ∃ d e, Dp K H x d ∧ Dp K H y e ∧ W.alike d e = true ∧ d ≠ .none ∧ d.depth ≤ 60 ∧ Q (.bl (W.dataLt d e)) H
theorem op_ltX (hu : X.A.units + 64 < cLine) : OpR X (compareOp .Lt) (rLtX X.K) := by
  refine op_lt.or ?_
  intro pins s σ H x y v u Q I rx ry h
  obtain ⟨d, e, hd, he, ha, hn, hz, q⟩ := h
  obtain ⟨as, r1⟩ := Dp.reads I d x v hd rx
  obtain ⟨bs, r2⟩ := Dp.reads I e y u he ry
  exact W.lt_data r1 r2 ha hn (by omega) ⟨.bl _, H, I, rfl, q⟩
theorem hg_lt (H G : Hp) (x y : V) (dx dy : D) (s : Sl) (Q : VK) (gh : Sub G H) (hx : CRep X.K H G x dx) (hy : CRep X.K H G y dy) (e : blO (ltD dx dy) = some s) (k : Out X.K H G s Q) : rLtX X.K x y H Q := by
  obtain ⟨b, e2, rfl⟩ := blO_some e
  clear e
  have e := e2
  unfold ltD at e
  split at e
  · injection e with e; subst e
    exact .inl ⟨_, _, hx.int, hy.int, k.val gh (.bl _)⟩
  · split at e
    · rename_i hc
      injection e with e; subst e
      simp only [Bool.and_eq_true, decide_eq_true_eq] at hc
      obtain ⟨⟨⟨⟨h1, h2⟩, h3⟩, h4⟩, h5⟩ := hc
      exact .inr ⟨dx, dy, (hx.inH gh).dpA h1, (hy.inH gh).dpA h2, h3, (fun z => by subst z; cases h5), h4, k.val gh (.bl _)⟩
    · cases e
def cmpI (p : Int → Int → Bool) : D → D → Option Bool
  | .int i, .int j => some (p i j)
  | _, _ => none
theorem hg_cmpI {p : Int → Int → Bool} (H G : Hp) (x y : V) (dx dy : D) (s : Sl) (Q : VK) (gh : Sub G H) (hx : CRep X.K H G x dx) (hy : CRep X.K H G y dy) (e : blO (cmpI p dx dy) = some s) (k : Out X.K H G s Q) : rI0 (fun i j => .bl (p i j)) x y H Q := by
  obtain ⟨b, e2, rfl⟩ := blO_some e
  clear e
  have e := e2
  unfold cmpI at e
  split at e
  · injection e with e; subst e
    exact ⟨_, _, hx.int, hy.int, k.val gh (.bl _)⟩
  · cases e
/-- is: None on the right, or two truths -/
def isD : D → D → Option Bool
  | .bool a, .bool b => some (decide (a = b))
  | .none, .none => some true
  | _, .none => some false
  | _, _ => none
def rIsX : R2 := fun x y H Q => rIsB x y H Q ∨ (y = .non ∧ Q (.bl (decide (x = .non))) H)
def rNotX : R2 := fun x y H Q => rNotB x y H Q ∨ (y = .non ∧ Q (.bl (!decide (x = .non))) H)
theorem op_isX : OpR X (compareOp .Is) rIsX := op_isBl.or op_isN
theorem op_notX : OpR X (compareOp .IsNot) rNotX := op_notBl.or op_notN
theorem nn_of {K : Frag} {H G : Hp} {x : V} {d : D} (h : CRep K H G x d) (hn : d ≠ .none) : decide (x = V.non) = false := by
  rcases h with h | ⟨a, s', rfl, o, e⟩
  · cases h <;> first | exact absurd rfl hn | rfl
  · rfl
theorem hg_is (H G : Hp) (x y : V) (dx dy : D) (s : Sl) (Q : VK) (gh : Sub G H) (hx : CRep X.K H G x dx) (hy : CRep X.K H G y dy) (e : blO (isD dx dy) = some s) (k : Out X.K H G s Q) : rIsX x y H Q := by
  obtain ⟨b, e2, rfl⟩ := blO_some e
  clear e
  have e := e2
  unfold isD at e
  split at e
  · injection e with e; subst e
    exact .inl ⟨_, _, hx.bl, hy.bl, k.val gh (.bl _)⟩
  · injection e with e; subst e
    have := hx.non; subst this
    exact .inr ⟨hy.non, k.val gh (.bl _)⟩
  · rename_i hn
    injection e with e; subst e
    exact .inr ⟨hy.non, by rw [nn_of hx (by intro z; subst z; exact hn rfl)]; exact k.val gh (.bl _)⟩
  · cases e
theorem hg_isnot (H G : Hp) (x y : V) (dx dy : D) (s : Sl) (Q : VK) (gh : Sub G H) (hx : CRep X.K H G x dx) (hy : CRep X.K H G y dy) (e : blO ((isD dx dy).map not) = some s) (k : Out X.K H G s Q) : rNotX x y H Q := by
  obtain ⟨b, e2, rfl⟩ := blO_some e
  clear e
  have e := e2
  unfold isD at e
  split at e
  · injection e with e; subst e
    exact .inl ⟨_, _, hx.bl, hy.bl, k.val gh (.bl _)⟩
  · injection e with e; subst e
    have := hx.non; subst this
    exact .inr ⟨hy.non, k.val gh (.bl _)⟩
  · rename_i hn
    injection e with e; subst e
    exact .inr ⟨hy.non, by rw [nn_of hx (by intro z; subst z; exact hn rfl)]; exact k.val gh (.bl _)⟩
  · cases e
end
end PD

/-! PD4: arguments, built-ins, subscripts, tests, displays. -/
namespace PD
open PySem PySem.Spec PyProof.Rows L2

section
variable {X : Cx} {W : WX}
/-! ### operands in a row -/
inductive PksOk (K : Frag) (σ : St) (G : Hp) : List V → List Pk → Prop
  | nil : PksOk K σ G [] []
  | cons {v : V} {vs : List V} {p : Pk} {ps : List Pk} : PkOk K σ G v p → PksOk K σ G vs ps → PksOk K σ G (v :: vs) (p :: ps)
theorem PksOk.step {K : Frag} {σ : St} {G G' : Hp} (s : Sub G G') : ∀ {vs : List V} {ps : List Pk}, PksOk K σ G vs ps → PksOk K σ G' vs ps
  | _, _, .nil => .nil
  | _, _, .cons h t => .cons (h.step s) (PksOk.step s t)
def PksR (K : Frag) (σ : St) (_ _ G : Hp) (vs : List V) (ps : List Pk) : Prop := PksOk K σ G vs ps
structure SndPs (X : Cx) (W : WX) (es : List Expr) (f : List Sl → Fd → R (List Pk)) : Prop where
  ex : ∃ t, PA X es t ∧ ∀ fa σ H G sl fd Q, EN X.K fa σ H G sl fd → Post X W fa σ H G sl (f sl fd) (PksR X.K σ) Q → t σ H Q
theorem snds_nil : SndPs X W [] fun _ fd => .ok [] fd := ⟨tNil, pa_nil, fun fa σ H G sl fd Q E k => k [] H G E Step.refl .nil⟩
theorem snds_cons {e : Expr} {es : List Expr} {f : List Sl → Fd → R Pk} {fs : List Sl → Fd → R (List Pk)} (he : SndP X W e f) (hs : SndPs X W es fs)
    (hst : starEach (e :: es) X.env = (false, eval e X.env) :: starEach es X.env) : SndPs X W (e :: es) fun sl fd => (f sl fd).bind fun p fd1 => (fs sl fd1).bind fun ps fd2 => .ok (p :: ps) fd2 := by
  obtain ⟨t1, p1, q1⟩ := he.ex
  obtain ⟨t2, p2, q2⟩ := hs.ex
  refine ⟨_, pa_cons p1 p2 hst, fun fa σ H G sl fd Q E k => ?_⟩
  refine q1 fa σ H G sl fd _ E (Post.bind k (fun _ _ _ _ _ _ r => r) fun p fd1 x H1 G1 E1 S1 r1 k1 => ?_)
  refine q2 fa σ H1 G1 sl fd1 _ E1 (Post.bind k1 (fun _ _ _ _ _ _ r => r) fun ps fd2 xs H2 G2 E2 S2 r2 k2 => ?_)
  exact k2 _ H2 G2 E2 Step.refl (.cons (r1.step S2.sub) r2)
def lookPs (sl : List Sl) (fd : Fd) : List Pk → Option (List D)
  | [] => some []
  | p :: ps => match lookP sl fd p, lookPs sl fd ps with
    | some d, some ds => some (d :: ds)
    | _, _ => none
inductive CReps (K : Frag) (H G : Hp) : List V → List D → Prop
  | nil : CReps K H G [] []
  | cons {v : V} {vs : List V} {d : D} {ds : List D} : CRep K H G v d → CReps K H G vs ds → CReps K H G (v :: vs) (d :: ds)
theorem looks_ok {K : Frag} {fa : Option Addr} {σ : St} {H G : Hp} {sl : List Sl} {fd : Fd} (E : EN K fa σ H G sl fd) : ∀ {vs : List V} {ps : List Pk} {ds : List D}, PksOk K σ G vs ps → lookPs sl fd ps = some ds → CReps K H G vs ds
  | _, _, ds, .nil, e => by injection e with e; subst e; exact .nil
  | _, _, ds, .cons (p := p) (ps := ps) h t, e => by
    unfold lookPs at e
    cases h1 : lookP sl fd p with
    | none => simp only [h1] at e; cases e
    | some d =>
      cases h2 : lookPs sl fd ps with
      | none => simp only [h1, h2] at e; cases e
      | some es =>
        simp only [h1, h2] at e
        injection e with e; subst e
        exact .cons (look_ok E h h1) (looks_ok E t h2)
/-- a built-in called with operands -/
theorem snd_bi {e : Expr} {es : List Expr} {fs : List Sl → Fd → R (List Pk)} {r : List V → Hp → VK → Prop} {g : List D → Option Sl}
    (mk : ∀ t, PA X es t → PE X e (tCB r t)) (hs : SndPs X W es fs)
    (hg : ∀ H G xs ds s Q, Sub G H → CReps X.K H G xs ds → g ds = some s → Out X.K H G s Q → r xs H Q) :
    SndR X W e fun sl fd => (fs sl fd).bind fun ps fd1 => match lookPs sl fd1 ps with
      | some ds => R.opt (g ds) fd1
      | none => .bad := by
  obtain ⟨t, p, q⟩ := hs.ex
  refine ⟨_, mk t p, fun fa σ H G sl fd Q E k => ?_⟩
  refine q fa σ H G sl fd _ E (Post.bindR k fun ps fd1 xs H1 G1 E1 S1 r1 k1 => ?_)
  cases h1 : lookPs sl fd1 ps with
  | none => simp only [h1] at k1; exact k1.elim
  | some ds =>
    simp only [h1] at k1
    cases hs : g ds with
    | none => rw [hs] at k1; exact k1.elim
    | some s =>
      rw [hs] at k1
      exact hg H1 G1 xs ds s Q E1.gh (looks_ok E1 r1 h1) hs (Out.post E1 k1)

/-! ### truth -/
def truthD : D → Option Bool
  | .none => some false
  | .bool b => some b
  | .int i => some (i != 0)
  | .str s => if s.length ≤ sizeLine then some ((s.length : Int) != 0) else none
  | .list xs => some (!xs.isEmpty)
  | .tuple xs => some (!xs.isEmpty)
  | .dict _ => none
theorem isEmpty_rep {K : Frag} {G : Hp} {vs : List V} {ds : List D} (r : RepA K G vs ds) : vs.isEmpty = ds.isEmpty := by cases r <;> rfl
theorem truth_ok {K : Frag} {H G : Hp} {v : V} {d : D} {b : Bool} (gh : Sub G H) (h : CRep K H G v d) (e : truthD d = some b) : TruV K v H b := by
  unfold truthD at e
  split at e
  · injection e with e; subst e; have := h.non; subst this; rfl
  · injection e with e; subst e; have := h.bl; subst this; rfl
  · injection e with e; subst e; have := h.int; subst this; rfl
  · split at e
    · injection e with e; subst e; have := h.str; subst this; exact ⟨by assumption, rfl⟩
    · cases e
  · injection e with e; subst e
    obtain ⟨a, vs, rfl, ha, r⟩ := h.list gh
    exact .inl ⟨vs, .of ha, by rw [isEmpty_rep r]⟩
  · injection e with e; subst e
    obtain ⟨a, vs, rfl, ha, r⟩ := h.tup
    exact .inr (.inl ⟨vs, .of (gh _ _ ha), by rw [isEmpty_rep r]⟩)
  · cases e
/-- a test by its value's truth -/
theorem snd_truth {e : Expr} {f : List Sl → Fd → R Pk} (h : SndP X W e f) (he : ∀ whole, isTrue e X.env whole = (do let v ← whole; standAt e.pos; holding [v] (truthy v))) :
    SndT X W e fun sl fd => (f sl fd).bind fun p fd1 => match lookP sl fd1 p with
      | some d => R.opt (truthD d) fd1
      | none => .bad := by
  obtain ⟨t, p, q⟩ := h.ex
  refine ⟨_, pt_truth p he, fun fa σ H G sl fd Q E k => ?_⟩
  refine q fa σ H G sl fd _ E (Post.bind k (fun _ _ _ _ _ _ r => r) fun p fd1 x H1 G1 E1 S1 r1 k1 => ?_)
  cases h1 : lookP sl fd1 p with
  | none => simp only [h1] at k1; exact k1.elim
  | some d =>
    simp only [h1] at k1
    obtain ⟨b, hb, k1⟩ := k1.opt
    exact ⟨b, truth_ok E1.gh (look_ok E1 r1 h1) hb, k1 b H1 G1 E1 Step.refl rfl⟩
/-- a comparison as a test -/
theorem snd_testR {e : Expr} {f : List Sl → Fd → R Sl} {t : TE} (pt : PT X e (tTest t)) (q : ∀ fa σ H G sl fd Q, EN X.K fa σ H G sl fd → Post X W fa σ H G sl (f sl fd) (ResOk X.K) Q → t σ H Q) :
    SndT X W e fun sl fd => (f sl fd).bind fun s fd1 => match s with
      | .val (.bool b) => .ok b fd1
      | _ => .bad := by
  refine ⟨_, pt, fun fa σ H G sl fd Q E k => ?_⟩
  refine q fa σ H G sl fd _ E (Post.bind k (fun _ _ _ _ _ _ r => r) fun s fd1 x H1 G1 E1 S1 r1 k1 => ?_)
  split at k1
  · cases r1
    exact ⟨_, rfl, k1 _ H1 G1 E1 Step.refl rfl⟩
  · exact k1.elim
theorem snd_cmpT {a b : Expr} {op : CmpOp} {pos : Pos} {fa' fb : List Sl → Fd → R Pk} {r : R2} {g : D → D → Option Sl} (ho : OpR X (compareOp op) r) (hm : behindInMarks op b = false) (ha : SndP X W a fa') (hb : SndP X W b fb)
    (hg : ∀ H G x y dx dy s Q, Sub G H → CRep X.K H G x dx → CRep X.K H G y dy → g dx dy = some s → Out X.K H G s Q → r x y H Q) :
    SndT X W (.Compare a [op] [b] pos) fun sl fd => ((fa' sl fd).bind fun p fd1 => (fb sl fd1).bind fun q fd2 => match lookP sl fd2 p, lookP sl fd2 q with
      | some dx, some dy => R.opt (g dx dy) fd2
      | _, _ => .bad).bind fun s fd1 => match s with
      | .val (.bool b) => .ok b fd1
      | _ => .bad := by
  obtain ⟨ta, pa, qa⟩ := ha.ex
  obtain ⟨tb, pb, qb⟩ := hb.ex
  refine snd_testR (t := tOp r ta tb) (pt_cmpR ho pa pb hm) fun fa σ H G sl fd Q E k => ?_
  refine qa fa σ H G sl fd _ E (Post.bindR k fun p fd1 x H1 G1 E1 S1 r1 k1 => ?_)
  refine qb fa σ H1 G1 sl fd1 _ E1 (Post.bindR k1 fun q fd2 y H2 G2 E2 S2 r2 k2 => ?_)
  cases h1 : lookP sl fd2 p with
  | none => simp only [h1] at k2; exact k2.elim
  | some dx =>
    cases h2 : lookP sl fd2 q with
    | none => simp only [h1, h2] at k2; exact k2.elim
    | some dy =>
      simp only [h1, h2] at k2
      cases hs : g dx dy with
      | none => rw [hs] at k2; exact k2.elim
      | some s =>
        rw [hs] at k2
        exact hg H2 G2 x y dx dy s Q E2.gh (look_ok E2 (r1.step S2.sub) h1) (look_ok E2 r2 h2) hs (Out.post E2 k2)
/-- a < b < c -/
def chnK (g' : D → D → Option Bool) (sl : List Sl) (c : List Sl → Fd → R Pk) (p : Pk) (b : Bool) (fd : Fd) : R Bool := if b = true then (c sl fd).bind fun q fd2 => match lookP sl fd2 p, lookP sl fd2 q with
  | some dx, some dy => R.opt (g' dx dy) fd2
  | _, _ => .bad else .ok false fd
def chnE (g g' : D → D → Option Bool) (a b c : List Sl → Fd → R Pk) (sl : List Sl) (fd : Fd) : R Bool := (a sl fd).bind fun p fd1 => (b sl fd1).bind fun q fd2 => match lookP sl fd2 p, lookP sl fd2 q with
  | some dx, some dy => match g dx dy with
    | some k => chnK g' sl c q k fd2
    | none => .bad
  | _, _ => .bad
theorem chn_q {ta tb tc : TE} {r r' : R2} {g g' : D → D → Option Bool} {fa' fb fc : List Sl → Fd → R Pk} {fa : Option Addr} {σ : St} {H G : Hp} {sl : List Sl} {fd : Fd} {Q : VK} (E : EN X.K fa σ H G sl fd)
    (qa : ∀ fa σ H G sl fd Q, EN X.K fa σ H G sl fd → Post X W fa σ H G sl (fa' sl fd) (PkR X.K σ) Q → ta σ H Q)
    (qb : ∀ fa σ H G sl fd Q, EN X.K fa σ H G sl fd → Post X W fa σ H G sl (fb sl fd) (PkR X.K σ) Q → tb σ H Q)
    (qc : ∀ fa σ H G sl fd Q, EN X.K fa σ H G sl fd → Post X W fa σ H G sl (fc sl fd) (PkR X.K σ) Q → tc σ H Q)
    (hg : ∀ H G x y dx dy s Q, Sub G H → CRep X.K H G x dx → CRep X.K H G y dy → blO (g dx dy) = some s → Out X.K H G s Q → r x y H Q)
    (hg' : ∀ H G x y dx dy s Q, Sub G H → CRep X.K H G x dx → CRep X.K H G y dy → blO (g' dx dy) = some s → Out X.K H G s Q → r' x y H Q)
    (k : Post X W fa σ H G sl (chnE g g' fa' fb fc sl fd) SameR (fun b H => Q (.bl b) H)) : tChain r r' ta tb tc σ H Q := by
  refine qa fa σ H G sl fd _ E (Post.bind k (fun _ _ _ _ _ _ r => r) fun p fd1 x H1 G1 E1 S1 r1 k1 => ?_)
  refine qb fa σ H1 G1 sl fd1 _ E1 (Post.bind k1 (fun _ _ _ _ _ _ r => r) fun q fd2 y H2 G2 E2 S2 r2 k2 => ?_)
  cases h1 : lookP sl fd2 p with
  | none => simp only [h1] at k2; exact k2.elim
  | some dx =>
    cases h2 : lookP sl fd2 q with
    | none => simp only [h1, h2] at k2; exact k2.elim
    | some dy =>
      simp only [h1, h2] at k2
      cases hb : g dx dy with
      | none => rw [hb] at k2; exact k2.elim
      | some b =>
        rw [hb] at k2
        refine hg H2 G2 x y dx dy (.val (.bool b)) _ E2.gh (look_ok E2 (r1.step S2.sub) h1) (look_ok E2 r2 h2) (by rw [hb]; rfl) fun v H3 G3 s1 s2 s3 s4 s5 r3 => ?_
        have r3' : Rep X.K G3 v (.bool b) := r3
        cases r3'
        have S3 : Step fa G2 H2 G3 H3 := ⟨s1, fun b o e _ => s3 b o e, s4, fun a o _ e => ⟨o, s3 a o e⟩, s5⟩
        have E3 := E2.step S3 s2 (E2.fdo.step S3 fun a _ o e => s3 a o e)
        refine ⟨b, rfl, ?_⟩
        have k2 : Post X W fa σ H2 G2 sl (chnK g' sl fc q b fd2) SameR (fun b H => Q (.bl b) H) := k2
        unfold chnK at k2
        cases b with
        | false => exact k2 false H3 G3 E3 S3 rfl
        | true =>
          simp only [if_true] at k2 ⊢
          have k3 : Post X W fa σ H3 G3 sl ((fc sl fd2).bind fun q' fd3 => match lookP sl fd3 q, lookP sl fd3 q' with
            | some dx, some dy => R.opt (g' dx dy) fd3
            | _, _ => .bad) SameR (fun b H => Q (.bl b) H) := by
            revert k2
            cases (fc sl fd2).bind fun q' fd3 => match lookP sl fd3 q, lookP sl fd3 q' with
              | some dx, some dy => R.opt (g' dx dy) fd3
              | _, _ => .bad with
            | bad => exact fun k => k
            | exc c fd => exact fun k dx H4 G4 E4 S4 => k dx H4 G4 E4 (S3.trans S4)
            | ok a fd => exact fun k v H4 G4 E4 S4 r => k v H4 G4 E4 (S3.trans S4) r
          refine qc fa σ H3 G3 sl fd2 _ E3 (Post.bind k3 (fun _ _ _ _ _ _ r => r) fun q' fd3 z H4 G4 E4 S4 r4 k4 => ?_)
          cases h3 : lookP sl fd3 q with
          | none => simp only [h3] at k4; exact k4.elim
          | some dy' =>
            cases h4 : lookP sl fd3 q' with
            | none => simp only [h3, h4] at k4; exact k4.elim
            | some dz =>
              simp only [h3, h4] at k4
              obtain ⟨b2, hb2, k4⟩ := k4.opt
              refine hg' H4 G4 y z dy' dz (.val (.bool b2)) _ E4.gh (look_ok E4 ((r2.step S3.sub).step S4.sub) h3) (look_ok E4 r4 h4) (by rw [hb2]; rfl) fun v H5 G5 s1 s2 s3 s4 s5 r5 => ?_
              have r5' : Rep X.K G5 v (.bool b2) := r5
              cases r5'
              have S5 : Step fa G4 H4 G5 H5 := ⟨s1, fun b o e _ => s3 b o e, s4, fun a o _ e => ⟨o, s3 a o e⟩, s5⟩
              exact k4 b2 H5 G5 (E4.step S5 s2 (E4.fdo.step S5 fun a _ o e => s3 a o e)) S5 rfl
end
end PD

/-! PD5: dicts, subscripts, slices, truth operators, displays, calls. -/
namespace PD
open PySem PySem.Spec PyProof.Rows L2

/-! ### keys -/
mutual
def kq : D → D → Bool
  | .int i, .int j => i == j
  | .str s, .str t => s == t
  | .tuple xs, .tuple ys => kqs xs ys
  | _, _ => false
def kqs : List D → List D → Bool
  | [], [] => true
  | x :: xs, y :: ys => kq x y && kqs xs ys
  | _, _ => false
end
def isKey : D → Bool
  | .int _ => true
  | .str _ => true
  | _ => false
def isTKey : D → Bool
  | .tuple xs => xs.all isKey
  | _ => false
def dlook (es : List (D × D)) (k : D) : Option D := (es.find? fun p => kq p.1 k).map (·.2)
def dput (es : List (D × D)) (k v : D) : List (D × D) := if (es.any fun p => kq p.1 k) = true then es.map (fun p => if kq p.1 k = true then (p.1, v) else p) else es ++ [(k, v)]
/-- the entries of a dict, and whether its keys are tuples -/
def dparts : D → Option (Bool × List (D × D))
  | .dict ((.bool true, .none) :: es) => some (true, es)
  | .dict ((.none, _) :: _) => none
  | .dict es => some (false, es)
  | _ => none
def keyOk (t : Bool) (k : D) : Bool := if t = true then isTKey k else isKey k
/-- d[k], k in d: none where it can't be told -/
def dgetD (d k : D) : Option (Option D) := match dparts d with
  | some (t, es) => if keyOk t k = true then some (dlook es k) else none
  | none => none
theorem kq_k (a b : Key) : kq (kD a) (kD b) = decide (a = b) := by
  cases a <;> cases b
  · simp only [kD, kq]; exact (key_ll _ _).symm
  · simp [kD, kq]
  · simp [kD, kq]
  · simp only [kD, kq]; rw [key_rr]; rw [Bool.eq_iff_iff]; simp
theorem kq_t : ∀ a b : List Key, kqs (a.map kD) (b.map kD) = decide (a = b)
  | [], [] => by simp [kqs]
  | [], _ :: _ => by simp [kqs]
  | _ :: _, [] => by simp [kqs]
  | x :: a, y :: b => by simp [kqs, kq_k, kq_t a b]
theorem isKey_of {d : D} (h : isKey d = true) : ∃ k, d = kD k := by
  cases d with
  | int i => exact ⟨.inl i, rfl⟩
  | str s => exact ⟨.inr s, rfl⟩
  | _ => cases h
theorem isKeys_of : ∀ {ds : List D}, ds.all isKey = true → ∃ ks : List Key, ds = ks.map kD
  | [], _ => ⟨[], rfl⟩
  | d :: ds, h => by
    simp only [List.all_cons, Bool.and_eq_true] at h
    obtain ⟨k, e⟩ := isKey_of h.1
    obtain ⟨ks, es⟩ := isKeys_of h.2
    exact ⟨k :: ks, by rw [e, es]; rfl⟩
theorem isTKey_of {d : D} (h : isTKey d = true) : ∃ ks, d = tkD ks := by
  cases d with
  | tuple ds =>
    obtain ⟨ks, e⟩ := isKeys_of h
    exact ⟨ks, by rw [e]; rfl⟩
  | _ => cases h
section
variable {K : Frag} {H G : Hp}
inductive ORep (K : Frag) (G : Hp) : Option V → Option D → Prop
  | none : ORep K G none none
  | some {v : V} {d : D} : Rep K G v d → ORep K G (some v) (some d)
theorem repK_look (k : Key) : ∀ {kvs : List (Key × V)} {es : List (D × D)}, RepK K G kvs es → ORep K G (valV kvs k) (dlook es (kD k))
  | _, _, .nil => .none
  | _, _, .cons (k := j) (v := v) (kvs := kvs) (d := d) (es := es) h t => by
    by_cases e : j = k
    · rw [valV_pos e]
      simp only [dlook, List.find?_cons, kq_k, e, decide_true, Option.map_some]
      exact .some h
    · rw [valV_neg e]
      simp only [dlook, List.find?_cons, kq_k, e, decide_false]
      exact repK_look k t
theorem repT_look (k : List Key) : ∀ {kvs : List (List Key × V)} {es : List (D × D)}, RepT K G kvs es → ORep K G (valV kvs k) (dlook es (tkD k))
  | _, _, .nil => .none
  | _, _, .cons (k := j) (v := v) (kvs := kvs) (d := d) (es := es) h t => by
    have ek : kq (tkD j) (tkD k) = decide (j = k) := by simp only [tkD, kq]; exact kq_t j k
    by_cases e : j = k
    · subst e
      rw [valV_pos rfl]
      have ek2 : kq (tkD j) (tkD j) = true := by rw [ek]; exact decide_eq_true rfl
      simp only [dlook, List.find?_cons, ek2, Option.map_some]
      exact .some h
    · rw [valV_neg e]
      simp only [dlook, List.find?_cons, ek, e, decide_false]
      exact repT_look k t
theorem repK_any (k : Key) : ∀ {kvs : List (Key × V)} {es : List (D × D)}, RepK K G kvs es → (kvs.any fun kv => decide (kv.1 = k)) = es.any fun p => kq p.1 (kD k)
  | _, _, .nil => rfl
  | _, _, .cons h t => by simp only [List.any_cons, kq_k, repK_any k t]
theorem repT_any (k : List Key) : ∀ {kvs : List (List Key × V)} {es : List (D × D)}, RepT K G kvs es → (kvs.any fun kv => decide (kv.1 = k)) = es.any fun p => kq p.1 (tkD k)
  | _, _, .nil => rfl
  | _, _, .cons (k := j) h t => by
    have ek : kq (tkD j) (tkD k) = decide (j = k) := by simp only [tkD, kq]; exact kq_t j k
    simp only [List.any_cons, ek, repT_any k t]
theorem repK_map {u : V} {x : D} (k : Key) (r : Rep K G u x) : ∀ {kvs : List (Key × V)} {es : List (D × D)}, RepK K G kvs es →
    RepK K G (kvs.map fun kv => if kv.1 = k then (kv.1, u) else kv) (es.map fun p => if kq p.1 (kD k) = true then (p.1, x) else p)
  | _, _, .nil => .nil
  | _, _, .cons (k := j) h t => by
    simp only [List.map_cons, kq_k]
    by_cases e : j = k
    · simp only [e, if_true, decide_true]; exact .cons r (repK_map k r t)
    · simp only [e, if_false, decide_false, Bool.false_eq_true]; exact .cons h (repK_map k r t)
theorem repT_map {u : V} {x : D} (k : List Key) (r : Rep K G u x) : ∀ {kvs : List (List Key × V)} {es : List (D × D)}, RepT K G kvs es →
    RepT K G (kvs.map fun kv => if kv.1 = k then (kv.1, u) else kv) (es.map fun p => if kq p.1 (tkD k) = true then (p.1, x) else p)
  | _, _, .nil => .nil
  | _, _, .cons (k := j) h t => by
    have ek : kq (tkD j) (tkD k) = decide (j = k) := by simp only [tkD, kq]; exact kq_t j k
    simp only [List.map_cons, ek]
    by_cases e : j = k
    · simp only [e, if_true, decide_true]; exact .cons r (repT_map k r t)
    · simp only [e, if_false, decide_false, Bool.false_eq_true]; exact .cons h (repT_map k r t)
theorem repK_app {u : V} {x : D} (k : Key) (r : Rep K G u x) : ∀ {kvs : List (Key × V)} {es : List (D × D)}, RepK K G kvs es → RepK K G (kvs ++ [(k, u)]) (es ++ [(kD k, x)])
  | _, _, .nil => .cons r .nil
  | _, _, .cons h t => .cons h (repK_app k r t)
theorem repT_app {u : V} {x : D} (k : List Key) (r : Rep K G u x) : ∀ {kvs : List (List Key × V)} {es : List (D × D)}, RepT K G kvs es → RepT K G (kvs ++ [(k, u)]) (es ++ [(tkD k, x)])
  | _, _, .nil => .cons r .nil
  | _, _, .cons h t => .cons h (repT_app k r t)
theorem repK_put {u : V} {x : D} (k : Key) (r : Rep K G u x) {kvs : List (Key × V)} {es : List (D × D)} (t : RepK K G kvs es) : RepK K G (putK kvs k u) (dput es (kD k) x) := by
  unfold putK dput
  rw [repK_any k t]
  split
  · exact repK_map k r t
  · exact repK_app k r t
theorem repT_put {u : V} {x : D} (k : List Key) (r : Rep K G u x) {kvs : List (List Key × V)} {es : List (D × D)} (t : RepT K G kvs es) : RepT K G (putK kvs k u) (dput es (tkD k) x) := by
  unfold putK dput
  rw [repT_any k t]
  split
  · exact repT_map k r t
  · exact repT_app k r t
theorem keys_rep : ∀ {vs : List V} {ks : List Key}, RepA K G vs (ks.map kD) → vs = ks.map kV
  | _, [], .nil => rfl
  | _, k :: ks, .cons h t => by
    have : ∀ v, Rep K G v (kD k) → v = kV k := fun v h => by
      cases k with
      | inl i => have h : Rep K G v (.int i) := h; cases h; rfl
      | inr s => have h : Rep K G v (.str s) := h; cases h; rfl
    rw [List.map_cons, ← this _ h, ← keys_rep t]
theorem repK_nob {kvs : List (Key × V)} {x : D} {es : List (D × D)} {b : Bool} : ¬ RepK K G kvs ((.bool b, x) :: es) := by
  intro h
  generalize e : ((PyData.bool b, x) :: es) = l at h
  cases h with
  | nil => cases e
  | @cons k v kvs d es h t => cases k <;> (injection e with e _; injection e with e _; cases e)
theorem repK_non {kvs : List (Key × V)} {x : D} {es : List (D × D)} : ¬ RepK K G kvs ((.none, x) :: es) := by
  intro h
  generalize e : ((PyData.none, x) :: es) = l at h
  cases h with
  | nil => cases e
  | @cons k v kvs d es h t => cases k <;> (injection e with e _; injection e with e _; cases e)
theorem dict_forms {a : Addr} {ds : List (D × D)} (h : Rep K H (.ref a) (.dict ds)) : (∃ kvs, H a = some (.dK kvs) ∧ RepK K H kvs ds) ∨ (∃ kvs es, ds = (.bool true, .none) :: es ∧ H a = some (.dT kvs) ∧ RepT K H kvs es) ∨ ∃ x, ds = [(.none, x)] := by
  generalize e : PyData.dict ds = d at h
  cases h with
  | dK h t => injection e with e; subst e; exact .inl ⟨_, h, t⟩
  | dT h t => injection e with e; exact .inr (.inl ⟨_, _, e, h, t⟩)
  | scr h => injection e with e; exact .inr (.inr ⟨_, e⟩)
  | lst _ _ => cases e
  | tup _ _ => cases e
/-- a dict looked up -/
theorem dget_ok {v y : V} {d k : D} {o : Option D} (gh : Sub G H) (h : CRep K H G v d) (hy : CRep K H G y k) (e : dgetD d k = some o) : ∃ a r, v = .ref a ∧ DGet H a y r ∧ ORep K G r o := by
  unfold dgetD at e
  cases hp : dparts d with
  | none => simp only [hp] at e; cases e
  | some te =>
    obtain ⟨t, es⟩ := te
    simp only [hp] at e
    split at e
    · rename_i hk
      injection e with e; subst e
      cases t with
      | true =>
        obtain ⟨ks, rfl⟩ := isTKey_of (show isTKey k = true from hk)
        obtain ⟨b, vs, rfl, hb, rv⟩ := (show CRep K H G y (.tuple (ks.map kD)) from hy).tup
        have ev := keys_rep rv
        subst ev
        have main : ∃ a kvs, v = .ref a ∧ H a = some (.dT kvs) ∧ RepT K G kvs es := by
          rcases h with h | ⟨a, s', rfl, ow, ef⟩
          · cases h with
            | dT h t =>
              injection hp with hp; injection hp with _ hp; subst hp
              exact ⟨_, _, rfl, gh _ _ h, t⟩
            | dK h t =>
              unfold dparts at hp
              split at hp
              · rename_i e1; injection e1 with e1; subst e1; exact (repK_nob t).elim
              · cases hp
              · injection hp with hp; injection hp with hp; cases hp
              · cases hp
            | scr h => cases hp
            | _ => cases hp
          · cases s' with
            | dT es' =>
              injection ef with ef; subst ef
              injection hp with hp; injection hp with _ hp; subst hp
              obtain ⟨kvs, q, r⟩ := ow
              exact ⟨a, kvs, rfl, q, r⟩
            | dK es' =>
              injection ef with ef; subst ef
              obtain ⟨kvs, q, r⟩ := ow
              unfold dparts at hp
              split at hp
              · rename_i e1; injection e1 with e1; subst e1; exact (repK_nob r).elim
              · cases hp
              · injection hp with hp; injection hp with hp; cases hp
              · cases hp
            | lst xs => injection ef with ef; subst ef; cases hp
            | _ => exact ow.elim
        obtain ⟨a, kvs, rfl, q, r⟩ := main
        exact ⟨a, _, rfl, DGet.t q (gh _ _ hb), repT_look ks r⟩
      | false =>
        obtain ⟨j, rfl⟩ := isKey_of (show isKey k = true from hk)
        have ey : y = kV j := by
          cases j with
          | inl i => exact (show CRep K H G y (.int i) from hy).int
          | inr s => exact (show CRep K H G y (.str s) from hy).str
        subst ey
        have main : ∃ a kvs, v = .ref a ∧ H a = some (.dK kvs) ∧ RepK K G kvs es := by
          rcases h with h | ⟨a, s', rfl, ow, ef⟩
          · cases h with
            | dT h t => injection hp with hp; injection hp with hp; cases hp
            | dK h t =>
              unfold dparts at hp
              split at hp
              · injection hp with hp; injection hp with hp; cases hp
              · cases hp
              · rename_i e1; injection hp with hp; injection hp with _ hp; subst hp; injection e1 with e1; subst e1
                exact ⟨_, _, rfl, gh _ _ h, t⟩
              · cases hp
            | scr h => cases hp
            | _ => cases hp
          · cases s' with
            | dT es' =>
              injection ef with ef; subst ef
              injection hp with hp; injection hp with hp; cases hp
            | dK es' =>
              injection ef with ef; subst ef
              obtain ⟨kvs, q, r⟩ := ow
              unfold dparts at hp
              split at hp
              · injection hp with hp; injection hp with hp; cases hp
              · cases hp
              · rename_i e1; injection hp with hp; injection hp with _ hp; subst hp; injection e1 with e1; subst e1
                exact ⟨a, kvs, rfl, q, r⟩
              · cases hp
            | lst xs => injection ef with ef; subst ef; cases hp
            | _ => exact ow.elim
        obtain ⟨a, kvs, rfl, q, r⟩ := main
        exact ⟨a, _, rfl, DGet.k q, repK_look j r⟩
    · cases e
end
end PD

/-! PD6: in, subscripts, slices, built-ins, methods. -/
namespace PD
open PySem PySem.Spec PyProof.Rows L2

section
variable {X : Cx}
/-! ### in -/
def inD (x : D) : D → Option Bool
  | .list xs => if (PyData.canLayAll0 xs && SeqAt.shaped x) = true then some (xs.any fun y => PyData.eqv y x) else none
  | .tuple xs => if (PyData.canLayAll0 xs && SeqAt.shaped x) = true then some (xs.any fun y => PyData.eqv y x) else none
  | .str z => match x with
    | .str y => if y.length = 1 then some (decide (y.cps.getD 0 0 ∈ z.cps.toList)) else none
    | _ => none
  | d => (dgetD d x).map (·.isSome)
def rInX (K : Frag) (neg : Bool) : R2 := fun x y H Q =>
  (∃ d ds, Dp K H x d ∧ (Dp K H y (.list ds) ∨ Dp K H y (.tuple ds)) ∧ PyData.canLayAll0 ds = true ∧ SeqAt.shaped d = true ∧ Q (.bl (neg != ds.any fun z => PyData.eqv z d)) H) ∨
  ((∃ (c : Nat) (z : Str), x = .str ⟨#[c]⟩ ∧ y = .str z ∧ Q (.bl (neg != decide (c ∈ z.cps.toList))) H) ∨ ∃ a o, y = .ref a ∧ DGet H a x o ∧ Q (.bl (neg != o.isSome)) H)
theorem op_inX (hu : X.A.units + 65 < cLine) : OpR X (compareOp .In) (rInX X.K false) := by
  intro pins s σ H x y v u Q I rx ry h
  rcases h with ⟨d, ds, hd, he, c1, c2, q⟩ | ⟨c, z, e1, e2, q⟩ | ⟨a, o, rfl, g, q⟩
  · obtain ⟨as, r1⟩ := Dp.reads I d x v hd rx
    rcases he with he | he
    · obtain ⟨bs, r2⟩ := Dp.reads I _ y u he ry
      exact SeqAt.in_list_reads r2 r1 c1 (SeqAt.canLay_of_shaped c2) (PyProof.Rows.room_in_shaped c2 hu) ⟨.bl _, H, I, rfl, by simpa using q⟩
    · obtain ⟨bs, r2⟩ := Dp.reads I _ y u he ry
      exact SeqAt.in_tuple_reads r2 r1 c1 (SeqAt.canLay_of_shaped c2) (PyProof.Rows.room_in_shaped c2 hu) ⟨.bl _, H, I, rfl, by simpa using q⟩
  · exact op_in_sign pins s σ H x y v u Q I rx ry ⟨c, z, e1, e2, by simpa using q⟩
  · cases ry
    exact d_in (by omega) I g rx fun s3 I3 => ⟨.bl o.isSome, H, I3, rfl, by simpa using q⟩
theorem op_ninX (hu : X.A.units + 65 < cLine) : OpR X (compareOp .NotIn) (rInX X.K true) := by
  intro pins s σ H x y v u Q I rx ry h
  rcases h with ⟨d, ds, hd, he, c1, c2, q⟩ | ⟨c, z, e1, e2, q⟩ | ⟨a, o, rfl, g, q⟩
  · obtain ⟨as, r1⟩ := Dp.reads I d x v hd rx
    rcases he with he | he
    · obtain ⟨bs, r2⟩ := Dp.reads I _ y u he ry
      exact SeqAt.notIn_list_reads r2 r1 c1 (SeqAt.canLay_of_shaped c2) (PyProof.Rows.room_in_shaped c2 hu) ⟨.bl _, H, I, rfl, by simpa using q⟩
    · obtain ⟨bs, r2⟩ := Dp.reads I _ y u he ry
      exact SeqAt.notIn_tuple_reads r2 r1 c1 (SeqAt.canLay_of_shaped c2) (PyProof.Rows.room_in_shaped c2 hu) ⟨.bl _, H, I, rfl, by simpa using q⟩
  · exact op_notIn_sign pins s σ H x y v u Q I rx ry ⟨c, z, e1, e2, by simpa using q⟩
  · cases ry
    exact d_notIn (by omega) I g rx fun s3 I3 => ⟨.bl (!o.isSome), H, I3, rfl, by simpa using q⟩
theorem one_sign {y : Str} (h : y.length = 1) : y = ⟨#[y.cps.getD 0 0]⟩ := by
  obtain ⟨⟨l⟩⟩ := y
  have h : l.length = 1 := h
  match l, h with
  | [c], _ => rfl
theorem ORep.isSome {K : Frag} {G : Hp} {r : Option V} {o : Option D} (h : ORep K G r o) : r.isSome = o.isSome := by cases h <;> rfl
theorem in_pre {neg : Bool} {H G : Hp} {x y : V} {dx dy : D} {b : Bool} {Q : VK} (gh : Sub G H) (hx : CRep X.K H G x dx) (hy : CRep X.K H G y dy) (e : inD dx dy = some b) (k : Q (.bl (neg != b)) H) : rInX X.K neg x y H Q := by
  unfold inD at e
  split at e
  · split at e
    · rename_i hc
      injection e with e; subst e
      obtain ⟨h1, h2⟩ := Bool.and_eq_true_iff.mp hc
      exact .inl ⟨_, _, (hx.inH gh).dp (SeqAt.canLay_of_shaped h2), .inl ((hy.inH gh).dp (by simpa [PyData.canLay0] using h1)), h1, h2, k⟩
    · cases e
  · split at e
    · rename_i hc
      injection e with e; subst e
      obtain ⟨h1, h2⟩ := Bool.and_eq_true_iff.mp hc
      exact .inl ⟨_, _, (hx.inH gh).dp (SeqAt.canLay_of_shaped h2), .inr ((hy.inH gh).dp (by simpa [PyData.canLay0] using h1)), h1, h2, k⟩
    · cases e
  · split at e
    · split at e
      · rename_i hc
        injection e with e; subst e
        have ex := hx.str
        rw [one_sign hc] at ex
        exact .inr (.inl ⟨_, _, ex, hy.str, k⟩)
      · cases e
    · cases e
  · obtain ⟨o, ho, e⟩ := Option.map_eq_some_iff.mp e
    subst e
    obtain ⟨a, r, rfl, g, orr⟩ := dget_ok gh hy hx ho
    exact .inr (.inr ⟨a, r, rfl, g, by rw [orr.isSome]; exact k⟩)
theorem hg_in (H G : Hp) (x y : V) (dx dy : D) (s : Sl) (Q : VK) (gh : Sub G H) (hx : CRep X.K H G x dx) (hy : CRep X.K H G y dy) (e : blO (inD dx dy) = some s) (k : Out X.K H G s Q) : rInX X.K false x y H Q := by
  obtain ⟨b, e2, rfl⟩ := blO_some e
  exact in_pre gh hx hy e2 (by simpa using k.val gh (.bl _))
theorem hg_nin (H G : Hp) (x y : V) (dx dy : D) (s : Sl) (Q : VK) (gh : Sub G H) (hx : CRep X.K H G x dx) (hy : CRep X.K H G y dy) (e : blO ((inD dx dy).map not) = some s) (k : Out X.K H G s Q) : rInX X.K true x y H Q := by
  obtain ⟨b, e2, rfl⟩ := blO_some e
  obtain ⟨c, h, rfl⟩ := Option.map_eq_some_iff.mp e2
  exact in_pre gh hx hy h (by simpa using k.val gh (.bl _))

/-! ### subscripts -/
def idxD : D → D → Option D
  | .list xs, .int i => atI xs i
  | .tuple xs, .int i => atI xs i
  | .str z, .int i => if z.length ≤ sizeLine then (atI z.cps.toList i).map fun c => .str ⟨#[c]⟩ else none
  | .dict es, k => match es, k with
    | [(.none, .list ns)], .int i => match atI ns i with
      | some (.int n) => some (.int n)
      | _ => none
    | es, k => (dgetD (.dict es) k).bind id
  | _, _ => none
def rIxX (K : Frag) : R2 := fun x y H Q => rIx K x y H Q ∨ ∃ a v, x = .ref a ∧ DGet H a y (some v) ∧ Q v H
theorem ix_dict (hu : X.A.units + 1 < cLine) : IxR X (fun x y H Q => ∃ a v, x = .ref a ∧ DGet H a y (some v) ∧ Q v H) := by
  intro value slice pins s σ H x y v u Q I rx ry h hs
  obtain ⟨a, z, rfl, g, q⟩ := h
  cases rx
  exact tail_any (dict_typeIs I g) PySem.F.slot_dict_getitem.lookup (d_getItem hu I g ry fun w' s3 I3 rw' => ⟨z, H, I3, rw', q⟩) hs
theorem ix_X (hu : X.A.units + 1 < cLine) : IxR X (rIxX X.K) := ix_seq.or (ix_dict hu)
theorem atI_rep {K : Frag} {G : Hp} {vs : List V} {ds : List D} {i : Int} {d : D} (r : RepA K G vs ds) (e : atI ds i = some d) : ∃ v, atI vs i = some v ∧ Rep K G v d := by
  unfold atI at e ⊢
  rw [← r.length] at e
  cases h : ixN vs.length i with
  | none => rw [h] at e; cases e
  | some j =>
    rw [h] at e
    exact r.get (show ds[j]? = some d from e)
theorem atI_map {ns : List Int} {i : Int} {x : D} (e : atI (ns.map PyData.int) i = some x) : ∃ n, x = .int n ∧ atI (ns.map V.int) i = some (.int n) := by
  unfold atI at e ⊢
  rw [List.length_map] at e ⊢
  cases h : ixN ns.length i with
  | none => rw [h] at e; cases e
  | some j =>
    rw [h] at e
    have e : (ns.map PyData.int)[j]? = some x := e
    rw [List.getElem?_map] at e
    obtain ⟨n, hn, rfl⟩ := Option.map_eq_some_iff.mp e
    exact ⟨n, rfl, by show (ns.map V.int)[j]? = _; rw [List.getElem?_map, hn]; rfl⟩
theorem scr_of {K : Frag} {H G : Hp} {v : V} {d : D} (gh : Sub G H) (h : CRep K H G v (.dict [(.none, d)])) : ∃ (a : Addr) (ns : List Int), v = .ref a ∧ d = .list (ns.map PyData.int) ∧ SqL K H a (ns.map V.int) := by
  have key : ∀ {v : V} {es : List (D × D)}, Rep K H v (.dict es) → es = [(.none, d)] → ∃ (a : Addr) (ns : List Int), v = .ref a ∧ d = .list (ns.map PyData.int) ∧ SqL K H a (ns.map V.int) := fun {v es} h e => by
    generalize e2 : PyData.dict es = w at h
    cases h with
    | dK h t => injection e2 with e2; subst e2; subst e; exact (repK_non t).elim
    | dT h t => injection e2 with e2; rw [e] at e2; injection e2 with e2; injection e2 with e2; cases e2
    | scr h =>
      injection e2 with e2; rw [e] at e2; injection e2 with e2; injection e2 with _ e2
      exact ⟨_, _, rfl, e2, h⟩
    | _ => cases e2
  exact key (h.inH gh) rfl
theorem hg_idx (H G : Hp) (x y : V) (dx dy : D) (s : Sl) (Q : VK) (gh : Sub G H) (hx : CRep X.K H G x dx) (hy : CRep X.K H G y dy) (e : (idxD dx dy).map Sl.val = some s) (k : Out X.K H G s Q) : rIxX X.K x y H Q := by
  obtain ⟨d, e2, rfl⟩ := Option.map_eq_some_iff.mp e
  unfold idxD at e2
  split at e2
  · obtain ⟨a, vs, rfl, ha, r⟩ := hx.list gh
    obtain ⟨v, hv, rv⟩ := atI_rep r e2
    exact .inl (.inl ⟨a, vs, _, v, rfl, hy.int, .of ha, hv, k.val gh rv⟩)
  · obtain ⟨a, vs, rfl, ha, r⟩ := hx.tup
    obtain ⟨v, hv, rv⟩ := atI_rep r e2
    exact .inl (.inr (.inl ⟨a, vs, _, v, rfl, hy.int, .of (gh _ _ ha), hv, k.val gh rv⟩))
  · split at e2
    · rename_i hz
      obtain ⟨c, hc, rfl⟩ := Option.map_eq_some_iff.mp e2
      exact .inl (.inr (.inr ⟨_, _, c, hx.str, hy.int, hz, hc, k.val gh (.str _)⟩))
    · cases e2
  · split at e2
    · split at e2
      · rename_i hn
        injection e2 with e2; subst e2
        obtain ⟨a, ns, rfl, ed, hs⟩ := scr_of gh hx
        injection ed with ed; subst ed
        obtain ⟨n, en, hv⟩ := atI_map hn
        injection en with en; subst en
        exact .inl (.inl ⟨a, _, _, _, rfl, hy.int, hs, hv, k.val gh (.int _)⟩)
      · cases e2
    · obtain ⟨o, ho, e3⟩ := Option.bind_eq_some_iff.mp e2
      have e3 : o = some d := e3
      subst e3
      obtain ⟨a, r, rfl, g, orr⟩ := dget_ok gh hx hy ho
      cases orr with
      | some rv => exact .inr ⟨a, _, rfl, g, k.val gh rv⟩
  · cases e2

/-! ### slices -/
def cutL {α : Type} (xs : List α) (lo hi : Option Int) : List α := (xs.drop (HT.sIx xs.length 0 lo)).take (HT.sIx xs.length xs.length hi - HT.sIx xs.length 0 lo)
def sliD (lo hi : Option Int) : D → Option Sl
  | .list xs => some (.lst (cutL xs lo hi))
  | .tuple xs => some (.val (.tuple (cutL xs lo hi)))
  | .str z => if z.length ≤ sizeLine then some (.val (.str (cutS z lo hi))) else none
  | .dict [(.none, .list ns)] => some (.lst (cutL ns lo hi))
  | _ => none
def rSlX (K : Frag) : V → Option Int → Option Int → Hp → VK → Prop := fun x lo hi H Q => rSlL K x lo hi H Q ∨ (rSlA K x lo hi H Q ∨ rSlS x lo hi H Q)
theorem sl_X : SlR X (rSlX X.K) := sl_list.or (sl_tupA.or sl_str)
theorem cut_rep {K : Frag} {G : Hp} {vs : List V} {ds : List D} (r : RepA K G vs ds) (lo hi : Option Int) : RepA K G (cutV vs lo hi) (cutL ds lo hi) := by
  unfold cutV cutL
  rw [← r.length]
  exact (r.drop _).take _
theorem cut_whole {α : Type} {xs : List α} {lo hi : Option Int} (h : HT.sIx xs.length 0 lo = 0 ∧ HT.sIx xs.length xs.length hi = xs.length) : cutL xs lo hi = xs := by
  unfold cutL
  rw [h.1, h.2]; simp
theorem cut_map {α β : Type} (f : α → β) (xs : List α) (lo hi : Option Int) : cutL (xs.map f) lo hi = (cutL xs lo hi).map f := by
  unfold cutL
  rw [List.length_map, List.map_take, List.map_drop]
theorem ints_rep {K : Frag} {G : Hp} : ∀ ns : List Int, RepA K G (ns.map V.int) (ns.map PyData.int)
  | [] => .nil
  | n :: ns => .cons (.int n) (ints_rep ns)
theorem hg_sli (lo hi : Option Int) (H G : Hp) (x : V) (dx : D) (s : Sl) (Q : VK) (gh : Sub G H) (hx : CRep X.K H G x dx) (e : sliD lo hi dx = some s) (k : Out X.K H G s Q) : rSlX X.K x lo hi H Q := by
  unfold sliD at e
  split at e
  · injection e with e; subst e
    obtain ⟨a, vs, rfl, ha, r⟩ := hx.list gh
    exact .inl ⟨a, vs, rfl, .of ha, fun p hp => k.newL gh (cut_rep r lo hi) p hp⟩
  · injection e with e; subst e
    obtain ⟨a, vs, rfl, ha, r⟩ := hx.tup
    refine .inr (.inl ⟨a, vs, rfl, .of (gh _ _ ha), fun h => ?_, fun _ p hp => k.newT gh (cut_rep r lo hi) p hp⟩)
    rw [r.length] at h
    rw [cut_whole h] at k
    exact k.val gh (.tup ha r)
  · split at e
    · injection e with e; subst e
      exact .inr (.inr ⟨_, hx.str, by assumption, k.val gh (.str _)⟩)
    · cases e
  · injection e with e; subst e
    obtain ⟨a, ns, rfl, ed, hs⟩ := scr_of gh hx
    injection ed with ed; subst ed
    refine .inl ⟨a, _, rfl, hs, fun p hp => k.newL gh ?_ p hp⟩
    exact cut_rep (ints_rep ns) lo hi
  · cases e
end
end PD

/-! PD7: built-ins and methods by data. -/
namespace PD
open PySem PySem.Spec PyProof.Rows L2

section
variable {X : Cx}
theorem creps1 {K : Frag} {H G : Hp} {xs : List V} {d : D} (h : CReps K H G xs [d]) : ∃ x, xs = [x] ∧ CRep K H G x d := by
  cases h with
  | cons h t => cases t; exact ⟨_, rfl, h⟩
theorem creps2 {K : Frag} {H G : Hp} {xs : List V} {d e : D} (h : CReps K H G xs [d, e]) : ∃ x y, xs = [x, y] ∧ CRep K H G x d ∧ CRep K H G y e := by
  cases h with
  | cons h t =>
    obtain ⟨y, rfl, hy⟩ := creps1 t
    exact ⟨_, y, rfl, h, hy⟩

/-! ### len -/
def lenD : D → Option Nat
  | .str s => if s.length ≤ sizeLine then some s.length else none
  | .list xs => some xs.length
  | .tuple xs => some xs.length
  | .dict es => match es with
    | [(.none, .list ns)] => some ns.length
    | es => (dparts (.dict es)).map fun p => p.2.length
  | _ => none
def gLen : List D → Option Sl
  | [d] => (lenD d).map fun (n : Nat) => Sl.val (.int (n : Int))
  | _ => none
def rLenX (K : Frag) : List V → Hp → VK → Prop := fun xs H Q => (∃ x n, xs = [x] ∧ LenV K x H n ∧ Q (.int n) H) ∨ ((∃ a kvs, xs = [V.ref a] ∧ H a = some (.dK kvs) ∧ Q (.int kvs.length) H) ∨ rLenT xs H Q)
theorem call_lenX : CallR X (.builtin "len") (rLenX X.K) := call_len.or (call_lenD.or call_len_dT)
theorem hg_len (H G : Hp) (xs : List V) (ds : List D) (s : Sl) (Q : VK) (gh : Sub G H) (hx : CReps X.K H G xs ds) (e : gLen ds = some s) (k : Out X.K H G s Q) : rLenX X.K xs H Q := by
  unfold gLen at e
  split at e
  · obtain ⟨x, rfl, h⟩ := creps1 hx
    obtain ⟨n, hn, rfl⟩ := Option.map_eq_some_iff.mp e
    unfold lenD at hn
    split at hn
    · split at hn
      · injection hn with hn; subst hn
        have := h.str; subst this
        exact .inl ⟨_, _, rfl, ⟨by assumption, rfl⟩, k.val gh (.int _)⟩
      · cases hn
    · injection hn with hn; subst hn
      obtain ⟨a, vs, rfl, ha, r⟩ := h.list gh
      exact .inl ⟨_, _, rfl, .inl ⟨vs, .of ha, r.length.symm⟩, k.val gh (.int _)⟩
    · injection hn with hn; subst hn
      obtain ⟨a, vs, rfl, ha, r⟩ := h.tup
      exact .inl ⟨_, _, rfl, .inr ⟨vs, .of (gh _ _ ha), r.length.symm⟩, k.val gh (.int _)⟩
    · split at hn
      · injection hn with hn; subst hn
        obtain ⟨a, ns, rfl, ed, hs⟩ := scr_of gh h
        injection ed with ed; subst ed
        exact .inl ⟨_, _, rfl, .inl ⟨_, hs, by simp⟩, k.val gh (.int _)⟩
      · obtain ⟨⟨t, es⟩, hp, rfl⟩ := Option.map_eq_some_iff.mp hn
        obtain ⟨a, hv⟩ : ∃ a, x = .ref a := by
          rcases h with h | ⟨a, s', rfl, ow, ef⟩
          · generalize e2 : PyData.dict _ = w at h
            cases h <;> first | exact ⟨_, rfl⟩ | cases e2
          · exact ⟨a, rfl⟩
        subst hv
        rcases dict_forms (h.inH gh) with ⟨kvs, q, r⟩ | ⟨kvs, es', e3, q, r⟩ | ⟨x, e3⟩
        · unfold dparts at hp
          split at hp
          · rename_i e1; injection e1 with e1; subst e1; exact (repK_nob r).elim
          · cases hp
          · rename_i e1
            injection hp with hp; injection hp with _ hp; subst hp; injection e1 with e1; subst e1
            refine .inr (.inl ⟨a, kvs, rfl, q, ?_⟩)
            rw [r.length]; exact k.val gh (.int _)
          · cases hp
        · subst e3
          injection hp with hp; injection hp with _ hp; subst hp
          refine .inr (.inr ⟨a, kvs, rfl, q, ?_⟩)
          rw [r.length]; exact k.val gh (.int _)
        · subst e3; cases hp
    · cases hn
  · cases e

/-! ### isinstance -/
def tyN : D → String
  | .none => "NoneType"
  | .bool _ => "bool"
  | .int _ => "int"
  | .str _ => "str"
  | .list _ => "list"
  | .tuple _ => "tuple"
  | .dict _ => "dict"
def isiS (a T : String) : Bool := decide (a = T) || (decide (a = "bool") && decide (T = "int"))
def isiD (d : D) (T : String) : Bool := isiS (tyN d) T
def isiT (T : String) : Bool := ["int", "bool", "str", "list", "tuple", "dict"].contains T
theorem kit_isi (d : D) (T : String) (h : isiT T = true) : kitB (tyN d) T = some (isiD d T) := by
  have hT : T = "int" ∨ T = "bool" ∨ T = "str" ∨ T = "list" ∨ T = "tuple" ∨ T = "dict" := by simpa [isiT] using h
  unfold isiD
  generalize hg : tyN d = a
  have ha : a = "NoneType" ∨ a = "bool" ∨ a = "int" ∨ a = "str" ∨ a = "list" ∨ a = "tuple" ∨ a = "dict" := by subst hg; cases d <;> simp [tyN]
  rcases ha with rfl | rfl | rfl | rfl | rfl | rfl | rfl <;> rcases hT with rfl | rfl | rfl | rfl | rfl | rfl <;> first | rfl | decide +kernel
def noScr : D → Bool
  | .dict ((.none, _) :: _) => false
  | _ => true
theorem ty_ok {K : Frag} {H G : Hp} {x : V} {d : D} (gh : Sub G H) (h : CRep K H G x d) (ns : noScr d = true) : TyX K H x (.type (tyN d)) := by
  rcases h with h | ⟨a, s', rfl, o, e⟩
  · cases h with
    | non => exact .base .non
    | bl b => exact .base (.bl b)
    | int b => exact .base (.int b)
    | str b => exact .base (.str b)
    | lst h t => exact .base (.lst (gh _ _ h))
    | tup h t => exact .base (.tup (gh _ _ h))
    | dK h t => exact .base (.dK (gh _ _ h))
    | dT h t => exact .base (.dT (gh _ _ h))
    | scr h => cases ns
  · cases s' with
    | lst xs => injection e with e; subst e; obtain ⟨vs, q, r⟩ := o; exact .base (.lst q)
    | dK xs => injection e with e; subst e; obtain ⟨vs, q, r⟩ := o; exact .base (.dK q)
    | dT xs => injection e with e; subst e; obtain ⟨vs, q, r⟩ := o; exact .base (.dT q)
    | _ => exact o.elim

/-! ### small built-ins -/
def ints? : List D → Option (List Int)
  | [] => some []
  | .int i :: ds => (ints? ds).map fun ns => i :: ns
  | _ :: _ => none
def bls? : List D → Option (List Bool)
  | [] => some []
  | .bool i :: ds => (bls? ds).map fun ns => i :: ns
  | _ :: _ => none
def strs? : List D → Option (List Str)
  | [] => some []
  | .str i :: ds => (strs? ds).map fun ns => i :: ns
  | _ :: _ => none
theorem ints_of {K : Frag} {G : Hp} : ∀ {vs : List V} {ds : List D} {ns : List Int}, RepA K G vs ds → ints? ds = some ns → vs = ns.map V.int
  | _, [], ns, .nil, e => by injection e with e; subst e; rfl
  | _, d :: ds, ns, .cons h t, e => by
    cases d with
    | int i =>
      obtain ⟨ms, hm, rfl⟩ := Option.map_eq_some_iff.mp (show (ints? ds).map _ = some ns from e)
      cases h
      rw [ints_of t hm]; rfl
    | _ => cases e
theorem bls_of {K : Frag} {G : Hp} : ∀ {vs : List V} {ds : List D} {ns : List Bool}, RepA K G vs ds → bls? ds = some ns → vs = ns.map V.bl
  | _, [], ns, .nil, e => by injection e with e; subst e; rfl
  | _, d :: ds, ns, .cons h t, e => by
    cases d with
    | bool i =>
      obtain ⟨ms, hm, rfl⟩ := Option.map_eq_some_iff.mp (show (bls? ds).map _ = some ns from e)
      cases h
      rw [bls_of t hm]; rfl
    | _ => cases e
theorem strs_of {K : Frag} {G : Hp} : ∀ {vs : List V} {ds : List D} {ns : List Str}, RepA K G vs ds → strs? ds = some ns → vs = ns.map V.str
  | _, [], ns, .nil, e => by injection e with e; subst e; rfl
  | _, d :: ds, ns, .cons h t, e => by
    cases d with
    | str i =>
      obtain ⟨ms, hm, rfl⟩ := Option.map_eq_some_iff.mp (show (strs? ds).map _ = some ns from e)
      cases h
      rw [strs_of t hm]; rfl
    | _ => cases e
def strs_repT {K : Frag} {G : Hp} : ∀ ns : List Str, RepA K G (ns.map V.str) (ns.map PyData.str)
  | [] => .nil
  | n :: ns => .cons (.str n) (strs_repT ns)
def greatest : List Int → Int
  | [] => 0
  | n :: ns => ns.foldl max n
def least : List Int → Int
  | [] => 0
  | n :: ns => ns.foldl min n
theorem greatest_eq {ns : List Int} {m : Int} (hm : m ∈ ns) (h : ∀ y ∈ ns, y ≤ m) : greatest ns = m := by
  cases ns with
  | nil => cases hm
  | cons n ns =>
    have key : ∀ (ns : List Int) (n : Int), (m = n ∨ m ∈ ns) → n ≤ m → (∀ y ∈ ns, y ≤ m) → ns.foldl max n = m := by
      intro ns
      induction ns with
      | nil => intro n h1 _ _; rcases h1 with h1 | h1; exact h1.symm; cases h1
      | cons x xs ih =>
        intro n h1 h2 h3
        have hx := h3 x (by simp)
        refine ih (max n x) ?_ (by omega) fun y hy => h3 y (by simp [hy])
        rcases h1 with h1 | h1
        · exact .inl (by omega)
        · rcases List.mem_cons.mp h1 with h1 | h1
          · exact .inl (by omega)
          · exact .inr h1
    exact key ns n (by simpa using hm) (h n (by simp)) fun y hy => h y (by simp [hy])
theorem least_eq {ns : List Int} {m : Int} (hm : m ∈ ns) (h : ∀ y ∈ ns, m ≤ y) : least ns = m := by
  cases ns with
  | nil => cases hm
  | cons n ns =>
    have key : ∀ (ns : List Int) (n : Int), (m = n ∨ m ∈ ns) → m ≤ n → (∀ y ∈ ns, m ≤ y) → ns.foldl min n = m := by
      intro ns
      induction ns with
      | nil => intro n h1 _ _; rcases h1 with h1 | h1; exact h1.symm; cases h1
      | cons x xs ih =>
        intro n h1 h2 h3
        have hx := h3 x (by simp)
        refine ih (min n x) ?_ (by omega) fun y hy => h3 y (by simp [hy])
        rcases h1 with h1 | h1
        · exact .inl (by omega)
        · rcases List.mem_cons.mp h1 with h1 | h1
          · exact .inl (by omega)
          · exact .inr h1
    exact key ns n (by simpa using hm) (h n (by simp)) fun y hy => h y (by simp [hy])
def gMax : List D → Option Sl
  | [.int i, .int j] => some (.val (.int (if j > i then j else i)))
  | [.list ds] => (ints? ds).bind fun ns => if ns.isEmpty = true then none else some (.val (.int (greatest ns)))
  | [.tuple ds] => none
  | _ => none
def gMin : List D → Option Sl
  | [.int i, .int j] => some (.val (.int (if j < i then j else i)))
  | [.list ds] => (ints? ds).bind fun ns => if ns.isEmpty = true then none else some (.val (.int (least ns)))
  | _ => none
def rMaxX (K : Frag) : List V → Hp → VK → Prop := fun xs H Q => (∃ i j, xs = [.int i, .int j] ∧ Q (.int (if j > i then j else i)) H) ∨ rMax K xs H Q
def rMinX (K : Frag) : List V → Hp → VK → Prop := fun xs H Q => (∃ i j, xs = [.int i, .int j] ∧ Q (.int (if j < i then j else i)) H) ∨ rMin K xs H Q
theorem call_maxX (hc : X.calm = true) : CallR X (.builtin "max") (rMaxX X.K) := (call_max2 hc).or (cr_max hc)
theorem call_minX (hc : X.calm = true) : CallR X (.builtin "min") (rMinX X.K) := (call_min2 hc).or (cr_min hc)
theorem ne_len {α : Type} {ns : List α} (h : ¬ ns.isEmpty = true) : 0 < ns.length := by
  cases ns with
  | nil => exact absurd rfl h
  | cons a b => simp
theorem hg_max (H G : Hp) (xs : List V) (ds : List D) (s : Sl) (Q : VK) (gh : Sub G H) (hx : CReps X.K H G xs ds) (e : gMax ds = some s) (k : Out X.K H G s Q) : rMaxX X.K xs H Q := by
  unfold gMax at e
  split at e
  · injection e with e; subst e
    obtain ⟨x, y, rfl, h1, h2⟩ := creps2 hx
    have e1 := h1.int; have e2 := h2.int; subst e1 e2
    exact .inl ⟨_, _, rfl, k.val gh (.int _)⟩
  · obtain ⟨ns, hn, e⟩ := Option.bind_eq_some_iff.mp e
    split at e
    · cases e
    · rename_i hne
      injection e with e; subst e
      obtain ⟨x, rfl, h⟩ := creps1 hx
      obtain ⟨a, vs, rfl, ha, r⟩ := h.list gh
      have ev := ints_of r hn
      subst ev
      exact .inr ⟨a, ns, rfl, .of ha, ne_len hne, fun m hm hle => by rw [← greatest_eq hm hle]; exact k.val gh (.int _)⟩
  · cases e
  · cases e
theorem hg_min (H G : Hp) (xs : List V) (ds : List D) (s : Sl) (Q : VK) (gh : Sub G H) (hx : CReps X.K H G xs ds) (e : gMin ds = some s) (k : Out X.K H G s Q) : rMinX X.K xs H Q := by
  unfold gMin at e
  split at e
  · injection e with e; subst e
    obtain ⟨x, y, rfl, h1, h2⟩ := creps2 hx
    have e1 := h1.int; have e2 := h2.int; subst e1 e2
    exact .inl ⟨_, _, rfl, k.val gh (.int _)⟩
  · obtain ⟨ns, hn, e⟩ := Option.bind_eq_some_iff.mp e
    split at e
    · cases e
    · rename_i hne
      injection e with e; subst e
      obtain ⟨x, rfl, h⟩ := creps1 hx
      obtain ⟨a, vs, rfl, ha, r⟩ := h.list gh
      have ev := ints_of r hn
      subst ev
      exact .inr ⟨a, ns, rfl, .of ha, ne_len hne, fun m hm hle => by rw [← least_eq hm hle]; exact k.val gh (.int _)⟩
  · cases e
def gSum : List D → Option Sl
  | [.list ds] => (ints? ds).map fun ns => .val (.int ns.sum)
  | _ => none
theorem hg_sum (H G : Hp) (xs : List V) (ds : List D) (s : Sl) (Q : VK) (gh : Sub G H) (hx : CReps X.K H G xs ds) (e : gSum ds = some s) (k : Out X.K H G s Q) : rSum X.K xs H Q := by
  unfold gSum at e
  split at e
  · obtain ⟨ns, hn, rfl⟩ := Option.map_eq_some_iff.mp e
    obtain ⟨x, rfl, h⟩ := creps1 hx
    obtain ⟨a, vs, rfl, ha, r⟩ := h.list gh
    have ev := ints_of r hn
    subst ev
    exact ⟨a, ns, rfl, .of ha, k.val gh (.int _)⟩
  · cases e
def gAll : List D → Option Sl
  | [.list ds] => (bls? ds).map fun ns => .val (.bool (ns.all id))
  | _ => none
def gAny : List D → Option Sl
  | [.list ds] => (bls? ds).map fun ns => .val (.bool (ns.any id))
  | _ => none
theorem hg_all (H G : Hp) (xs : List V) (ds : List D) (s : Sl) (Q : VK) (gh : Sub G H) (hx : CReps X.K H G xs ds) (e : gAll ds = some s) (k : Out X.K H G s Q) : rAll X.K xs H Q := by
  unfold gAll at e
  split at e
  · obtain ⟨ns, hn, rfl⟩ := Option.map_eq_some_iff.mp e
    obtain ⟨x, rfl, h⟩ := creps1 hx
    obtain ⟨a, vs, rfl, ha, r⟩ := h.list gh
    have ev := bls_of r hn
    subst ev
    exact ⟨a, ns, rfl, .of ha, k.val gh (.bl _)⟩
  · cases e
theorem hg_any (H G : Hp) (xs : List V) (ds : List D) (s : Sl) (Q : VK) (gh : Sub G H) (hx : CReps X.K H G xs ds) (e : gAny ds = some s) (k : Out X.K H G s Q) : rAny X.K xs H Q := by
  unfold gAny at e
  split at e
  · obtain ⟨ns, hn, rfl⟩ := Option.map_eq_some_iff.mp e
    obtain ⟨x, rfl, h⟩ := creps1 hx
    obtain ⟨a, vs, rfl, ha, r⟩ := h.list gh
    have ev := bls_of r hn
    subst ev
    exact ⟨a, ns, rfl, .of ha, k.val gh (.bl _)⟩
  · cases e
def gAbs : List D → Option Sl
  | [.int i] => some (.val (.int (if i < 0 then -i else i)))
  | _ => none
theorem hg_abs (H G : Hp) (xs : List V) (ds : List D) (s : Sl) (Q : VK) (gh : Sub G H) (hx : CReps X.K H G xs ds) (e : gAbs ds = some s) (k : Out X.K H G s Q) : (fun xs H Q => ∃ i, xs = [V.int i] ∧ Q (.int (if i < 0 then -i else i)) H) xs H Q := by
  unfold gAbs at e
  split at e
  · injection e with e; subst e
    obtain ⟨x, rfl, h⟩ := creps1 hx
    have e1 := h.int; subst e1
    exact ⟨_, rfl, k.val gh (.int _)⟩
  · cases e
def gInt : List D → Option Sl
  | [.int i] => some (.val (.int i))
  | [.bool b] => some (.val (.int (if b then 1 else 0)))
  | [.str s] => if s.length ≤ 640 then (PySem.intText? s).map fun n => .val (.int n) else none
  | _ => none
def rIntX : List V → Hp → VK → Prop := fun xs H Q => ((∃ i, xs = [.int i] ∧ Q (.int i) H) ∨ ∃ k, xs = [.bl k] ∧ Q (.int (if k then 1 else 0)) H) ∨ ∃ a n, xs = [.str a] ∧ PySem.intText? a = some n ∧ a.length ≤ 640 ∧ Q (.int n) H
theorem call_intX : CallR X (.type "int") rIntX := call_int1.or call_int_str
theorem hg_int (H G : Hp) (xs : List V) (ds : List D) (s : Sl) (Q : VK) (gh : Sub G H) (hx : CReps X.K H G xs ds) (e : gInt ds = some s) (k : Out X.K H G s Q) : rIntX xs H Q := by
  unfold gInt at e
  split at e
  · injection e with e; subst e
    obtain ⟨x, rfl, h⟩ := creps1 hx
    have e1 := h.int; subst e1
    exact .inl (.inl ⟨_, rfl, k.val gh (.int _)⟩)
  · injection e with e; subst e
    obtain ⟨x, rfl, h⟩ := creps1 hx
    have e1 := h.bl; subst e1
    exact .inl (.inr ⟨_, rfl, k.val gh (.int _)⟩)
  · split at e
    · rename_i hz
      obtain ⟨n, hn, rfl⟩ := Option.map_eq_some_iff.mp e
      obtain ⟨x, rfl, h⟩ := creps1 hx
      have e1 := h.str; subst e1
      exact .inr ⟨_, n, rfl, hn, hz, k.val gh (.int _)⟩
    · cases e
  · cases e
def gStr : List D → Option Sl
  | [.int i] => if i.natAbs.log2 < 1920 then some (.val (.str (toString i))) else none
  | [.str s] => some (.val (.str s))
  | _ => none
def rStrX : List V → Hp → VK → Prop := fun xs H Q => (∃ i, xs = [.int i] ∧ i.natAbs.log2 < 1920 ∧ Q (.str (toString i)) H) ∨ ∃ a, xs = [.str a] ∧ Q (.str a) H
theorem call_strX : CallR X (.type "str") rStrX := call_str_int.or SkE.call_str_str
theorem hg_str (H G : Hp) (xs : List V) (ds : List D) (s : Sl) (Q : VK) (gh : Sub G H) (hx : CReps X.K H G xs ds) (e : gStr ds = some s) (k : Out X.K H G s Q) : rStrX xs H Q := by
  unfold gStr at e
  split at e
  · split at e
    · rename_i hz
      injection e with e; subst e
      obtain ⟨x, rfl, h⟩ := creps1 hx
      have e1 := h.int; subst e1
      exact .inl ⟨_, rfl, hz, k.val gh (.str _)⟩
    · cases e
  · injection e with e; subst e
    obtain ⟨x, rfl, h⟩ := creps1 hx
    have e1 := h.str; subst e1
    exact .inr ⟨_, rfl, k.val gh (.str _)⟩
  · cases e
def gTup : List D → Option Sl
  | [.list ds] => some (.val (.tuple ds))
  | [.tuple ds] => some (.val (.tuple ds))
  | _ => none
theorem hg_tuple (H G : Hp) (xs : List V) (ds : List D) (s : Sl) (Q : VK) (gh : Sub G H) (hx : CReps X.K H G xs ds) (e : gTup ds = some s) (k : Out X.K H G s Q) :
    (fun xs H Q => ∃ p ys, xs = [V.ref p] ∧ ((SqL X.K H p ys ∧ ∀ l, H l = none → Q (V.ref l) (upd H l (.tup ys))) ∨ (SqT X.K H p ys ∧ Q (V.ref p) H))) xs H Q := by
  unfold gTup at e
  split at e
  · injection e with e; subst e
    obtain ⟨x, rfl, h⟩ := creps1 hx
    obtain ⟨a, vs, rfl, ha, r⟩ := h.list gh
    exact ⟨a, vs, rfl, .inl ⟨.of ha, fun l hl => k.newT gh r l hl⟩⟩
  · injection e with e; subst e
    obtain ⟨x, rfl, h⟩ := creps1 hx
    obtain ⟨a, vs, rfl, ha, r⟩ := h.tup
    exact ⟨a, vs, rfl, .inr ⟨.of (gh _ _ ha), k.val gh (.tup ha r)⟩⟩
  · cases e
def gList : List D → Option Sl
  | [.list ds] => some (.lst ds)
  | [.tuple ds] => some (.lst ds)
  | _ => none
theorem hg_list (H G : Hp) (xs : List V) (ds : List D) (s : Sl) (Q : VK) (gh : Sub G H) (hx : CReps X.K H G xs ds) (e : gList ds = some s) (k : Out X.K H G s Q) :
    (fun xs H Q => ∃ p ys, xs = [V.ref p] ∧ (SqL X.K H p ys ∨ SqT X.K H p ys) ∧ ∀ l, H l = none → Q (V.ref l) (upd H l (.lst ys))) xs H Q := by
  unfold gList at e
  split at e
  · injection e with e; subst e
    obtain ⟨x, rfl, h⟩ := creps1 hx
    obtain ⟨a, vs, rfl, ha, r⟩ := h.list gh
    exact ⟨a, vs, rfl, .inl (.of ha), fun l hl => k.newL gh r l hl⟩
  · injection e with e; subst e
    obtain ⟨x, rfl, h⟩ := creps1 hx
    obtain ⟨a, vs, rfl, ha, r⟩ := h.tup
    exact ⟨a, vs, rfl, .inr (.of (gh _ _ ha)), fun l hl => k.newL gh r l hl⟩
  · cases e

/-! ### sorted -/
def srt (ds : List D) : List D := ds.mergeSort (W.dataLe false id)
def isTup1 : D → Bool
  | .tuple (_ :: _) => true
  | _ => false
def isPlainK : D → Bool
  | .none => false
  | .tuple _ => false
  | _ => true
def srtOk (ds : List D) : Bool := (ds.all fun d => ds.all fun e => W.alike d e) && (ds.all isTup1 || ds.all isPlainK) && ds.all fun d => decide (d.depth ≤ 60)
def sortV (vs : List V) (ds : List D) : List V := ((vs.zip ds).mergeSort (W.dataLe false Prod.snd)).map Prod.fst
def rSortD (K : Frag) : List V → Hp → VK → Prop := fun xs H Q => ∃ a vs ds, xs = [V.ref a] ∧ SqL K H a vs ∧ DpAll K H vs ds ∧ srtOk ds = true ∧ ∀ p, H p = none → Q (.ref p) (upd H p (.lst (sortV vs ds)))
theorem srtOk_ok {ds : List D} (h : srtOk ds = true) : W.AllAlike ds ∧ W.Sortable ds ∧ ∀ d ∈ ds, d.depth ≤ 60 := by
  unfold srtOk at h
  simp only [Bool.and_eq_true, Bool.or_eq_true, List.all_eq_true, decide_eq_true_eq] at h
  obtain ⟨⟨h1, h2⟩, h3⟩ := h
  refine ⟨h1, ?_, h3⟩
  rcases h2 with h2 | h2
  · refine .inl fun d hd => ?_
    have q := h2 d hd
    unfold isTup1 at q
    split at q
    · exact ⟨_, _, rfl⟩
    · cases q
  · refine .inr fun d hd => ?_
    have q := h2 d hd
    constructor
    · rintro rfl; cases q
    · rintro xs rfl; cases q
theorem dpAll_reads {pins : List (Addr × Obj)} {σ : St} {H : Hp} {s : Shared} (I : Inv X pins σ H s) : ∀ {vs : List V} {ds : List D} {us : List Value}, DpAll X.K H vs ds → Vals vs us →
    W.EachIs (fun (u : Value) (b : V × D) => RelV b.1 u) us (vs.zip ds) ∧ W.EachIs (fun (u : Value) (b : V × D) => ∃ as, Reads s.heap u b.2 as) us (vs.zip ds) ∧ (vs.zip ds).map Prod.snd = ds ∧ (vs.zip ds).map Prod.fst = vs
  | _, _, _, .nil, .nil => ⟨.nil, .nil, rfl, rfl⟩
  | _, _, _, .cons h t, .cons r rr => by
    obtain ⟨a, b, c, d⟩ := dpAll_reads I t rr
    exact ⟨.cons r a, .cons (Dp.reads I _ _ _ h r) b, by simp [c], by simp [d]⟩
theorem each_vals {f : V × D → V} : ∀ {us : List Value} {bs : List (V × D)}, W.EachIs (fun (u : Value) (b : V × D) => RelV (f b) u) us bs → Vals (bs.map f) us
  | _, _, .nil => .nil
  | _, _, .cons h t => .cons h (each_vals t)
theorem call_sortD (hu : X.A.units + 64 < cLine) : CallR X (.builtin "sorted") (rSortD X.K) := by
  intro pins s σ H xs us Q I r h
  obtain ⟨a, vs, ds, rfl, hq, hd, ok, q⟩ := h
  obtain ⟨u, rfl, rx⟩ := vals1 r
  cases rx
  obtain ⟨its, rv, pl, hz⟩ := I.list hq
  obtain ⟨e1, e2, e3, e4⟩ := dpAll_reads I hd rv
  obtain ⟨o1, o2, o3⟩ := srtOk_ok ok
  have hl : (vs.zip ds).length = vs.length := by rw [← congrArg List.length e4, List.length_map]
  refine W.sorted_data (R := fun (u : Value) (b : V × D) => RelV b.1 u) (enc := fun b : V × D => b.2) pl.isList e1 e2 (by rw [e3]; exact o1) (by rw [e3]; exact o2) (by rw [hl]; exact hz)
    (fun b hb => ?_) fun out hout eo => ?_
  · have := o3 b.2 (by rw [← e3]; exact List.mem_map.mpr ⟨b, hb, rfl⟩)
    omega
  · obtain ⟨n, hn⟩ := PyProof.Rows.sortedAll_at s.heap its out.toArray
    have hlen : (sortV vs ds).length ≤ sizeLine := by
      unfold sortV
      rw [List.length_map, List.length_mergeSort, hl]; exact hz
    refine ⟨.ref (s.heap.objs.size + 1), _, I.laid (t' := s.toks) (o := .lst (sortV vs ds)) (fun b o e => PyProof.Rows.sortedAll_old e) (Nat.le_succ _) ⟨hlen, out, n, each_vals (f := Prod.fst) eo, hn⟩, rfl, q _ ?_⟩
    exact I.hok.fresh (Nat.le_succ _)
theorem repA_zip {K : Frag} {G : Hp} : ∀ {vs : List V} {ds : List D}, RepA K G vs ds → (vs.zip ds).map Prod.snd = ds ∧ ∀ p ∈ vs.zip ds, Rep K G p.1 p.2
  | _, _, .nil => ⟨rfl, fun p hp => by cases hp⟩
  | _, _, .cons h t => by
    obtain ⟨a, b⟩ := repA_zip t
    refine ⟨by simp [a], fun p hp => ?_⟩
    rcases List.mem_cons.mp (show p ∈ (_, _) :: _ from hp) with rfl | hp
    · exact h
    · exact b p hp
theorem repA_pairs {K : Frag} {G : Hp} : ∀ {ps : List (V × D)}, (∀ p ∈ ps, Rep K G p.1 p.2) → RepA K G (ps.map Prod.fst) (ps.map Prod.snd)
  | [], _ => .nil
  | p :: ps, h => .cons (h p (by simp)) (repA_pairs fun q hq => h q (by simp [hq]))
theorem sortV_rep {K : Frag} {G : Hp} {vs : List V} {ds : List D} (r : RepA K G vs ds) : RepA K G (sortV vs ds) (srt ds) := by
  obtain ⟨e, h⟩ := repA_zip r
  have es : srt ds = ((vs.zip ds).mergeSort (W.dataLe false Prod.snd)).map Prod.snd := by
    rw [W.sort_maps (r := W.dataLe false Prod.snd) (s := W.dataLe false id) (l := vs.zip ds) Prod.snd (fun a _ b _ => rfl), e]; rfl
  rw [es]
  exact repA_pairs fun p hp => h p (List.mem_mergeSort.mp hp)
def gSort : List D → Option Sl
  | [.list ds] => if srtOk ds = true then some (.lst (srt ds)) else none
  | [.tuple ds] => none
  | _ => none
theorem alike_all_self {ds : List D} (h : W.AllAlike ds) : W.alikeAll ds ds = true := by
  have : ∀ l : List D, (∀ d ∈ l, W.alike d d = true) → W.alikeAll l l = true := by
    intro l
    induction l with
    | nil => intro _; simp [W.alikeAll]
    | cons d l ih =>
      intro h
      simp only [W.alikeAll, Bool.and_eq_true]
      exact ⟨h d (by simp), ih fun x hx => h x (by simp [hx])⟩
  exact this ds fun d hd => h d hd d hd
theorem hg_sort (H G : Hp) (xs : List V) (ds : List D) (s : Sl) (Q : VK) (gh : Sub G H) (hx : CReps X.K H G xs ds) (e : gSort ds = some s) (k : Out X.K H G s Q) : rSortD X.K xs H Q := by
  unfold gSort at e
  split at e
  · split at e
    · rename_i ok
      injection e with e; subst e
      obtain ⟨x, rfl, h⟩ := creps1 hx
      obtain ⟨a, vs, rfl, ha, r⟩ := h.list gh
      exact ⟨a, vs, _, rfl, .of ha, (r.mono gh).dpA (alike_all_self (srtOk_ok ok).1), ok, fun p hp => k.newL gh (sortV_rep r) p hp⟩
    · cases e
  · cases e
  · cases e
end
end PD

/-! PD8: truth operators, displays, methods, calls. -/
namespace PD
open PySem PySem.Spec PyProof.Rows L2

section
variable {X : Cx} {W : WX}
theorem SndR.pk {e : Expr} {f : List Sl → Fd → R Sl} (h : SndR X W e f) : SndP X W e fun sl fd => ((f sl fd).frz).bind fun d fd => .ok (.dt d) fd := h.snd.pk
/-! ### and, or, not, if -/
def andE (f g : List Sl → Fd → R D) (sl : List Sl) (fd : Fd) : R D := (f sl fd).bind fun d fd1 => match d with
  | .bool b => if b = true then g sl fd1 else .ok (.bool false) fd1
  | _ => .bad
def orE (f g : List Sl → Fd → R D) (sl : List Sl) (fd : Fd) : R D := (f sl fd).bind fun d fd1 => match d with
  | .bool b => if b = true then .ok (.bool true) fd1 else g sl fd1
  | _ => .bad
def andT (f g : List Sl → Fd → R Bool) (sl : List Sl) (fd : Fd) : R Bool := (f sl fd).bind fun b fd1 => if b = true then g sl fd1 else .ok false fd1
def orT (f g : List Sl → Fd → R Bool) (sl : List Sl) (fd : Fd) : R Bool := (f sl fd).bind fun b fd1 => if b = true then .ok true fd1 else g sl fd1
theorem snd_one {op : BoolOp} {a : Expr} {pos : Pos} {f : List Sl → Fd → R D} (h : SndE X W a f) : SndE X W (.BoolOp op [a] pos) f := by
  obtain ⟨t, p, q⟩ := h.ex
  exact ⟨t, pe_one p, q⟩
theorem snd_and {a b : Expr} {rest : List Expr} {pos : Pos} {f g : List Sl → Fd → R D} (ha : SndE X W a f) (hb : SndE X W (.BoolOp .And (b :: rest) pos) g) : SndE X W (.BoolOp .And (a :: b :: rest) pos) (andE f g) := by
  obtain ⟨t1, p1, q1⟩ := ha.ex
  obtain ⟨t2, p2, q2⟩ := hb.ex
  refine ⟨_, pe_and p1 p2, fun fa σ H G sl fd Q E k => ?_⟩
  refine q1 fa σ H G sl fd _ E (Post.bindE k fun d fd1 x H1 G1 E1 S1 r1 k1 => ?_)
  split at k1
  · rename_i b
    cases r1
    refine ⟨b, rfl, ?_⟩
    cases b with
    | true => exact q2 fa σ H1 G1 sl fd1 Q E1 k1
    | false => exact k1 _ H1 G1 E1 Step.refl (.bl _)
  · exact k1.elim
theorem snd_or {a b : Expr} {rest : List Expr} {pos : Pos} {f g : List Sl → Fd → R D} (ha : SndE X W a f) (hb : SndE X W (.BoolOp .Or (b :: rest) pos) g) : SndE X W (.BoolOp .Or (a :: b :: rest) pos) (orE f g) := by
  obtain ⟨t1, p1, q1⟩ := ha.ex
  obtain ⟨t2, p2, q2⟩ := hb.ex
  refine ⟨_, pe_or p1 p2, fun fa σ H G sl fd Q E k => ?_⟩
  refine q1 fa σ H G sl fd _ E (Post.bindE k fun d fd1 x H1 G1 E1 S1 r1 k1 => ?_)
  split at k1
  · rename_i b
    cases r1
    refine ⟨b, rfl, ?_⟩
    cases b with
    | true => exact k1 _ H1 G1 E1 Step.refl (.bl _)
    | false => exact q2 fa σ H1 G1 sl fd1 Q E1 k1
  · exact k1.elim
structure SndW (X : Cx) (W : WX) (e : Expr) (f : List Sl → Fd → R Bool) : Prop where
  ex : ∃ t, PW X e t ∧ ∀ fa σ H G sl fd Q, EN X.K fa σ H G sl fd → Post X W fa σ H G sl (f sl fd) SameR Q → t σ H Q
theorem SndW.t {e : Expr} {f : List Sl → Fd → R Bool} (h : SndW X W e f) : SndT X W e f := by
  obtain ⟨t, p, q⟩ := h.ex
  exact ⟨t, p.pt, q⟩
theorem sndw_and1 {a : Expr} {pos : Pos} {f : List Sl → Fd → R Bool} (h : SndT X W a f) : SndW X W (.BoolOp .And [a] pos) f := by
  obtain ⟨t, p, q⟩ := h.ex
  exact ⟨t, pw_and1 p, q⟩
theorem sndw_or1 {a : Expr} {pos : Pos} {f : List Sl → Fd → R Bool} (h : SndT X W a f) : SndW X W (.BoolOp .Or [a] pos) f := by
  obtain ⟨t, p, q⟩ := h.ex
  exact ⟨t, pw_or1 p, q⟩
theorem sndw_and {a b : Expr} {rest : List Expr} {pos : Pos} {f g : List Sl → Fd → R Bool} (ha : SndT X W a f) (hb : SndW X W (.BoolOp .And (b :: rest) pos) g) : SndW X W (.BoolOp .And (a :: b :: rest) pos) (andT f g) := by
  obtain ⟨t1, p1, q1⟩ := ha.ex
  obtain ⟨t2, p2, q2⟩ := hb.ex
  refine ⟨_, pw_and p1 p2, fun fa σ H G sl fd Q E k => ?_⟩
  refine q1 fa σ H G sl fd _ E (Post.bind k (fun _ _ _ _ _ _ r => r) fun b fd1 x H1 G1 E1 S1 r1 k1 => ?_)
  cases r1
  cases b with
  | true => exact q2 fa σ H1 G1 sl fd1 Q E1 k1
  | false => exact k1 _ H1 G1 E1 Step.refl rfl
theorem sndw_or {a b : Expr} {rest : List Expr} {pos : Pos} {f g : List Sl → Fd → R Bool} (ha : SndT X W a f) (hb : SndW X W (.BoolOp .Or (b :: rest) pos) g) : SndW X W (.BoolOp .Or (a :: b :: rest) pos) (orT f g) := by
  obtain ⟨t1, p1, q1⟩ := ha.ex
  obtain ⟨t2, p2, q2⟩ := hb.ex
  refine ⟨_, pw_or p1 p2, fun fa σ H G sl fd Q E k => ?_⟩
  refine q1 fa σ H G sl fd _ E (Post.bind k (fun _ _ _ _ _ _ r => r) fun b fd1 x H1 G1 E1 S1 r1 k1 => ?_)
  cases r1
  cases b with
  | true => exact k1 _ H1 G1 E1 Step.refl rfl
  | false => exact q2 fa σ H1 G1 sl fd1 Q E1 k1
theorem snd_notT {a : Expr} {pos : Pos} {f : List Sl → Fd → R Bool} (h : SndT X W a f) : SndT X W (.UnaryOp .Not a pos) fun sl fd => (f sl fd).bind fun b fd => .ok (!b) fd := by
  obtain ⟨t, p, q⟩ := h.ex
  refine ⟨_, pt_not p, fun fa σ H G sl fd Q E k => ?_⟩
  refine q fa σ H G sl fd _ E (Post.bind k (fun _ _ _ _ _ _ r => r) fun b fd1 x H1 G1 E1 S1 r1 k1 => ?_)
  cases r1
  exact k1 _ H1 G1 E1 Step.refl rfl
theorem snd_not {a : Expr} {pos : Pos} {f : List Sl → Fd → R D} (h : SndE X W a f) : SndE X W (.UnaryOp .Not a pos) fun sl fd => (f sl fd).bind fun d fd => match d with
    | .bool b => .ok (.bool (!b)) fd
    | _ => .bad := by
  obtain ⟨t, p, q⟩ := h.ex
  refine ⟨_, pe_not p, fun fa σ H G sl fd Q E k => ?_⟩
  refine q fa σ H G sl fd _ E (Post.bindE k fun d fd1 x H1 G1 E1 S1 r1 k1 => ?_)
  split at k1
  · cases r1
    exact ⟨_, rfl, k1 _ H1 G1 E1 Step.refl (.bl _)⟩
  · exact k1.elim
theorem snd_neg {a : Expr} {pos : Pos} {f : List Sl → Fd → R D} (h : SndE X W a f) : SndE X W (.UnaryOp .USub a pos) fun sl fd => (f sl fd).bind fun d fd => match d with
    | .int i => .ok (.int (-i)) fd
    | _ => .bad := by
  obtain ⟨t, p, q⟩ := h.ex
  refine ⟨_, pe_un un_neg p, fun fa σ H G sl fd Q E k => ?_⟩
  refine q fa σ H G sl fd _ E (Post.bindE k fun d fd1 x H1 G1 E1 S1 r1 k1 => ?_)
  split at k1
  · cases r1
    exact ⟨_, rfl, k1 _ H1 G1 E1 Step.refl (.int _)⟩
  · exact k1.elim
theorem snd_ite {c a b : Expr} {pos : Pos} {fc : List Sl → Fd → R Bool} {f g : List Sl → Fd → R Sl} (hc : SndT X W c fc) (ha : SndR X W a f) (hb : SndR X W b g) :
    SndR X W (.IfExp c a b pos) fun sl fd => (fc sl fd).bind fun b fd1 => if b = true then f sl fd1 else g sl fd1 := by
  obtain ⟨t0, p0, q0⟩ := hc.ex
  obtain ⟨t1, p1, q1⟩ := ha.ex
  obtain ⟨t2, p2, q2⟩ := hb.ex
  refine ⟨_, pe_ifExp p0 p1 p2, fun fa σ H G sl fd Q E k => ?_⟩
  refine q0 fa σ H G sl fd _ E (Post.bindR k fun b fd1 x H1 G1 E1 S1 r1 k1 => ?_)
  cases r1
  cases b with
  | true => exact q1 fa σ H1 G1 sl fd1 Q E1 k1
  | false => exact q2 fa σ H1 G1 sl fd1 Q E1 k1

/-! ### displays -/
theorem snda_nil : SndA X W [] fun _ fd => .ok [] fd := ⟨tNil, pa_nil, fun fa σ H G sl fd Q E k => k [] H G E Step.refl .nil⟩
theorem snda_cons {e : Expr} {es : List Expr} {f : List Sl → Fd → R D} {fs : List Sl → Fd → R (List D)} (he : SndE X W e f) (hs : SndA X W es fs)
    (hst : starEach (e :: es) X.env = (false, eval e X.env) :: starEach es X.env) : SndA X W (e :: es) fun sl fd => (f sl fd).bind fun p fd1 => (fs sl fd1).bind fun ps fd2 => .ok (p :: ps) fd2 := by
  obtain ⟨t1, p1, q1⟩ := he.ex
  obtain ⟨t2, p2, q2⟩ := hs.ex
  refine ⟨_, pa_cons p1 p2 hst, fun fa σ H G sl fd Q E k => ?_⟩
  refine q1 fa σ H G sl fd _ E (Post.bind k (fun _ _ _ _ _ _ r => r) fun p fd1 x H1 G1 E1 S1 r1 k1 => ?_)
  refine q2 fa σ H1 G1 sl fd1 _ E1 (Post.bind k1 (fun _ _ _ _ _ _ r => r) fun ps fd2 xs H2 G2 E2 S2 r2 k2 => ?_)
  exact k2 _ H2 G2 E2 Step.refl (.cons (Rep.mono S2.sub r1) r2)
theorem snd_tup {es : List Expr} {k : Nat} {pos : Pos} {fs : List Sl → Fd → R (List D)} (h : SndA X W es fs) : SndR X W (.Tuple es k pos) fun sl fd => (fs sl fd).bind fun ds fd1 => if ds.length ≤ sizeLine then .ok (.val (.tuple ds)) fd1 else .bad := by
  obtain ⟨t, p, q⟩ := h.ex
  refine ⟨_, pe_tup p, fun fa σ H G sl fd Q E k => ?_⟩
  refine q fa σ H G sl fd _ E (Post.bindR k fun ds fd1 xs H1 G1 E1 S1 r1 k1 => ?_)
  split at k1
  · rename_i hz
    have r1 : RepA X.K G1 xs ds := r1
    exact ⟨by rw [r1.length]; exact hz, fun p hp => (Out.post E1 k1).newT E1.gh r1 p hp⟩
  · exact k1.elim
theorem snd_lst {es : List Expr} {pos : Pos} {fs : List Sl → Fd → R (List D)} (h : SndA X W es fs) : SndR X W (.List es pos) fun sl fd => (fs sl fd).bind fun ds fd1 => if ds.length ≤ sizeLine then .ok (.lst ds) fd1 else .bad := by
  obtain ⟨t, p, q⟩ := h.ex
  refine ⟨_, pe_lst p, fun fa σ H G sl fd Q E k => ?_⟩
  refine q fa σ H G sl fd _ E (Post.bindR k fun ds fd1 xs H1 G1 E1 S1 r1 k1 => ?_)
  split at k1
  · rename_i hz
    have r1 : RepA X.K G1 xs ds := r1
    exact ⟨by rw [r1.length]; exact hz, fun p hp => (Out.post E1 k1).newL E1.gh r1 p hp⟩
  · exact k1.elim
theorem Out.newK {K : Frag} {H G : Hp} {Q : VK} (k : Out K H G (.dK []) Q) (gh : Sub G H) (p : Addr) (hp : H p = none) : Q (.ref p) (upd H p (.dK [])) := by
  have S := Step.own (fa := none) (G := G) (o := HO.dK []) hp
  refine k _ _ _ Sub.refl (gh.own hp) (fun b o e => S.keep b o e (by simp)) S.new S.tp ⟨p, rfl, hp, ?_, ⟨[], upd_same, .nil⟩⟩
  cases q : G p with
  | none => rfl
  | some u => rw [gh _ _ q] at hp; cases hp
theorem Out.newT0 {K : Frag} {H G : Hp} {Q : VK} (k : Out K H G (.dT []) Q) (gh : Sub G H) (p : Addr) (hp : H p = none) : Q (.ref p) (upd H p (.dT [])) := by
  have S := Step.own (fa := none) (G := G) (o := HO.dT []) hp
  refine k _ _ _ Sub.refl (gh.own hp) (fun b o e => S.keep b o e (by simp)) S.new S.tp ⟨p, rfl, hp, ?_, ⟨[], upd_same, .nil⟩⟩
  cases q : G p with
  | none => rfl
  | some u => rw [gh _ _ q] at hp; cases hp
theorem snd_dK {pos : Pos} : SndR X W (.Dict [] [] pos) fun _ fd => .ok (.dK []) fd := ⟨_, pe_dnewK, fun fa σ H G sl fd Q E k p hp => (Out.post E k).newK E.gh p hp⟩
theorem snd_dT {pos : Pos} : SndR X W (.Dict [] [] pos) fun _ fd => .ok (.dT []) fd := ⟨_, pe_dnewT, fun fa σ H G sl fd Q E k p hp => (Out.post E k).newT0 E.gh p hp⟩

/-! ### subscripts, slices, isinstance -/
theorem snd_idx {a b : Expr} {pos : Pos} {f g : List Sl → Fd → R Pk} (hu : X.A.units + 1 < cLine) (ha : SndP X W a f) (hb : SndP X W b g) (hs : PlainIx b) :
    SndR X W (.Subscript a b pos) fun sl fd => (f sl fd).bind fun p fd1 => (g sl fd1).bind fun q fd2 => match lookP sl fd2 p, lookP sl fd2 q with
      | some dx, some dy => R.opt ((idxD dx dy).map Sl.val) fd2
      | _, _ => .bad := snd_op (fun ta tb pa pb => pe_ix (ix_X hu) pa pb hs) ha hb (hg_idx)
def partE (f : Option (List Sl → Fd → R D)) (sl : List Sl) (fd : Fd) : R (Option Int) := match f with
  | none => .ok none fd
  | some f => (f sl fd).bind fun d fd => match d with
    | .int i => .ok (some i) fd
    | _ => .bad
structure SndO (X : Cx) (W : WX) (e : Option Expr) (f : Option (List Sl → Fd → R D)) : Prop where
  ex : ∃ t, PO X e t ∧ ∀ fa σ H G sl fd Q, EN X.K fa σ H G sl fd → Post X W fa σ H G sl (partE f sl fd) SameR Q → t σ H Q
theorem sndo_none : SndO X W none none := ⟨_, po_none, fun fa σ H G sl fd Q E k => k none H G E Step.refl rfl⟩
theorem sndo_some {e : Expr} {f : List Sl → Fd → R D} (h : SndE X W e f) : SndO X W (some e) (some f) := by
  obtain ⟨t, p, q⟩ := h.ex
  refine ⟨_, po_some p, fun fa σ H G sl fd Q E k => ?_⟩
  refine q fa σ H G sl fd _ E (Post.bind (show Post X W fa σ H G sl ((f sl fd).bind _) SameR Q from k) (fun _ _ _ _ _ _ r => r) fun d fd1 x H1 G1 E1 S1 r1 k1 => ?_)
  split at k1
  · cases r1
    exact ⟨_, rfl, k1 _ H1 G1 E1 Step.refl rfl⟩
  · exact k1.elim
theorem snd_sli {e : Expr} {lo hi : Option Expr} {p2 pos : Pos} {f : List Sl → Fd → R Pk} {fl fh : Option (List Sl → Fd → R D)} (he : SndP X W e f) (hl : SndO X W lo fl) (hh : SndO X W hi fh) :
    SndR X W (.Subscript e (.Slice lo hi none p2) pos) fun sl fd => (f sl fd).bind fun p fd1 => (partE fl sl fd1).bind fun l fd2 => (partE fh sl fd2).bind fun h fd3 => match lookP sl fd3 p with
      | some d => R.opt (sliD l h d) fd3
      | none => .bad := by
  obtain ⟨t0, p0, q0⟩ := he.ex
  obtain ⟨t1, p1, q1⟩ := hl.ex
  obtain ⟨t2, p2', q2⟩ := hh.ex
  refine ⟨_, pe_slice sl_X p0 p1 p2', fun fa σ H G sl fd Q E k => ?_⟩
  refine q0 fa σ H G sl fd _ E (Post.bindR k fun p fd1 x H1 G1 E1 S1 r1 k1 => ?_)
  refine q1 fa σ H1 G1 sl fd1 _ E1 (Post.bindR k1 fun l fd2 l' H2 G2 E2 S2 r2 k2 => ?_)
  cases r2
  refine q2 fa σ H2 G2 sl fd2 _ E2 (Post.bindR k2 fun h fd3 h' H3 G3 E3 S3 r3 k3 => ?_)
  cases r3
  cases hd : lookP sl fd3 p with
  | none => simp only [hd] at k3; exact k3.elim
  | some d =>
    simp only [hd] at k3
    cases hs : sliD l h d with
    | none => rw [hs] at k3; exact k3.elim
    | some s =>
      rw [hs] at k3
      exact hg_sli l h H3 G3 x d s Q E3.gh (look_ok E3 ((r1.step S2.sub).step S3.sub) hd) hs (Out.post E3 k3)
def isi1 (T : String) : D → Option Bool := fun d => if noScr d = true then some (isiD d T) else none
theorem snd_isi {a : Expr} {T : String} {x : Str} {p px pos : Pos} {f : List Sl → Fd → R Pk} (ha : SndP X W a f) (hT : isiT T = true) (hg : Gl X "isinstance") (hm : X.mg "isinstance" = none) (hgT : Gl X x) (hmT : X.mg x = none)
    (hbT : bootBuiltins x = some (.type T)) (hn : x ≠ "__name__") (hd : (x == ("__debug__" : Str)) = false) (hst : starEach [a, .Name x px] X.env = (false, eval a X.env) :: starEach [.Name x px] X.env) :
    SndR X W (.Call (.Name "isinstance" p) [a, .Name x px] [] pos) fun sl fd => (f sl fd).bind fun q fd1 => match lookP sl fd1 q with
      | some d => R.opt (blO (isi1 T d)) fd1
      | none => .bad := by
  obtain ⟨t, p0, q0⟩ := ha.ex
  refine ⟨_, pe_callB call_isi hg hm (by decide +kernel) (pa_cons p0 (pa_cons (pe_bltn (v := .ty T) hgT hmT hbT rfl hn hd) pa_nil rfl) hst) (by decide) (by decide) hst rfl, fun fa σ H G sl fd Q E k => ?_⟩
  refine q0 fa σ H G sl fd _ E (Post.bindR k fun q fd1 v H1 G1 E1 S1 r1 k1 => ?_)
  cases hd : lookP sl fd1 q with
  | none => simp only [hd] at k1; exact k1.elim
  | some d =>
    simp only [hd] at k1
    unfold isi1 at k1
    split at k1
    · rename_i ns
      exact ⟨v, .ty T, _, _, _, rfl, .ty T, ty_ok E1.gh (look_ok E1 r1 hd) ns, kit_ty (kit_isi d T hT), Out.val (Out.post E1 k1) E1.gh (.bl _)⟩
    · exact k1.elim
end
end PD

/-! PD9: methods that read, calls of defs. -/
namespace PD
open PySem PySem.Spec PyProof.Rows L2

section
variable {X : Cx} {W : WX}
/-! ### methods -/
def getE (f g : List Sl → Fd → R Pk) (h : List Sl → Fd → R D) (sl : List Sl) (fd : Fd) : R Sl := (f sl fd).bind fun p fd1 => match (lookP sl fd1 p).bind dparts with
  | none => .bad
  | some _ => (g sl fd1).bind fun q fd2 => (h sl fd2).bind fun z fd3 => match lookP sl fd3 p, lookP sl fd3 q with
    | some d, some k => match dgetD d k with
      | some o => .ok (.val (o.getD z)) fd3
      | none => .bad
    | _, _ => .bad
theorem isD_ok {K : Frag} {H G : Hp} {v : V} {d : D} (gh : Sub G H) (h : CRep K H G v d) (hp : (dparts d).isSome = true) : ∃ a, v = .ref a ∧ IsD H a := by
  rcases h with h | ⟨a, s', rfl, o, e⟩
  · cases h with
    | dK h t => exact ⟨_, rfl, .inl ⟨_, .inl (gh _ _ h)⟩⟩
    | dT h t => exact ⟨_, rfl, .inr ⟨_, .inl (gh _ _ h)⟩⟩
    | _ => cases hp
  · cases s' with
    | lst xs => injection e with e; subst e; cases hp
    | dK xs => obtain ⟨kvs, q, r⟩ := o; exact ⟨a, rfl, .inl ⟨_, .inl q⟩⟩
    | dT xs => obtain ⟨kvs, q, r⟩ := o; exact ⟨a, rfl, .inr ⟨_, .inl q⟩⟩
    | _ => exact o.elim
theorem snd_get {o e z : Expr} {apos cpos : Pos} {f g : List Sl → Fd → R Pk} {h : List Sl → Fd → R D} (hu : X.A.units + 1 < cLine) (ho : SndP X W o f) (he : SndP X W e g) (hz : SndE X W z h) (m : M2 X o "get" apos e z cpos) :
    SndR X W (.Call (.Attribute o "get" apos) [e, z] [] cpos) (getE f g h) := by
  obtain ⟨t0, p0, q0⟩ := ho.ex
  obtain ⟨t1, p1, q1⟩ := he.ex
  obtain ⟨t2, p2, q2⟩ := hz.ex
  refine ⟨_, pe_dget2 hu p0 p1 p2 m, fun fa σ H G sl fd Q E k => ?_⟩
  refine q0 fa σ H G sl fd _ E (Post.bindR k fun p fd1 x H1 G1 E1 S1 r1 k1 => ?_)
  cases hp : (lookP sl fd1 p).bind dparts with
  | none => simp only [hp] at k1; exact k1.elim
  | some te =>
    simp only [hp] at k1
    obtain ⟨d, hd, hte⟩ := Option.bind_eq_some_iff.mp hp
    obtain ⟨a, rfl, isd⟩ := isD_ok E1.gh (look_ok E1 r1 hd) (by rw [hte]; rfl)
    refine ⟨a, rfl, isd, ?_⟩
    refine q1 fa σ H1 G1 sl fd1 _ E1 (Post.bindR k1 fun q fd2 y H2 G2 E2 S2 r2 k2 => ?_)
    refine q2 fa σ H2 G2 sl fd2 _ E2 (Post.bindR k2 fun z' fd3 zv H3 G3 E3 S3 r3 k3 => ?_)
    cases h1 : lookP sl fd3 p with
    | none => simp only [h1] at k3; exact k3.elim
    | some d' =>
      cases h2 : lookP sl fd3 q with
      | none => simp only [h1, h2] at k3; exact k3.elim
      | some kk =>
        simp only [h1, h2] at k3
        cases h3 : dgetD d' kk with
        | none => simp only [h3] at k3; exact k3.elim
        | some oo =>
          simp only [h3] at k3
          obtain ⟨a', r, ea, g, orr⟩ := dget_ok E3.gh (look_ok E3 ((r1.step S2.sub).step S3.sub) h1) (look_ok E3 (r2.step S3.sub) h2) h3
          cases ea
          refine ⟨r, g, ?_⟩
          cases orr with
          | none => exact Out.val (Out.post E3 k3) E3.gh r3
          | some rv => exact Out.val (Out.post E3 k3) E3.gh rv
def joinD (a : Str) : D → Option Sl
  | .list ds => (strs? ds).bind fun ys => if (ys.map (·.length)).sum + ys.length * a.length ≤ 16777216 then some (.val (.str (Txt.join a ys))) else none
  | .tuple ds => (strs? ds).bind fun ys => if (ys.map (·.length)).sum + ys.length * a.length ≤ 16777216 then some (.val (.str (Txt.join a ys))) else none
  | _ => none
def splitD (a : Str) : D → Option Sl
  | .str b => if ((b.length == 0) = false) ∧ a.length + 2 ≤ sizeLine then some (.lst ((Txt.split a b).map .str)) else none
  | _ => none
/-- a method of a text with one operand -/
def strM (g : Str → D → Option Sl) (f h : List Sl → Fd → R Pk) (sl : List Sl) (fd : Fd) : R Sl := (f sl fd).bind fun p fd1 => match lookP sl fd1 p with
  | some (.str a) => (h sl fd1).bind fun q fd2 => match lookP sl fd2 q with
    | some d => R.opt (g a d) fd2
    | none => .bad
  | _ => .bad
theorem strM_q {r : V → List V → Hp → VK → Prop} {g : Str → D → Option Sl} {to te : TE} {f h : List Sl → Fd → R Pk}
    (q0 : ∀ fa σ H G sl fd Q, EN X.K fa σ H G sl fd → Post X W fa σ H G sl (f sl fd) (PkR X.K σ) Q → to σ H Q)
    (q1 : ∀ fa σ H G sl fd Q, EN X.K fa σ H G sl fd → Post X W fa σ H G sl (h sl fd) (PkR X.K σ) Q → te σ H Q)
    (hg : ∀ H G a y d s Q, Sub G H → CRep X.K H G y d → g a d = some s → Out X.K H G s Q → r (.str a) [y] H Q) :
    ∀ fa σ H G sl fd Q, EN X.K fa σ H G sl fd → Post X W fa σ H G sl (strM g f h sl fd) (ResOk X.K) Q → tM1 r to te σ H Q := by
  intro fa σ H G sl fd Q E k
  refine q0 fa σ H G sl fd _ E (Post.bindR (show Post X W fa σ H G sl ((f sl fd).bind _) (ResOk X.K) Q from k) fun p fd1 x H1 G1 E1 S1 r1 k1 => ?_)
  split at k1
  · rename_i a ha
    have ex := (look_ok E1 r1 ha).str
    subst ex
    refine ⟨⟨a, rfl⟩, ?_⟩
    refine q1 fa σ H1 G1 sl fd1 _ E1 (Post.bindR k1 fun q fd2 y H2 G2 E2 S2 r2 k2 => ?_)
    cases h2 : lookP sl fd2 q with
    | none => simp only [h2] at k2; exact k2.elim
    | some d =>
      simp only [h2] at k2
      cases hs : g a d with
      | none => rw [hs] at k2; exact k2.elim
      | some s =>
        rw [hs] at k2
        exact hg H2 G2 a y d s Q E2.gh (look_ok E2 r2 h2) hs (Out.post E2 k2)
  · exact k1.elim
theorem snd_join {o e : Expr} {apos pos : Pos} {f h : List Sl → Fd → R Pk} (ho : SndP X W o f) (he : SndP X W e h) (hs : starEach [e] X.env = [(false, eval e X.env)]) (hbase : attributeBase o "join" X.env (eval o X.env) = eval o X.env)
    (hline : (apos.endLine == pos.line) = true) : SndR X W (.Call (.Attribute o "join" apos) [e] [] pos) (strM joinD f h) := by
  obtain ⟨t0, p0, q0⟩ := ho.ex
  obtain ⟨t1, p1, q1⟩ := he.ex
  refine ⟨_, pe_join p0 p1 hs hbase hline, strM_q q0 q1 fun H G a y d s Q gh hy e k => ?_⟩
  unfold joinD at e
  split at e
  · obtain ⟨ys, hys, e⟩ := Option.bind_eq_some_iff.mp e
    split at e
    · injection e with e; subst e
      obtain ⟨p, vs, rfl, hp, rv⟩ := hy.list gh
      have ev := strs_of rv hys
      subst ev
      exact ⟨a, p, ys, rfl, rfl, .inl (.of hp), by assumption, k.val gh (.str _)⟩
    · cases e
  · obtain ⟨ys, hys, e⟩ := Option.bind_eq_some_iff.mp e
    split at e
    · injection e with e; subst e
      obtain ⟨p, vs, rfl, hp, rv⟩ := hy.tup
      have ev := strs_of rv hys
      subst ev
      exact ⟨a, p, ys, rfl, rfl, .inr (.of (gh _ _ hp)), by assumption, k.val gh (.str _)⟩
    · cases e
  · cases e
theorem snd_split {o e : Expr} {apos pos : Pos} {f h : List Sl → Fd → R Pk} (ho : SndP X W o f) (he : SndP X W e h) (hs : starEach [e] X.env = [(false, eval e X.env)]) (hbase : attributeBase o "split" X.env (eval o X.env) = eval o X.env)
    (hline : (apos.endLine == pos.line) = true) : SndR X W (.Call (.Attribute o "split" apos) [e] [] pos) (strM splitD f h) := by
  obtain ⟨t0, p0, q0⟩ := ho.ex
  obtain ⟨t1, p1, q1⟩ := he.ex
  refine ⟨_, pe_split p0 p1 hs hbase hline, strM_q q0 q1 fun H G a y d s Q gh hy e k => ?_⟩
  unfold splitD at e
  split at e
  · split at e
    · rename_i hc
      injection e with e; subst e
      have ey := hy.str
      subst ey
      exact ⟨a, _, rfl, rfl, hc.1, hc.2, fun p hp => k.newL gh (strs_repT _) p hp⟩
    · cases e
  · cases e

/-! ### calls -/
abbrev Fm := List Sl → Fd → R Sl
def Sl.arg : Sl → Bool
  | .val _ => true
  | .fd => true
  | _ => false
/-- what a def promises: its answer is m's -/
def spD (K : Frag) (mg : Str → Option Value) (n : Nat) (m : Fm) : Sp := fun vs H Q E => ∃ fa G as fd, EN K fa (vs.map some) H G as fd ∧ (fd = none → fa = none) ∧ (as.all Sl.arg) = true ∧ as.length = vs.length ∧ vs.length = n ∧ match m as fd with
  | .bad => False
  | .ok s fd' => ∀ v H' G', Step fa G H G' H' → Sub G' H' → FdOk K fa H' G' fd' → ResOk K H H' G' v s → Q v H'
  | .exc c fd' => ∀ dx H' G', Step fa G H G' H' → Sub G' H' → FdOk K fa H' G' fd' → E (excV mg c) dx H'
/-- a def of the module keeps its promise -/
structure FnF (P : Program) (w : World) (K : Frag) (mg : Str → Option Value) (base : Heap) (k : Nat) (x : Str) (n : Nat) (m : Fm) : Prop where
  ex : ∃ f fd ps, ps.length = n ∧ FnOk P w K mg base (L2.CX P w) k f fd ps (spD K mg n m) ∧ mg x = some (.ref f) ∧ PySem.W.keepIn K (.ref f) = true ∧ Binds K fd ps []
def callE (m : Fm) (as : List Sl) (fd : Fd) : R Sl := if (as.any fun s => match s with | .fd => true | _ => false) = true then (match fd with
    | some (p, xs) => match m as (some (true, xs)) with
      | .ok s (some (_, ys)) => .ok s (some (p, ys))
      | .exc c (some (_, ys)) => .exc c (some (p, ys))
      | _ => .bad
    | none => .bad) else match m as none with
  | .ok s _ => .ok s fd
  | .exc c _ => .exc c fd
  | .bad => .bad
/-- an argument -/
def ArgOk (K : Frag) (fa : Option Addr) (G : Hp) (v : V) : Sl → Prop
  | .val d => Rep K G v d
  | .fd => ∃ a, fa = some a ∧ v = .ref a
  | _ => False
inductive ArgsOk (K : Frag) (fa : Option Addr) (G : Hp) : List V → List Sl → Prop
  | nil : ArgsOk K fa G [] []
  | cons {v : V} {vs : List V} {s : Sl} {ss : List Sl} : ArgOk K fa G v s → ArgsOk K fa G vs ss → ArgsOk K fa G (v :: vs) (s :: ss)
theorem ArgOk.step {K : Frag} {fa : Option Addr} {G G' : Hp} {v : V} {s : Sl} (h : ArgOk K fa G v s) (q : Sub G G') : ArgOk K fa G' v s := by
  cases s with
  | val d => exact Rep.mono q h
  | fd => exact h
  | _ => exact h.elim
structure SndG (X : Cx) (W : WX) (es : List Expr) (f : List Sl → Fd → R (List Sl)) : Prop where
  ex : ∃ t, PA X es t ∧ ∀ fa σ H G sl fd Q, EN X.K fa σ H G sl fd → Post X W fa σ H G sl (f sl fd) (fun _ _ G vs ss => ArgsOk X.K fa G vs ss) Q → t σ H Q
theorem sndg_nil : SndG X W [] fun _ fd => .ok [] fd := ⟨tNil, pa_nil, fun fa σ H G sl fd Q E k => k [] H G E Step.refl .nil⟩
/-- one argument: the def's feed, or a value -/
structure SndG1 (X : Cx) (W : WX) (e : Expr) (f : List Sl → Fd → R Sl) : Prop where
  ex : ∃ t, PE X e t ∧ ∀ fa σ H G sl fd Q, EN X.K fa σ H G sl fd → Post X W fa σ H G sl (f sl fd) (fun _ _ G v s => ArgOk X.K fa G v s) Q → t σ H Q
theorem SndE.g1 {e : Expr} {f : List Sl → Fd → R D} (h : SndE X W e f) : SndG1 X W e fun sl fd => (f sl fd).bind fun d fd => .ok (.val d) fd := by
  obtain ⟨t, p, q⟩ := h.ex
  refine ⟨t, p, fun fa σ H G sl fd Q E k => q fa σ H G sl fd Q E ?_⟩
  revert k
  cases f sl fd with
  | bad => exact fun k => k
  | ok d fd => exact fun k => k
  | exc c fd => exact fun k => k
theorem snd_gvar {i : Nat} {x : Str} {pos : Pos} (hN : X.N[i]? = some x) (hv : Vis X.env.scope x) (hd : (x == ("__debug__" : Str)) = false) (hcd : (x == ("__classdict__" : Str)) = false) :
    SndG1 X W (.Name x pos) fun sl fd => match sl[i]? with
      | some (.val d) => .ok (.val d) fd
      | some .fd => .ok .fd fd
      | _ => .bad := by
  refine ⟨tVar i, pe_var hN hv hd hcd, fun fa σ H G sl fd Q E k => ?_⟩
  cases q : sl[i]? with
  | none => simp only [q] at k; exact k.elim
  | some s =>
    simp only [q] at k
    have so := E.slot i s q
    cases s with
    | val d => obtain ⟨x, e, r⟩ := so; exact ⟨x, e, k x H G E Step.refl r⟩
    | fd => obtain ⟨a, e1, e⟩ := so; exact ⟨_, e, k _ H G E Step.refl ⟨a, e1, rfl⟩⟩
    | _ => exact k.elim
theorem sndg_cons {e : Expr} {es : List Expr} {f : List Sl → Fd → R Sl} {fs : List Sl → Fd → R (List Sl)} (he : SndG1 X W e f) (hs : SndG X W es fs)
    (hst : starEach (e :: es) X.env = (false, eval e X.env) :: starEach es X.env) : SndG X W (e :: es) fun sl fd => (f sl fd).bind fun p fd1 => (fs sl fd1).bind fun ps fd2 => .ok (p :: ps) fd2 := by
  obtain ⟨t1, p1, q1⟩ := he.ex
  obtain ⟨t2, p2, q2⟩ := hs.ex
  refine ⟨_, pa_cons p1 p2 hst, fun fa σ H G sl fd Q E k => ?_⟩
  refine q1 fa σ H G sl fd _ E (Post.bind k (fun _ _ _ _ _ _ r => r) fun p fd1 x H1 G1 E1 S1 r1 k1 => ?_)
  refine q2 fa σ H1 G1 sl fd1 _ E1 (Post.bind k1 (fun _ _ _ _ _ _ r => r) fun ps fd2 xs H2 G2 E2 S2 r2 k2 => ?_)
  exact k2 _ H2 G2 E2 Step.refl (.cons (r1.step S2.sub) r2)
theorem ArgsOk.all {K : Frag} {fa : Option Addr} {G : Hp} : ∀ {vs : List V} {ss : List Sl}, ArgsOk K fa G vs ss → (ss.all Sl.arg) = true ∧ ss.length = vs.length ∧
    ∀ (i : Nat) s, ss[i]? = some s → ∃ v, vs[i]? = some v ∧ ArgOk K fa G v s
  | _, _, .nil => ⟨rfl, rfl, fun i s e => by simp at e⟩
  | _, _, .cons (s := s) h t => by
    obtain ⟨a, b, c⟩ := ArgsOk.all t
    refine ⟨?_, by simp [b], fun i s' e => ?_⟩
    · rw [List.all_cons, a, Bool.and_true]
      cases s <;> first | rfl | exact h.elim
    · cases i with
      | zero => simp at e; subst e; exact ⟨_, rfl, h⟩
      | succ i => obtain ⟨v, e1, e2⟩ := c i s' (by simpa using e); exact ⟨v, by simpa using e1, e2⟩
theorem argsEN {K : Frag} {fa : Option Addr} {σ : St} {H G : Hp} {sl : List Sl} {fd : Fd} {vs : List V} {ss : List Sl} (E : EN K fa σ H G sl fd) (h : ArgsOk K fa G vs ss) {fa' : Option Addr} {fd' : Fd} (hf : (fa' = fa ∧ FdOk K fa H G fd') ∨ (fa' = none ∧ fd' = none ∧ ∀ s ∈ ss, s ≠ .fd)) :
    EN K fa' (vs.map some) H G ss fd' := by
  obtain ⟨h1, h2, h3⟩ := h.all
  have arg : ∀ (i : Nat) s, ss[i]? = some s → s.own = false := fun i s e => by
    have := List.all_eq_true.mp h1 s (List.mem_of_getElem? e)
    cases s <;> first | rfl | cases this
  refine ⟨by rw [List.length_map, h2]; exact Nat.le_refl _, E.gh, fun i s e => ?_, fun i j a o1 o2 => ?_, fun a e => ?_, ?_, E.tp⟩
  · obtain ⟨v, e1, e2⟩ := h3 i s e
    have ev : (vs.map some)[i]? = some (some v) := by rw [List.getElem?_map, e1]; rfl
    cases s with
    | val d => exact ⟨v, ev, e2⟩
    | fd =>
      obtain ⟨a, e3, e4⟩ := e2
      rcases hf with ⟨rfl, _⟩ | ⟨_, _, hn⟩
      · subst e4; exact ⟨a, e3, ev⟩
      · exact absurd rfl (hn _ (List.mem_of_getElem? e))
    | _ => exact e2.elim
  · obtain ⟨_, s, e1, e2⟩ := o1
    rw [arg i s e1] at e2; cases e2
  · rcases hf with ⟨rfl, _⟩ | ⟨rfl, _, _⟩
    · obtain ⟨g, o, _⟩ := E.fdis a e
      refine ⟨g, o, fun i ⟨_, s, e1, e2⟩ => ?_⟩
      rw [arg i s e1] at e2; cases e2
    · cases e
  · rcases hf with ⟨rfl, hf⟩ | ⟨rfl, rfl, _⟩
    · exact hf
    · intro p ds e; cases e
theorem call_core {n : Nat} {m : Fm} {fa : Option Addr} {σ : St} {H1 G1 : Hp} {sl : List Sl} {fd1 : Fd} {vs : List V} {as : List Sl} {Q : VK} (E1 : EN X.K fa σ H1 G1 sl fd1) (r1 : ArgsOk X.K fa G1 vs as)
    (k1 : Post X W fa σ H1 G1 sl (if as.length = n then callE m as fd1 else .bad) (ResOk X.K) Q) : spD X.K X.mg n m vs H1 Q (WE W σ) := by
  obtain ⟨h1, h2, h3⟩ := r1.all
  split at k1
  · rename_i hlen
    unfold callE at k1
    split at k1
    · cases hfd : fd1 with
      | none => simp only [hfd] at k1; exact k1.elim
      | some w =>
        obtain ⟨pf, xs⟩ := w
        simp only [hfd] at k1
        have fo : FdOk X.K fa H1 G1 (some (true, xs)) := fun p ds e => by
          injection e with e; injection e with _ e; subst e
          exact E1.fdo pf xs hfd
        refine ⟨fa, G1, as, some (true, xs), argsEN E1 r1 (.inl ⟨rfl, fo⟩), (fun z => nomatch z), h1, h2, by rw [← h2]; exact hlen, ?_⟩
        have upf : ∀ {H2 G2 : Hp} {p' : Bool} {ys : List D}, FdOk X.K fa H2 G2 (some (p', ys)) → FdOk X.K fa H2 G2 (some (pf, ys)) := fun h p ds e => by
          injection e with e; injection e with _ e; subst e
          exact h _ _ rfl
        cases hm2 : m as (some (true, xs)) with
        | bad => simp only [hm2] at k1; exact k1.elim
        | ok s fd2 =>
          simp only [hm2] at k1 ⊢
          cases fd2 with
          | none => exact k1.elim
          | some w2 =>
            obtain ⟨p2, ys⟩ := w2
            intro v H2 G2 S2 s2 f2 r2
            exact k1 v H2 G2 (E1.step S2 s2 (upf f2)) S2 r2
        | exc c fd2 =>
          simp only [hm2] at k1 ⊢
          cases fd2 with
          | none => exact k1.elim
          | some w2 =>
            obtain ⟨p2, ys⟩ := w2
            intro dx H2 G2 S2 s2 f2
            exact k1 dx H2 G2 (E1.step S2 s2 (upf f2)) S2
    · rename_i hno
      have nofd : ∀ s ∈ as, s ≠ .fd := fun s hs e => by
        subst e
        exact hno (List.any_eq_true.mpr ⟨_, hs, rfl⟩)
      refine ⟨none, G1, as, none, argsEN E1 r1 (.inr ⟨rfl, rfl, nofd⟩), (fun _ => rfl), h1, h2, by rw [← h2]; exact hlen, ?_⟩
      have lift : ∀ {G2 H2 : Hp}, Step none G1 H1 G2 H2 → Step fa G1 H1 G2 H2 := fun S => ⟨S.sub, fun b o e _ => S.keep b o e (by simp), S.new, fun a o _ e => ⟨o, S.keep a o e (by simp)⟩, S.tp⟩
      cases hm2 : m as none with
      | bad => simp only [hm2] at k1; exact k1.elim
      | ok s fd2 =>
        simp only [hm2] at k1 ⊢
        intro v H2 G2 S2 s2 f2 r2
        exact k1 v H2 G2 (E1.step (lift S2) s2 (E1.fdo.step (lift S2) fun a _ o e => S2.keep a o e (by simp))) (lift S2) r2
      | exc c fd2 =>
        simp only [hm2] at k1 ⊢
        intro dx H2 G2 S2 s2 f2
        exact k1 dx H2 G2 (E1.step (lift S2) s2 (E1.fdo.step (lift S2) fun a _ o e => S2.keep a o e (by simp))) (lift S2)
  · exact k1.elim
theorem snd_call {k n : Nat} {x : Str} {m : Fm} {p pos : Pos} {e : Expr} {es : List Expr} {fs : List Sl → Fd → R (List Sl)} (tk : Takes X W) (F : FnF X.prog X.w X.K X.mg X.base k x n m) (hr : Room k X.A) (hg : Gl X x) (hdb : (x == ("__debug__" : Str)) = false)
    (ha : SndG X W (e :: es) fs) (he : starEach (e :: es) X.env = (false, eval e X.env) :: starEach es X.env) (hpl : (backTo pos (starEach es X.env)).any (·.1) = false) :
    SndR X W (.Call (.Name x p) (e :: es) [] pos) fun sl fd => (fs sl fd).bind fun as fd1 => if as.length = n then callE m as fd1 else .bad := by
  obtain ⟨t, p0, q0⟩ := ha.ex
  obtain ⟨f, fd0, ps, hps, ok, hm, hk, hb⟩ := F.ex
  refine ⟨_, pe_callS ok hr hg hm hk hb (fun σ => passAt tk σ) p0 hdb he hpl, fun fa σ H G sl fd Q E k => ?_⟩
  refine q0 fa σ H G sl fd _ E (Post.bindR k fun as fd1 vs H1 G1 E1 S1 r1 k1 => ?_)
  exact call_core E1 r1 k1
end
end PD

/-! PD10: what loops walk; comprehensions. -/
namespace PD
open PySem PySem.Spec PyProof.Rows L2

/-- an iterator's turns are these data -/
def ItOk (K : Frag) (fa : Option Addr) (H1 G1 : Hp) (J : It) (fz : Bool) (ds : List D) : Prop := ∀ (i : Nat) (Gc Hc : Hp), Sub G1 Gc → Sub Gc Hc → (fz = false → ∀ b o, H1 b = some o → fa ≠ some b → Hc b = some o) →
  (∀ d, ds[i]? = some d → J.go i Hc ∧ ∀ x Hx, J.yld i Hc x Hx → ∃ Gx, Sub Gc Gx ∧ Sub Gx Hx ∧ (∀ b o, Hc b = some o → Hx b = some o) ∧ (∀ b o, Gx b = some o → Gc b = some o ∨ Hc b = none) ∧ (TP Gc Hc → TP Gx Hx) ∧ Rep K Gx x d) ∧ (ds.length ≤ i → J.stop i Hc)
def ItR (K : Frag) (fa : Option Addr) (_ H G : Hp) (J : It) (p : Bool × List D) : Prop := ItOk K fa H G J p.1 p.2
section
variable {X : Cx} {W : WX}
structure SndI (X : Cx) (W : WX) (tg iter : Expr) (f : List Sl → Fd → R (Bool × List D)) : Prop where
  ex : ∃ wi, PI X tg iter wi ∧ ∀ fa σ H G sl fd (R' : It → Hp → Prop), EN X.K fa σ H G sl fd → Post X W fa σ H G sl (f sl fd) (ItR X.K fa) R' → wi σ H R'
/-- a list, a tuple, a text, whichever it is -/
def iSeq (K : Frag) (tl : TE) : TI := fun σ H R => tl σ H fun x H1 => (∃ a, x = .ref a ∧ (∃ xs, SqL K H1 a xs) ∧ R (Itl K a) H1) ∨ ((∃ a, x = .ref a ∧ (∃ xs, SqT K H1 a xs) ∧ R (Itt K a) H1) ∨ ∃ z, x = .str z ∧ R (Its z) H1)
theorem pi_seq {tg l : Expr} {tl : TE} (hl : PE X l tl) : PI X tg l (iSeq X.K tl) := by
  refine ⟨fun pins s σ H R I h => thn (hl.run pins s σ H _ I h) fun v s1 ⟨x, H1, I1, r1, q1⟩ => ?_⟩
  rcases q1 with ⟨a, rfl, ⟨xs, hq⟩, q⟩ | ⟨a, rfl, ⟨xs, hq⟩, q⟩ | ⟨z, rfl, q⟩
  · cases r1
    obtain ⟨its, rv, p, _⟩ := I1.list hq
    exact wpAny_pyIter_list p.isList (pi_one (tk := s1.toks) I1 _ (turn_list a _) ⟨_, Heap.get?_push_size _ rfl, rfl, rfl⟩ q)
  · cases r1
    obtain ⟨its, rv, p, _⟩ := I1.tuple hq
    exact wpAny_pyIter_tuple (show s1.heap.IsTuple a its.toArray from p) (pi_one (tk := s1.toks) I1 _ (turn_tuple a _) ⟨_, Heap.get?_push_size _ rfl, rfl, rfl⟩ q)
  · obtain ⟨t, rfl⟩ := r1
    cases ha : z.cps.all (· < 128)
    · exact wpAny_pyIter_wide ha (pi_one (tk := s1.toks) I1 _ (turn_str _ z t "str_iterator" (.inr rfl)) ⟨_, Heap.get?_push_size _ rfl, rfl, rfl⟩ q)
    · exact wpAny_pyIter_ascii ha (pi_one (tk := s1.toks) I1 _ (turn_str _ z t "str_ascii_iterator" (.inl rfl)) ⟨_, Heap.get?_push_size _ rfl, rfl, rfl⟩ q)
/-- the items that a datum gives -/
def itemsD : D → Option (List D)
  | .list ds => some ds
  | .tuple ds => some ds
  | .str z => some (z.cps.toList.map fun c => .str ⟨#[c]⟩)
  | .dict [(.none, .list ns)] => some ns
  | _ => none
def fzP (sl : List Sl) : Pk → Bool
  | .dt _ => true
  | .sl i => match sl[i]? with
    | some (.val _) => true
    | _ => false
def notFd (sl : List Sl) : Pk → Bool
  | .dt _ => true
  | .sl i => match sl[i]? with
    | some .fd => false
    | _ => true
theorem SqL_inj {K : Frag} {H : Hp} : True := trivial
theorem it_list {K : Frag} {fa : Option Addr} {H1 G1 : Hp} {a : Addr} {vs : List V} {ds : List D} {fz : Bool} (hs : ∀ Gc Hc, Sub G1 Gc → Sub Gc Hc → (fz = false → ∀ b o, H1 b = some o → fa ≠ some b → Hc b = some o) → SqL K Hc a vs) (r : RepA K G1 vs ds) :
    ItOk K fa H1 G1 (Itl K a) fz ds := by
  intro i Gc Hc s1 s2 k
  have q := hs Gc Hc s1 s2 k
  refine ⟨fun d hd => ?_, fun hl => ⟨vs, q, by rw [r.length]; exact hl⟩⟩
  obtain ⟨v, hv, rv⟩ := r.get hd
  refine ⟨⟨vs, v, q, hv⟩, fun x Hx y => ?_⟩
  obtain ⟨rfl, y⟩ := y
  have := y vs q
  rw [hv] at this; cases this
  exact ⟨Gc, Sub.refl, s2, fun _ _ h => h, fun _ _ h => .inl h, id, rv.mono s1⟩
theorem it_tup {K : Frag} {fa : Option Addr} {H1 G1 : Hp} {a : Addr} {vs : List V} {ds : List D} {fz : Bool} (hs : G1 a = some (.tup vs)) (r : RepA K G1 vs ds) :
    ItOk K fa H1 G1 (Itt K a) fz ds := by
  intro i Gc Hc s1 s2 k
  have q : SqT K Hc a vs := .of (s2 _ _ (s1 _ _ hs))
  refine ⟨fun d hd => ?_, fun hl => ⟨vs, q, by rw [r.length]; exact hl⟩⟩
  obtain ⟨v, hv, rv⟩ := r.get hd
  refine ⟨⟨vs, v, q, hv⟩, fun x Hx y => ?_⟩
  obtain ⟨rfl, y⟩ := y
  have := y vs q
  rw [hv] at this; cases this
  exact ⟨Gc, Sub.refl, s2, fun _ _ h => h, fun _ _ h => .inl h, id, rv.mono s1⟩
theorem it_str {K : Frag} {fa : Option Addr} {H1 G1 : Hp} {z : Str} {fz : Bool} : ItOk K fa H1 G1 (Its z) fz (z.cps.toList.map fun c => .str ⟨#[c]⟩) := by
  intro i Gc Hc s1 s2 k
  refine ⟨fun d hd => ?_, fun hl => ?_⟩
  · rw [List.getElem?_map, Array.getElem?_toList] at hd
    obtain ⟨c, hc, rfl⟩ := Option.map_eq_some_iff.mp hd
    refine ⟨?_, fun x Hx y => ?_⟩
    · have := Array.getElem?_eq_some_iff.mp hc
      exact this.1
    · obtain ⟨rfl, c', hc', rfl⟩ := y
      rw [hc] at hc'; cases hc'
      exact ⟨Gc, Sub.refl, s2, fun _ _ h => h, fun _ _ h => .inl h, id, .str _⟩
  · show z.cps.size ≤ i
    simpa using hl
theorem fz_rep {K : Frag} {fa : Option Addr} {σ : St} {H G : Hp} {sl : List Sl} {fd : Fd} {v : V} {p : Pk} {d : D} (E : EN K fa σ H G sl fd) (h : PkOk K σ G v p) (e : lookP sl fd p = some d) (f : fzP sl p = true) : Rep K G v d := by
  cases p with
  | dt d' => injection e with e; subst e; exact h
  | sl i =>
    have h : σ[i]? = some (some v) := h
    unfold lookP at e
    unfold fzP at f
    cases q : sl[i]? with
    | none => simp only [q] at f; cases f
    | some s =>
      have so := E.slot i s q
      rw [h] at so
      simp only [q] at e f
      cases s with
      | val d' =>
        injection e with e; subst e
        obtain ⟨x, e, r⟩ := so
        injection e with e; injection e with e; subst e
        exact r
      | _ => cases f
theorem own_rep {K : Frag} {fa : Option Addr} {σ : St} {H G : Hp} {sl : List Sl} {fd : Fd} {v : V} {p : Pk} {ds : List D} (E : EN K fa σ H G sl fd) (h : PkOk K σ G v p) (e : lookP sl fd p = some (.list ds)) (nf : notFd sl p = true) :
    ∃ a vs, v = .ref a ∧ H a = some (.lst vs) ∧ RepA K G vs ds ∧ fa ≠ some a := by
  cases p with
  | dt d' =>
    injection e with e; subst e
    cases (show Rep K G v (.list ds) from h) with
    | lst h1 t => exact ⟨_, _, rfl, E.gh _ _ h1, t, fun z => by have := (E.fdis _ z).1; rw [h1] at this; cases this⟩
  | sl i =>
    have h : σ[i]? = some (some v) := h
    unfold lookP at e
    unfold notFd at nf
    cases q : sl[i]? with
    | none => simp only [q] at e; cases e
    | some s =>
      have so := E.slot i s q
      have so0 := so
      rw [h] at so
      simp only [q] at e nf
      cases s with
      | no => cases e
      | val d' =>
        injection e with e; subst e
        obtain ⟨x, e, r⟩ := so
        injection e with e; injection e with e; subst e
        cases r with
        | lst h1 t => exact ⟨_, _, rfl, E.gh _ _ h1, t, fun z => by have := (E.fdis _ z).1; rw [h1] at this; cases this⟩
      | fd => cases nf
      | lst xs =>
        injection e with e; injection e with e; subst e
        obtain ⟨a, e1, g, vs, o, r⟩ := so
        injection e1 with e1; injection e1 with e1; subst e1
        exact ⟨a, vs, rfl, o, r, fun z => (E.fdis a z).2.2 i ⟨h, _, q, rfl⟩⟩
      | dK xs => injection e with e; cases e
      | dT xs => injection e with e; cases e
def seqE (f : List Sl → Fd → R Pk) (sl : List Sl) (fd : Fd) : R (Bool × List D) := (f sl fd).bind fun p fd1 => match lookP sl fd1 p with
  | some d => match itemsD d with
    | some ds => if notFd sl p = true then .ok (fzP sl p, ds) fd1 else .bad
    | none => .bad
  | none => .bad
theorem snd_seq {tg e : Expr} {f : List Sl → Fd → R Pk} (h : SndP X W e f) : SndI X W tg e (seqE f) := by
  obtain ⟨t, p, q⟩ := h.ex
  refine ⟨_, pi_seq p, fun fa σ H G sl fd R' E k => ?_⟩
  unfold seqE at k
  refine q fa σ H G sl fd _ E (Post.bind k (fun _ _ _ _ _ _ r => r) fun p fd1 v H1 G1 E1 S1 r1 k1 => ?_)
  cases hd : lookP sl fd1 p with
  | none => simp only [hd] at k1; exact k1.elim
  | some d =>
    simp only [hd] at k1
    cases hi : itemsD d with
    | none => simp only [hi] at k1; exact k1.elim
    | some ds =>
      simp only [hi] at k1
      split at k1
      · rename_i nf
        unfold itemsD at hi
        split at hi
        · injection hi with hi; subst hi
          obtain ⟨a, vs, rfl, ha, rv, na⟩ := own_rep E1 r1 hd nf
          refine .inl ⟨a, rfl, ⟨vs, .of ha⟩, k1 _ H1 G1 E1 Step.refl (it_list (vs := vs) (fun Gc Hc s1 s2 kk => ?_) rv)⟩
          cases hz : fzP sl p with
          | false => exact .of (kk hz _ _ ha na)
          | true =>
            have := fz_rep E1 r1 hd hz
            cases this with
            | lst h t =>
              have := E1.gh _ _ h
              rw [ha] at this; cases this
              exact .of (s2 _ _ (s1 _ _ h))
        · injection hi with hi; subst hi
          obtain ⟨a, vs, rfl, ha, rv⟩ := (look_ok E1 r1 hd).tup
          exact .inr (.inl ⟨a, rfl, ⟨vs, .of (E1.gh _ _ ha)⟩, k1 _ H1 G1 E1 Step.refl (it_tup ha rv)⟩)
        · injection hi with hi; subst hi
          have ev := (look_ok E1 r1 hd).str
          subst ev
          exact .inr (.inr ⟨_, rfl, k1 _ H1 G1 E1 Step.refl it_str⟩)
        · rename_i ns0
          injection hi with hi; subst hi
          have cr := look_ok E1 r1 hd
          have key : ∀ {es : List (D × D)} {ns : List D}, Rep X.K G1 v (.dict es) → es = [(.none, .list ns)] → ∃ (a : Addr) (ms : List Int), v = .ref a ∧ ns = ms.map PyData.int ∧ SqL X.K G1 a (ms.map V.int) := fun {es ns} h e => by
            generalize e2 : PyData.dict es = w at h
            cases h with
            | dK h t => injection e2 with e2; subst e2; subst e; exact (repK_non t).elim
            | dT h t => injection e2 with e2; rw [e] at e2; injection e2 with e2; injection e2 with e2; cases e2
            | scr h =>
              injection e2 with e2; rw [e] at e2; injection e2 with e2; injection e2 with _ e2; injection e2 with e2
              exact ⟨_, _, rfl, e2, h⟩
            | _ => cases e2
          have main : ∃ (a : Addr) (ms : List Int), v = .ref a ∧ ns0 = ms.map PyData.int ∧ SqL X.K G1 a (ms.map V.int) := by
            rcases cr with h | ⟨a, s', rfl, ow, ef⟩
            · exact key h rfl
            · cases s' with
              | lst xs => injection ef with ef; cases ef
              | dK es => injection ef with ef; injection ef with ef; subst ef; obtain ⟨kvs, _, rr⟩ := ow; exact (repK_non rr).elim
              | dT es => injection ef with ef; injection ef with ef; injection ef with ef; injection ef with ef; cases ef
              | _ => exact ow.elim
          obtain ⟨a, ms, rfl, ed, hs⟩ := main
          subst ed
          exact .inl ⟨a, rfl, ⟨_, E1.gh.sqL hs⟩, k1 _ H1 G1 E1 Step.refl (it_list (fun Gc Hc s1 s2 kk => s2.sqL (s1.sqL hs)) (ints_rep ms))⟩
        · cases hi
      · exact k1.elim
/-! ### ranges -/
def rangeD (a b : Int) : List D := (List.range (b - a).toNat).map fun (i : Nat) => PyData.int (a + i)
theorem it_rng {K : Frag} {fa : Option Addr} {H1 G1 : Hp} {fz : Bool} {lo hi : Int} : ItOk K fa H1 G1 (Itr lo (hi - lo).toNat) fz (rangeD lo hi) := by
  intro i Gc Hc s1 s2 k
  refine ⟨fun d hd => ?_, fun hl => ?_⟩
  · unfold rangeD at hd
    rw [List.getElem?_map] at hd
    obtain ⟨j, hj, rfl⟩ := Option.map_eq_some_iff.mp hd
    obtain ⟨hlt, ej⟩ := List.getElem?_eq_some_iff.mp hj
    rw [List.getElem_range] at ej
    subst ej
    have hlt : i < (hi - lo).toNat := by rw [List.length_range] at hlt; exact hlt
    refine ⟨hlt, fun x Hx y => ?_⟩
    obtain ⟨rfl, rfl⟩ := y
    exact ⟨Gc, Sub.refl, s2, fun _ _ h => h, fun _ _ h => .inl h, id, .int _⟩
  · unfold rangeD at hl
    show (hi - lo).toNat ≤ i
    rw [List.length_map, List.length_range] at hl
    exact hl
def smallI (i : Int) : Bool := decide (i.natAbs < 4611686018427387904)
def rng1E (f : List Sl → Fd → R (List D)) (sl : List Sl) (fd : Fd) : R (Bool × List D) := (f sl fd).bind fun ds fd1 => match ds with
  | [.int j] => if smallI j = true then .ok (true, rangeD 0 j) fd1 else .bad
  | _ => .bad
def rng2E (f : List Sl → Fd → R (List D)) (sl : List Sl) (fd : Fd) : R (Bool × List D) := (f sl fd).bind fun ds fd1 => match ds with
  | [.int i, .int j] => if (smallI i && smallI j) = true then .ok (true, rangeD i j) fd1 else .bad
  | _ => .bad
theorem small_pow {i : Int} (h : smallI i = true) : -(2 ^ 62) ≤ i ∧ i < 2 ^ 62 := by
  unfold smallI at h
  simp only [decide_eq_true_eq] at h
  have e : (2 : Int) ^ 62 = 4611686018427387904 := by decide
  rw [e]
  omega
theorem snd_rng1 {tg a : Expr} {p pos : Pos} {f : List Sl → Fd → R (List D)} (hg : Gl X "range") (hm : X.mg "range" = none) (ha : SndA X W [a] f) (hs : starEach [a] X.env = [(false, eval a X.env)]) :
    SndI X W tg (.Call (.Name "range" p) [a] [] pos) (rng1E f) := by
  obtain ⟨t, pa, q⟩ := ha.ex
  refine ⟨_, pi_range1 hg hm pa hs, fun fa σ H G sl fd R' E k => ?_⟩
  unfold rng1E at k
  refine q fa σ H G sl fd _ E (Post.bind k (fun _ _ _ _ _ _ r => r) fun ds fd1 vs H1 G1 E1 S1 r1 k1 => ?_)
  split at k1
  · split at k1
    · rename_i j hj
      cases r1 with
      | cons h t =>
        cases t
        cases h
        obtain ⟨b1, b2⟩ := small_pow hj
        have := k1 (Itr 0 (j - 0).toNat) H1 G1 E1 Step.refl it_rng
        rw [Int.sub_zero] at this
        exact ⟨j, rfl, b1, b2, this⟩
    · exact k1.elim
  · exact k1.elim
theorem snd_rng2 {tg a b : Expr} {p pos : Pos} {f : List Sl → Fd → R (List D)} (hg : Gl X "range") (hm : X.mg "range" = none) (ha : SndA X W [a, b] f) (hs : starEach [a, b] X.env = [(false, eval a X.env), (false, eval b X.env)])
    (hs2 : starEach [b] X.env = [(false, eval b X.env)]) : SndI X W tg (.Call (.Name "range" p) [a, b] [] pos) (rng2E f) := by
  obtain ⟨t, pa, q⟩ := ha.ex
  refine ⟨_, pi_range2 hg hm pa hs hs2, fun fa σ H G sl fd R' E k => ?_⟩
  unfold rng2E at k
  refine q fa σ H G sl fd _ E (Post.bind k (fun _ _ _ _ _ _ r => r) fun ds fd1 vs H1 G1 E1 S1 r1 k1 => ?_)
  split at k1
  · split at k1
    · rename_i i j hj
      obtain ⟨h1, h2⟩ := Bool.and_eq_true_iff.mp hj
      cases r1 with
      | cons h t =>
        cases t with
        | cons h' t =>
          cases t
          cases h
          cases h'
          obtain ⟨b1, b2⟩ := small_pow h1
          obtain ⟨b3, b4⟩ := small_pow h2
          exact ⟨i, j, rfl, ⟨b1, b2, b3, b4⟩, k1 _ H1 G1 E1 Step.refl it_rng⟩
    · exact k1.elim
  · exact k1.elim
end
end PD

/-! PD11: targets, list comprehensions. -/
namespace PD
open PySem PySem.Spec PyProof.Rows L2

/-! ### setting slots -/
section
variable {K : Frag} {fa : Option Addr} {σ : St} {H G : Hp} {sl : List Sl} {fd : Fd}
theorem getset_eq {α : Type} {l : List α} {i j : Nat} {x y : α} (h : (l.set i x)[j]? = some y) : (i = j ∧ y = x ∧ i < l.length) ∨ (i ≠ j ∧ l[j]? = some y) := by
  by_cases e : i = j
  · subst e
    by_cases hi : i < l.length
    · rw [List.getElem?_set_self hi] at h; cases h; exact .inl ⟨rfl, rfl, hi⟩
    · rw [List.getElem?_eq_none (by simpa using hi)] at h; cases h
  · rw [List.getElem?_set_ne e] at h; exact .inr ⟨e, h⟩
theorem ownAt_set {i j : Nat} {a : Addr} {v : Option V} {s : Sl} (h : OwnAt (σ.set i v) (sl.set i s) j a) : (i = j ∧ s.own = true ∧ v = some (.ref a)) ∨ (i ≠ j ∧ OwnAt σ sl j a) := by
  obtain ⟨e1, s', e2, o⟩ := h
  rcases getset_eq e1 with ⟨rfl, ev, _⟩ | ⟨n, e1⟩
  · rcases getset_eq e2 with ⟨_, es, _⟩ | ⟨n, _⟩
    · subst es; exact .inl ⟨rfl, o, ev.symm⟩
    · exact absurd rfl n
  · rcases getset_eq e2 with ⟨e, _, _⟩ | ⟨_, e2⟩
    · exact absurd e n
    · exact .inr ⟨n, e1, s', e2, o⟩
/-- a slot that is no owner's is set -/
theorem EN.setV (E : EN K fa σ H G sl fd) (i : Nat) {v : Option V} {s : Sl} (ho : s.own = false) (ok : SlOk K fa H G s (some v)) : EN K fa (σ.set i v) H G (sl.set i s) fd where
  len := by rw [List.length_set, List.length_set]; exact E.len
  gh := E.gh
  slot := fun j s' e => by
    rcases getset_eq e with ⟨rfl, rfl, hi⟩ | ⟨n, e⟩
    · rw [List.getElem?_set_self (Nat.lt_of_lt_of_le hi E.len)]; exact ok
    · rw [List.getElem?_set_ne n]; exact E.slot j s' e
  dis := fun j k a h1 h2 => by
    rcases ownAt_set h1 with ⟨_, o, _⟩ | ⟨_, h1⟩
    · rw [ho] at o; cases o
    · rcases ownAt_set h2 with ⟨_, o, _⟩ | ⟨_, h2⟩
      · rw [ho] at o; cases o
      · exact E.dis j k a h1 h2
  fdis := fun a e => by
    obtain ⟨g, o, n⟩ := E.fdis a e
    refine ⟨g, o, fun j h => ?_⟩
    rcases ownAt_set h with ⟨_, o, _⟩ | ⟨_, h⟩
    · rw [ho] at o; cases o
    · exact n j h
  fdo := E.fdo
  tp := E.tp
/-- a slot is set to an owner of an object that no one has -/
theorem EN.setO (E : EN K fa σ H G sl fd) (i : Nat) {a : Addr} {s : Sl} (ho : s.own = true) (ga : G a = none) (oo : OwnO K H G a s) (nf : fa ≠ some a) (nn : ∀ j, ¬ OwnAt σ sl j a) : EN K fa (σ.set i (some (.ref a))) H G (sl.set i s) fd where
  len := by rw [List.length_set, List.length_set]; exact E.len
  gh := E.gh
  slot := fun j s' e => by
    rcases getset_eq e with ⟨rfl, rfl, hi⟩ | ⟨n, e⟩
    · rw [List.getElem?_set_self (Nat.lt_of_lt_of_le hi E.len)]
      exact (SlOk.ofOwn ho).mpr ⟨a, rfl, ga, oo⟩
    · rw [List.getElem?_set_ne n]; exact E.slot j s' e
  dis := fun j k b h1 h2 => by
    rcases ownAt_set h1 with ⟨e1, _, v1⟩ | ⟨_, h1⟩
    · rcases ownAt_set h2 with ⟨e2, _, _⟩ | ⟨_, h2⟩
      · exact e1.symm.trans e2
      · injection v1 with v1; injection v1 with v1; subst v1; exact absurd h2 (nn k)
    · rcases ownAt_set h2 with ⟨_, _, v2⟩ | ⟨_, h2⟩
      · injection v2 with v2; injection v2 with v2; subst v2; exact absurd h1 (nn j)
      · exact E.dis j k b h1 h2
  fdis := fun b e => by
    obtain ⟨g, o, n⟩ := E.fdis b e
    refine ⟨g, o, fun j h => ?_⟩
    rcases ownAt_set h with ⟨_, _, v1⟩ | ⟨_, h⟩
    · injection v1 with v1; injection v1 with v1; subst v1; exact nf e
    · exact n j h
  fdo := E.fdo
  tp := E.tp
def wipeS (sl : List Sl) : List Nat → List Sl
  | [] => sl
  | v :: vs => (wipeS sl vs).set v .no
theorem EN.wipe (E : EN K fa σ H G sl fd) : ∀ vs : List Nat, EN K fa (L2.wipe σ vs) H G (wipeS sl vs) fd
  | [] => E
  | v :: vs => (EN.wipe E vs).setV v rfl trivial
end

/-! ### targets -/
section
variable {X : Cx} {W : WX}
/-- a target takes a datum; only slots of I change -/
structure SndTg (X : Cx) (tg : Expr) (I : List Nat) (f : D → List Sl → Option (List Sl)) : Prop where
  ex : ∃ g, PG X tg g ∧ ∀ fa σ H G sl fd v d sl' (Q : St → Hp → Prop), EN X.K fa σ H G sl fd → Rep X.K G v d → f d sl = some sl' →
    (∀ σ', EN X.K fa σ' H G sl' fd → σ'.length = σ.length → (∀ i, i ∉ I → σ'[i]? = σ[i]? ∧ sl'[i]? = sl[i]?) → (∀ i a, OwnAt σ' sl' i a → OwnAt σ sl i a) → Q σ' H) → g v σ H Q
theorem sndt_name {i : Nat} {x : Str} {pos : Pos} (hN : X.N.Nodup) (hi : X.N[i]? = some x) (hx : Loc X.env.scope x) (hf : X.fn x = true ∨ X.env.scope.names.lookup x = some .local) :
    SndTg X (.Name x pos) [i] fun d sl => some (sl.set i (.val d)) := by
  refine ⟨_, pg_name hN hi hx hf, fun fa σ H G sl fd v d sl' Q E r e k => ?_⟩
  injection e with e; subst e
  refine k _ (E.setV i rfl ⟨v, rfl, r⟩) (by rw [List.length_set]) (fun j hj => ?_) fun j a h => ?_
  · have n : i ≠ j := fun z => hj (by simp [z])
    exact ⟨List.getElem?_set_ne n, List.getElem?_set_ne n⟩
  · rcases ownAt_set h with ⟨_, o, _⟩ | ⟨_, o⟩
    · cases o
    · exact o
structure SndTgs (X : Cx) (ts : List Expr) (I : List Nat) (f : List D → List Sl → Option (List Sl)) : Prop where
  ex : ∃ g, PGs X ts g ∧ ∀ fa σ H G sl fd vs ds sl' (Q : St → Hp → Prop), EN X.K fa σ H G sl fd → RepA X.K G vs ds → f ds sl = some sl' →
    (∀ σ', EN X.K fa σ' H G sl' fd → σ'.length = σ.length → (∀ i, i ∉ I → σ'[i]? = σ[i]? ∧ sl'[i]? = sl[i]?) → (∀ i a, OwnAt σ' sl' i a → OwnAt σ sl i a) → Q σ' H) → g vs σ H Q
theorem sndts_nil : SndTgs X [] [] fun ds sl => match ds with
    | [] => some sl
    | _ => none := by
  refine ⟨_, pgs_nil, fun fa σ H G sl fd vs ds sl' Q E r e k => ?_⟩
  cases r with
  | nil => injection e with e; subst e; exact ⟨rfl, k σ E rfl (fun _ _ => ⟨rfl, rfl⟩) fun _ _ h => h⟩
  | cons _ _ => cases e
theorem sndts_cons {e : Expr} {es : List Expr} {I J : List Nat} {f : D → List Sl → Option (List Sl)} {fs : List D → List Sl → Option (List Sl)} (h1 : SndTg X e I f) (h2 : SndTgs X es J fs)
    (hs : (assignEach (e :: es) X.env).map (·.2) = assign e X.env :: (assignEach es X.env).map (·.2)) : SndTgs X (e :: es) (I ++ J) fun ds sl => match ds with
    | d :: ds => (f d sl).bind (fs ds)
    | _ => none := by
  obtain ⟨g1, p1, q1⟩ := h1.ex
  obtain ⟨g2, p2, q2⟩ := h2.ex
  refine ⟨_, pgs_cons p1 p2 hs, fun fa σ H G sl fd vs ds sl' Q E r e k => ?_⟩
  cases r with
  | nil => cases e
  | @cons v vs d ds r rr =>
    obtain ⟨sl1, e1, e2⟩ := Option.bind_eq_some_iff.mp e
    refine ⟨v, vs, rfl, q1 fa σ H G sl fd v d sl1 _ E r e1 fun σ1 E1 l1 k1 o1 => ?_⟩
    refine q2 fa σ1 H G sl1 fd vs ds sl' _ E1 rr e2 fun σ2 E2 l2 k2 o2 => ?_
    refine k σ2 E2 (l2.trans l1) (fun i hi => ?_) fun i a h => o1 i a (o2 i a h)
    rw [List.mem_append, not_or] at hi
    exact ⟨(k2 i hi.2).1.trans (k1 i hi.1).1, (k2 i hi.2).2.trans (k1 i hi.1).2⟩
theorem sndt_tup {es : List Expr} {k : Nat} {pos : Pos} {I : List Nat} {fs : List D → List Sl → Option (List Sl)} (hc : X.calm = true) (h : SndTgs X es I fs) (hn : (assignEach es X.env).length = es.length)
    (hst : (assignEach es X.env).findIdx? (·.1) = none) : SndTg X (.Tuple es k pos) I fun d sl => match d with
    | .tuple ds => if ds.length = es.length then fs ds sl else none
    | _ => none := by
  obtain ⟨g, p, q⟩ := h.ex
  refine ⟨_, pg_tup hc p hn hst, fun fa σ H G sl fd v d sl' Q E r e k => ?_⟩
  split at e
  · split at e
    · rename_i hl
      cases r with
      | tup hr rr => exact ⟨_, _, rfl, .of (E.gh _ _ hr), by rw [rr.length]; exact hl, q fa σ H G sl fd _ _ sl' Q E rr e k⟩
    · cases e
  · cases e
theorem wipe_eq {σ σ' : St} (hl : σ'.length = σ.length) : ∀ {vs : List Nat}, (∀ i, i ∉ vs → σ'[i]? = σ[i]?) → L2.wipe σ' vs = L2.wipe σ vs := by
  intro vs h
  apply List.ext_getElem?
  intro i
  by_cases hi : i ∈ vs
  · have key : ∀ (τ : St) (ws : List Nat), i ∈ ws → i < τ.length → (L2.wipe τ ws)[i]? = some none := by
      intro τ ws
      induction ws with
      | nil => intro h; cases h
      | cons w ws ih =>
        intro hm hlt
        unfold L2.wipe
        by_cases e : w = i
        · subst e
          rw [List.getElem?_set_self (by rw [wipe_length]; exact hlt)]
        · rw [List.getElem?_set_ne e]
          rcases List.mem_cons.mp hm with z | z
          · exact absurd z.symm e
          · exact ih z hlt
    by_cases hlt : i < σ.length
    · rw [key σ' vs hi (by omega), key σ vs hi hlt]
    · rw [List.getElem?_eq_none (by rw [wipe_length]; omega), List.getElem?_eq_none (by rw [wipe_length]; omega)]
  · rw [wipe_out hi, wipe_out hi]
    exact h i hi

/-! ### canonical readings -/
def crE (X : Cx) (W : WX) (f : List Sl → Fd → R D) : TE := fun σ H Q => ∃ fa G sl fd, EN X.K fa σ H G sl fd ∧ Post X W fa σ H G sl (f sl fd) (RepR X.K) Q
def crT (X : Cx) (W : WX) (f : List Sl → Fd → R Bool) : TT := fun σ H Q => ∃ fa G sl fd, EN X.K fa σ H G sl fd ∧ Post X W fa σ H G sl (f sl fd) SameR Q
def crG (X : Cx) (f : D → List Sl → Option (List Sl)) (I : List Nat) : TG := fun v σ H Q => ∃ fa G sl fd d sl', EN X.K fa σ H G sl fd ∧ Rep X.K G v d ∧ f d sl = some sl' ∧
  ∀ σ', EN X.K fa σ' H G sl' fd → σ'.length = σ.length → (∀ i, i ∉ I → σ'[i]? = σ[i]? ∧ sl'[i]? = sl[i]?) → (∀ i a, OwnAt σ' sl' i a → OwnAt σ sl i a) → Q σ' H
theorem SndE.canon {e : Expr} {f : List Sl → Fd → R D} (h : SndE X W e f) : PE X e (crE X W f) := by
  obtain ⟨t, p, q⟩ := h.ex
  exact ⟨fun pins s σ H Q I ⟨fa, G, sl, fd, E, k⟩ => p.run pins s σ H Q I (q fa σ H G sl fd Q E k)⟩
theorem SndT.canon {e : Expr} {f : List Sl → Fd → R Bool} (h : SndT X W e f) : PT X e (crT X W f) := by
  obtain ⟨t, p, q⟩ := h.ex
  exact ⟨fun pins s σ H Q I ⟨fa, G, sl, fd, E, k⟩ => p.run pins s σ H Q I (q fa σ H G sl fd Q E k)⟩
theorem SndTg.canon {e : Expr} {I : List Nat} {f : D → List Sl → Option (List Sl)} (h : SndTg X e I f) : PG X e (crG X f I) := by
  obtain ⟨g, p, q⟩ := h.ex
  exact ⟨fun pins s σ H v u Q II r ⟨fa, G, sl, fd, d, sl', E, rr, e, k⟩ => p.run pins s σ H v u Q II r (q fa σ H G sl fd v d sl' Q E rr e k)⟩
structure SndTs (X : Cx) (W : WX) (ifs : List Expr) (f : List Sl → Fd → R Bool) : Prop where
  ex : PTs X ifs (crT X W f)
theorem sndts0 : SndTs X W [] fun _ fd => .ok true fd := ⟨⟨fun pins s σ H Q I ⟨fa, G, sl, fd, E, k⟩ => pts_nil.run pins s σ H Q I (k true H G E Step.refl rfl)⟩⟩
theorem sndts1 {c : Expr} {f : List Sl → Fd → R Bool} (h : SndT X W c f) : SndTs X W [c] f := ⟨pts_one h.canon⟩

/-! ### list comprehensions -/
abbrev W0 : WX := fun _ _ _ _ => False
def lcGo (ft : D → List Sl → Option (List Sl)) (fT : List Sl → Fd → R Bool) (fE : List Sl → Fd → R D) (sl : List Sl) : List D → Fd → R (List D)
  | [], fd => .ok [] fd
  | d :: ds, fd => match ft d sl with
    | none => .bad
    | some sl2 => match fT sl2 fd with
      | .ok b fd1 => if b = true then (match fE sl2 fd1 with
          | .ok x fd2 => (lcGo ft fT fE sl ds fd2).bind fun xs fd3 => .ok (x :: xs) fd3
          | _ => .bad) else lcGo ft fT fE sl ds fd1
      | _ => .bad
def lcE (own : List Nat) (fi : List Sl → Fd → R (Bool × List D)) (ft : D → List Sl → Option (List Sl)) (fT : List Sl → Fd → R Bool) (fE : List Sl → Fd → R D) (sl : List Sl) (fd : Fd) : R Sl :=
  (fi sl fd).bind fun p fd1 => if p.2.length ≤ sizeLine then (lcGo ft fT fE (wipeS sl own) p.2 fd1).bind fun ds fd2 => .ok (.lst ds) fd2 else .bad
theorem Post.weak {α β : Type} {fa : Option Addr} {σ : St} {H G : Hp} {sl : List Sl} {r : R α} {rel : Hp → Hp → Hp → β → α → Prop} {Q Q' : β → Hp → Prop} (h : Post X W fa σ H G sl r rel Q) (k : ∀ v H, Q v H → Q' v H) : Post X W fa σ H G sl r rel Q' := by
  cases r with
  | bad => exact h
  | ok a fd => exact fun v H' G' E S r => k _ _ (h v H' G' E S r)
  | exc c fd => exact h
theorem wipe_eq' {σ σ2 : St} {own I : List Nat} {sl sl2 : List Sl} (l2 : σ2.length = (L2.wipe σ own).length) (hI : ∀ i ∈ I, i ∈ own) (k2 : ∀ i, i ∉ I → σ2[i]? = (L2.wipe σ own)[i]? ∧ sl2[i]? = sl[i]?) : L2.wipe σ2 own = L2.wipe σ own := by
  rw [wipe_length] at l2
  refine wipe_eq l2 fun i hi => ?_
  rw [(k2 i fun z => hi (hI i z)).1, wipe_out hi]
/-- the reading of a comprehension's loop -/
theorem lc_q {wi : TI} {own : List Nat} {I : List Nat} {fi : List Sl → Fd → R (Bool × List D)} {ft : D → List Sl → Option (List Sl)} {fT : List Sl → Fd → R Bool} {fE : List Sl → Fd → R D}
    (qi : ∀ fa σ H G sl fd (R' : It → Hp → Prop), EN X.K fa σ H G sl fd → Post X W fa σ H G sl (fi sl fd) (ItR X.K fa) R' → wi σ H R') (hI : ∀ i ∈ I, i ∈ own) :
    ∀ fa σ H G sl fd Q, EN X.K fa σ H G sl fd → Post X W fa σ H G sl (lcE own fi ft fT fE sl fd) (ResOk X.K) Q → tLc wi (crG X ft I) (crT X W0 fT) (crE X W0 fE) own σ H Q := by
  intro fa σ H G sl fd Q E k
  unfold lcE at k
  refine qi fa σ H G sl fd _ E (Post.bindR k fun p fd1 J H1 G1 E1 S1 it k1 => ?_)
  obtain ⟨fz, items⟩ := p
  have it : ItOk X.K fa H1 G1 J fz items := it
  split at k1
  · rename_i hz
    have hz : items.length ≤ sizeLine := hz
    intro D hD
    have Ew := E1.wipe own
    -- the invariant
    let Pv : Nat → Hp → Prop := fun i H => ∃ G acc accV fdi, EN X.K fa (L2.wipe σ own) H G (wipeS sl own) fdi ∧ Step fa G1 H1 G H ∧ G D = none ∧ H D = some (.lst accV) ∧ RepA X.K G accV acc ∧ acc.length ≤ i ∧
      Post X W fa σ H1 G1 sl ((lcGo ft fT fE (wipeS sl own) (items.drop i) fdi).bind fun ds fd2 => .ok (.lst (acc ++ ds)) fd2) (ResOk X.K) Q
    refine ⟨fun i m H => m = items.length - i ∧ i ≤ items.length ∧ Pv i H, ⟨items.length, by simp, Nat.zero_le _, G1, [], [], fd1, Ew.owned hD, Step.own hD, ?_, upd_same, .nil, Nat.le_refl _, by simpa using k1⟩, ?_⟩
    · cases q : G1 D with
      | none => rfl
      | some u => rw [E1.gh _ _ q] at hD; cases hD
    · rintro i m Hc ⟨rfl, hi, Gc, acc, accV, fdi, Ec, Sc, gD, hDc, ra, hl, kc⟩
      obtain ⟨itg, its⟩ := it i Gc Hc Sc.sub Ec.gh fun _ => Sc.keep
      by_cases hlt : i < items.length
      · refine .inr ?_
        have hd : items[i]? = some items[i] := List.getElem?_eq_getElem hlt
        obtain ⟨go, yl⟩ := itg _ hd
        refine ⟨go, Pv (i + 1), fun H' p' => ⟨items.length - (i + 1), by omega, rfl, hlt, p'⟩, fun x Hx y => ?_⟩
        obtain ⟨Gx, sx, sx2, kx, nx, tx, rx⟩ := yl x Hx y
        have Sx : Step fa Gc Hc Gx Hx := ⟨sx, fun b o e _ => kx b o e, nx, fun a o _ e => ⟨o, kx a o e⟩, tx⟩
        have Ex := Ec.step Sx sx2 (Ec.fdo.step Sx fun a _ o e => kx a o e)
        have edrop : items.drop i = items[i] :: items.drop (i + 1) := List.drop_eq_getElem_cons hlt
        rw [edrop] at kc
        unfold lcGo at kc
        cases hft : ft items[i] (wipeS sl own) with
        | none => simp only [hft] at kc; exact kc.elim
        | some sl2 =>
          simp only [hft] at kc
          refine ⟨fa, Gx, _, fdi, _, sl2, Ex, rx, hft, fun σ2 E2 l2 k2 _ => ⟨wipe_eq' l2 hI k2, ?_⟩⟩
          cases hT : fT sl2 fdi with
          | bad => simp only [hT] at kc; exact kc.elim
          | exc c f => simp only [hT] at kc; exact kc.elim
          | ok b fd2 =>
            simp only [hT] at kc
            refine ⟨fa, Gx, sl2, fdi, E2, ?_⟩
            rw [hT]
            intro b' H3 G3 E3 S3 rb
            cases rb
            have S03 := (Sc.trans Sx).trans S3
            have hD3 : ∀ {H' G' : Hp}, Step fa Gc Hc G' H' → H' D = some (.lst accV) := fun S => S.keep D _ hDc fun z => by
              obtain ⟨_, ⟨o, ho⟩, _⟩ := E1.fdis D z
              rw [hD] at ho; cases ho
            have gD3 : ∀ {H' G' : Hp}, Step fa Gc Hc G' H' → G' D = none := fun {H' G'} S => by
              cases q : G' D with
              | none => rfl
              | some u =>
                rcases S.new D u q with z | z
                · rw [gD] at z; cases z
                · rw [hDc] at z; cases z
            cases b with
            | false =>
              simp only [Bool.false_eq_true, if_false] at kc ⊢
              have Sx3 := Sx.trans S3
              refine ⟨G3, acc, accV, fd2, Ew.step S03 E3.gh E3.fdo, S03, gD3 Sx3, hD3 Sx3, ra.mono Sx3.sub, by omega, kc⟩
            | true =>
              simp only [if_true] at kc ⊢
              refine ⟨fa, G3, sl2, fd2, E3, ?_⟩
              cases hE : fE sl2 fd2 with
              | bad => simp only [hE] at kc; exact kc.elim
              | exc c f => simp only [hE] at kc; exact kc.elim
              | ok w fd3 =>
                simp only [hE] at kc
                intro wv H4 G4 E4 S4 rw4
                have rw4 : Rep X.K G4 wv w := rw4
                have S04 := S03.trans S4
                have Sx4 := (Sx.trans S3).trans S4
                have hD4 := hD3 Sx4
                have gD4 := gD3 Sx4
                have Eo : EN X.K fa (L2.wipe σ own) H4 G4 (wipeS sl own) fd3 := Ew.step S04 E4.gh E4.fdo
                have ra4 := ra.mono Sx4.sub
                refine ⟨accV, hD4, ?_, ?_⟩
                · rw [ra.length]; omega
                · have hH1 : H1 D = none := hD
                  have keepU : ∀ b o, H4 b = some o → b ≠ D → upd H4 D (.lst (accV ++ [wv])) b = some o := fun b o e n => by rw [upd_ne n]; exact e
                  have S05 : Step fa G1 H1 G4 (upd H4 D (.lst (accV ++ [wv]))) := ⟨S04.sub, fun b o e nf => keepU b o (S04.keep b o e nf) (ne_of_none e hH1), S04.new, fun a o e h => by
                    obtain ⟨o', h'⟩ := S04.fak a o e h
                    exact ⟨o', keepU a o' h' (ne_of_none h hH1)⟩, fun t b xs e => by
                    by_cases z : b = D
                    · subst z; rw [upd_same] at e; cases e
                    · rw [upd_ne z] at e; exact S04.tp t b xs e⟩
                  have gh5 : Sub G4 (upd H4 D (.lst (accV ++ [wv]))) := fun b o e => keepU b o (E4.gh b o e) (ne_of_none e gD4)
                  have fd5 : FdOk X.K fa (upd H4 D (.lst (accV ++ [wv]))) G4 fd3 := fun p' ds e => by
                    obtain ⟨a, vs, e1, e2, e3⟩ := E4.fdo p' ds e
                    refine ⟨a, vs, e1, keepU a _ e2 fun z => ?_, e3⟩
                    subst z
                    obtain ⟨_, ⟨o, ho⟩, _⟩ := E1.fdis a e1
                    rw [hD] at ho; cases ho
                  refine ⟨G4, acc ++ [w], accV ++ [wv], fd3, Ew.step S05 gh5 fd5, S05, gD4, upd_same, ra4.append (.cons rw4 .nil), by rw [List.length_append]; simp; omega, ?_⟩
                  have e1 : ∀ (r : R (List PyData)), ((r.bind fun xs fd3 => R.ok (w :: xs) fd3).bind fun ds fd2 => R.ok (Sl.lst (acc ++ ds)) fd2) = r.bind fun ds fd2 => R.ok (Sl.lst (acc ++ [w] ++ ds)) fd2 := fun r => by
                    cases r with
                    | ok a f => show R.ok _ _ = R.ok _ _; simp
                    | bad => rfl
                    | exc c f => rfl
                  rw [e1] at kc
                  exact kc
      · have e : i = items.length := by omega
        subst e
        refine .inl ⟨its (Nat.le_refl _), ?_⟩
        rw [List.drop_length] at kc
        have kc : Post X W fa σ H1 G1 sl (.ok (.lst (acc ++ [])) fdi) (ResOk X.K) Q := kc
        rw [List.append_nil] at kc
        exact kc (.ref D) Hc Gc (E1.step Sc Ec.gh Ec.fdo) Sc ⟨D, rfl, hD, gD, accV, hDc, ra⟩
  · exact k1.elim
end
end PD

/-! PD12: zip, enumerate; the comprehension's rule; statements. -/
namespace PD
open PySem PySem.Spec PyProof.Rows L2

section
variable {X : Cx} {W : WX}
theorem snd_lc {elt tg iter : Expr} {ifs : List Expr} {scope : Scope} {own : List (Str × Nat)} {pos : Pos} {I : List Nat} {fi : List Sl → Fd → R (Bool × List D)} {ft : D → List Sl → Option (List Sl)} {fT : List Sl → Fd → R Bool} {fE : List Sl → Fd → R D}
    (hc : X.calm = true) (hN : X.N.Nodup) (hi : SndI X W tg iter fi) (ok : BlkOk X.N X.env.scope scope own) (hI : ∀ i ∈ I, i ∈ own.map (·.2))
    (hg : ∀ (s : Shared) (H : Hp) (C : Addr) (cl : List (Str × Addr)) (fp : List Addr), SndTg (X.blk s H scope (compEnvC scope cl C X.env) fp) tg I ft)
    (ht : ∀ (s : Shared) (H : Hp) (C : Addr) (cl : List (Str × Addr)) (fp : List Addr), SndTs (X.blk s H scope (compEnvC scope cl C X.env) fp) W0 ifs fT)
    (he : ∀ (s : Shared) (H : Hp) (C : Addr) (cl : List (Str × Addr)) (fp : List Addr), SndE (X.blk s H scope (compEnvC scope cl C X.env) fp) W0 elt fE) (hs : ∀ x, foldedSetIterable iter X.env x = pure x) :
    SndR X W (.ListComp elt [⟨tg, iter, ifs, 0⟩] scope pos) (lcE (own.map (·.2)) fi ft fT fE) := by
  obtain ⟨wi, p, q⟩ := hi.ex
  exact ⟨_, pe_lc hc hN p ok (fun s H C cl fp => (hg s H C cl fp).canon) (fun s H C cl fp => (ht s H C cl fp).ex) (fun s H C cl fp => (he s H C cl fp).canon) hs, lc_q q hI⟩

/-! ### zip -/
def zipT (ds es : List D) : List D := List.zipWith (fun x y => PyData.tuple [x, y]) ds es
theorem zipT_get {ds es : List D} {i : Nat} {d : D} (h : (zipT ds es)[i]? = some d) : ∃ x y, ds[i]? = some x ∧ es[i]? = some y ∧ d = .tuple [x, y] := by
  unfold zipT at h
  rw [List.getElem?_zipWith] at h
  cases h1 : ds[i]? with
  | none => rw [h1] at h; cases h
  | some x =>
    cases h2 : es[i]? with
    | none => rw [h1, h2] at h; cases h
    | some y => rw [h1, h2] at h; injection h with h; exact ⟨x, y, rfl, rfl, h.symm⟩
def zipE (f : List Sl → Fd → R (List Pk)) (sl : List Sl) (fd : Fd) : R (Bool × List D) := (f sl fd).bind fun ps fd1 => match ps with
  | [p, q] => match lookP sl fd1 p, lookP sl fd1 q with
    | some (.list ds), some (.list es) => if (notFd sl p && notFd sl q) = true then .ok (fzP sl p && fzP sl q, zipT ds es) fd1 else .bad
    | some (.tuple ds), some (.tuple es) => .ok (true, zipT ds es) fd1
    | _, _ => .bad
  | _ => .bad
theorem new_pair {K : Frag} {Gc Hc : Hp} {T : Addr} {x y : V} {d e : D} (s2 : Sub Gc Hc) (hT : Hc T = none) (hx : Rep K Gc x d) (hy : Rep K Gc y e) :
    ∃ Gx, Sub Gc Gx ∧ Sub Gx (upd Hc T (.tup [x, y])) ∧ (∀ b o, Hc b = some o → upd Hc T (.tup [x, y]) b = some o) ∧ (∀ b o, Gx b = some o → Gc b = some o ∨ Hc b = none) ∧ (TP Gc Hc → TP Gx (upd Hc T (.tup [x, y]))) ∧ Rep K Gx (.ref T) (.tuple [d, e]) := by
  have S := Step.frz (fa := none) (o := HO.tup [x, y]) s2 hT
  exact ⟨upd Gc T (.tup [x, y]), S.sub, s2.frz, fun b o q => S.keep b o q (by simp), S.new, S.tp, .tup upd_same (.cons (hx.mono S.sub) (.cons (hy.mono S.sub) .nil))⟩
theorem snd_zip {elts : List Expr} {kk : Nat} {tpos p pos : Pos} {e e2 : Expr} {f : List Sl → Fd → R (List Pk)} (hg : Gl X "zip") (hm : X.mg "zip" = none) (ha : SndPs X W [e, e2] f)
    (hs : starEach [e, e2] X.env = (false, eval e X.env) :: starEach [e2] X.env) (hpl : (backTo pos (starEach [e2] X.env)).any (·.1) = false) :
    SndI X W (.Tuple elts kk tpos) (.Call (.Name "zip" p) [e, e2] [] pos) (zipE f) := by
  obtain ⟨t, pa, q⟩ := ha.ex
  refine ⟨_, RZ.pi_zipA hg hm pa hs hpl, fun fa σ H G sl fd R' E k => ?_⟩
  unfold zipE at k
  refine q fa σ H G sl fd _ E (Post.bind k (fun _ _ _ _ _ _ r => r) fun ps fd1 vs H1 G1 E1 S1 r1 k1 => ?_)
  have r0 : PksOk X.K σ G1 vs ps := r1
  clear r1
  split at k1
  · cases r0 with
    | cons r1 rr =>
      cases rr with
      | cons r2 rr =>
        cases rr
        split at k1
        · rename_i p q ds es h1 h2
          split at k1
          · rename_i hn
            obtain ⟨n1, n2⟩ := Bool.and_eq_true_iff.mp hn
            obtain ⟨a, xs, rfl, ha, ra, na⟩ := own_rep E1 r1 h1 n1
            obtain ⟨b, ys, rfl, hb, rb, nb⟩ := own_rep E1 r2 h2 n2
            refine ⟨a, b, xs, ys, rfl, .inl ⟨.of ha, .of hb, k1 _ H1 G1 E1 Step.refl ?_⟩⟩
            have keep : ∀ {p : Pk} {a : Addr} {xs : List V} {ds : List D}, PkOk X.K σ G1 (.ref a) p → lookP sl fd1 p = some (.list ds) → H1 a = some (.lst xs) → fa ≠ some a → ∀ Gc Hc, Sub G1 Gc → Sub Gc Hc → (fzP sl p = false → ∀ b o, H1 b = some o → fa ≠ some b → Hc b = some o) → SqL X.K Hc a xs := by
              intro p a xs ds r h ha na Gc Hc s1 s2 kk
              cases hz : fzP sl p with
              | false => exact .of (kk hz _ _ ha na)
              | true =>
                cases fz_rep E1 r h hz with
                | lst h t =>
                  have := E1.gh _ _ h
                  rw [ha] at this; cases this
                  exact .of (s2 _ _ (s1 _ _ h))
            intro i Gc Hc s1 s2 kk
            have qa := keep r1 h1 ha na Gc Hc s1 s2 fun z => kk (by rw [z]; rfl)
            have qb := keep r2 h2 hb nb Gc Hc s1 s2 fun z => kk (by rw [z]; simp)
            refine ⟨fun d hd => ?_, fun hl => ?_⟩
            · obtain ⟨x, y, hx, hy, rfl⟩ := zipT_get hd
              obtain ⟨u, hu, ru⟩ := ra.get hx
              obtain ⟨w, hw, rw'⟩ := rb.get hy
              refine ⟨⟨xs, ys, u, w, qa, qb, hu, hw⟩, fun v Hx yl => ?_⟩
              obtain ⟨T, u', w', rfl, hT, rfl, y1, y2⟩ := yl
              have e1 := y1 xs qa; rw [hu] at e1; cases e1
              have e2 := y2 ys qb; rw [hw] at e2; cases e2
              exact new_pair s2 hT (ru.mono s1) (rw'.mono s1)
            · refine ⟨xs, ys, qa, qb, ?_⟩
              have hl : (zipT ds es).length ≤ i := hl
              unfold zipT at hl
              rw [List.length_zipWith] at hl
              rw [ra.length, rb.length]; omega
          · exact k1.elim
        · rename_i p q ds es h1 h2
          obtain ⟨a, xs, rfl, ha, ra⟩ := (look_ok E1 r1 h1).tup
          obtain ⟨b, ys, rfl, hb, rb⟩ := (look_ok E1 r2 h2).tup
          refine ⟨a, b, xs, ys, rfl, .inr ⟨.of (E1.gh _ _ ha), .of (E1.gh _ _ hb), k1 _ H1 G1 E1 Step.refl ?_⟩⟩
          intro i Gc Hc s1 s2 kk
          have qa : SqT X.K Hc a xs := .of (s2 _ _ (s1 _ _ ha))
          have qb : SqT X.K Hc b ys := .of (s2 _ _ (s1 _ _ hb))
          refine ⟨fun d hd => ?_, fun hl => ?_⟩
          · obtain ⟨x, y, hx, hy, rfl⟩ := zipT_get hd
            obtain ⟨u, hu, ru⟩ := ra.get hx
            obtain ⟨w, hw, rw'⟩ := rb.get hy
            refine ⟨⟨xs, ys, u, w, qa, qb, hu, hw⟩, fun v Hx yl => ?_⟩
            obtain ⟨T, u', w', rfl, hT, rfl, y1, y2⟩ := yl
            have e1 := y1 xs qa; rw [hu] at e1; cases e1
            have e2 := y2 ys qb; rw [hw] at e2; cases e2
            exact new_pair s2 hT (ru.mono s1) (rw'.mono s1)
          · refine ⟨xs, ys, qa, qb, ?_⟩
            have hl : (zipT ds es).length ≤ i := hl
            unfold zipT at hl
            rw [List.length_zipWith] at hl
            rw [ra.length, rb.length]; omega
        · exact k1.elim
  · exact k1.elim
/-! ### enumerate of a list -/
def enumFrom (n : Nat) : List D → List D
  | [] => []
  | d :: ds => .tuple [.int n, d] :: enumFrom (n + 1) ds
theorem enum_get : ∀ {ds : List D} {n i : Nat} {d : D}, (enumFrom n ds)[i]? = some d → ∃ x, ds[i]? = some x ∧ d = .tuple [.int ((n + i : Nat) : Int), x]
  | [], _, _, _, h => by simp [enumFrom] at h
  | x :: ds, n, 0, d, h => by simp [enumFrom] at h; exact ⟨x, rfl, by rw [← h]; rfl⟩
  | x :: ds, n, i + 1, d, h => by
    obtain ⟨y, h1, h2⟩ := enum_get (ds := ds) (n := n + 1) (i := i) (d := d) (by simpa [enumFrom] using h)
    exact ⟨y, by simpa using h1, by rw [h2, show n + 1 + i = n + (i + 1) by omega]⟩
theorem enum_len : ∀ {ds : List D} {n : Nat}, (enumFrom n ds).length = ds.length
  | [], _ => rfl
  | d :: ds, n => by simp [enumFrom, enum_len (ds := ds) (n := n + 1)]
def enumE (f : List Sl → Fd → R (List Pk)) (sl : List Sl) (fd : Fd) : R (Bool × List D) := (f sl fd).bind fun ps fd1 => match ps with
  | [p] => match lookP sl fd1 p with
    | some (.list ds) => if notFd sl p = true then .ok (fzP sl p, enumFrom 0 ds) fd1 else .bad
    | _ => .bad
  | _ => .bad
theorem snd_enum {elts : List Expr} {kk : Nat} {tpos p pos : Pos} {e : Expr} {f : List Sl → Fd → R (List Pk)} (hg : Gl X "enumerate") (hm : X.mg "enumerate" = none) (ha : SndPs X W [e] f)
    (hs : starEach [e] X.env = [(false, eval e X.env)]) : SndI X W (.Tuple elts kk tpos) (.Call (.Name "enumerate" p) [e] [] pos) (enumE f) := by
  obtain ⟨t, pa, q⟩ := ha.ex
  refine ⟨_, pi_enum hg hm pa hs, fun fa σ H G sl fd R' E k => ?_⟩
  unfold enumE at k
  refine q fa σ H G sl fd _ E (Post.bind k (fun _ _ _ _ _ _ r => r) fun ps fd1 vs H1 G1 E1 S1 r1 k1 => ?_)
  have r0 : PksOk X.K σ G1 vs ps := r1
  clear r1
  split at k1
  · rename_i _ p
    cases r0 with
    | cons r1 rr =>
      cases rr
      split at k1
      · rename_i _ ds h1
        split at k1
        · rename_i n1
          obtain ⟨a, xs, rfl, ha, ra, na⟩ := own_rep E1 r1 h1 n1
          refine ⟨a, xs, rfl, .of ha, k1 _ H1 G1 E1 Step.refl ?_⟩
          intro i Gc Hc s1 s2 kk
          have qa : SqL X.K Hc a xs := by
            cases hz : fzP sl p with
            | false => exact .of (kk hz _ _ ha na)
            | true =>
              cases fz_rep E1 r1 h1 hz with
              | lst h t =>
                have := E1.gh _ _ h
                rw [ha] at this; cases this
                exact .of (s2 _ _ (s1 _ _ h))
          refine ⟨fun d hd => ?_, fun hl => ⟨xs, qa, by rw [ra.length, ← enum_len (n := 0)]; exact hl⟩⟩
          obtain ⟨x, hx, rfl⟩ := enum_get hd
          obtain ⟨u, hu, ru⟩ := ra.get hx
          refine ⟨⟨xs, u, qa, hu⟩, fun v Hx yl => ?_⟩
          obtain ⟨T, u', rfl, hT, rfl, y1⟩ := yl
          have e1 := y1 xs qa; rw [hu] at e1; cases e1
          have ez : ((0 + i : Nat) : Int) = (i : Int) := by omega
          rw [ez]
          exact new_pair s2 hT (.int _) (ru.mono s1)
        · exact k1.elim
      · exact k1.elim
  · exact k1.elim
end
end PD

/-! PD13: statements. -/
namespace PD
open PySem PySem.Spec PyProof.Rows L2

/-- where a statement ends -/
inductive O where
  | bad
  | nx (sl : List Sl) (fd : Fd)
  | brk (sl : List Sl) (fd : Fd)
  | ct (sl : List Sl) (fd : Fd)
  | ret (s : Sl) (fd : Fd)
  | exc (c : Str) (sl : List Sl) (fd : Fd)
def R.st {α : Type} (r : R α) (sl : List Sl) (k : α → Fd → O) : O := match r with
  | .bad => .bad
  | .ok a fd => k a fd
  | .exc c fd => .exc c sl fd
def O.sq (o : O) (k : List Sl → Fd → O) : O := match o with
  | .nx sl fd => k sl fd
  | o => o
/-- the def's entry -/
structure Bas where
  nf : Bool
  fa0 : Option Addr
  G0 : Hp
  H0 : Hp
  Gm : Hp
structure Bs (b : Bas) (fa : Option Addr) (σ : St) (H G : Hp) (sl : List Sl) : Prop where
  st : Step b.fa0 b.G0 b.H0 G H
  own : ∀ i a, OwnAt σ sl i a → b.H0 a = none
  fa : fa = b.fa0 ∨ (b.fa0 = none ∧ ∀ a, fa = some a → b.H0 a = none)
  nf : b.nf = true → b.fa0 = none
  gm : Sub b.Gm G
section
variable {b : Bas} {fa : Option Addr} {σ : St} {H G H1 G1 : Hp} {sl : List Sl}
theorem Bs.new (B : Bs b fa σ H G sl) {a : Addr} (h : H a = none) : b.H0 a = none := by
  cases q : b.H0 a with
  | none => rfl
  | some o =>
    by_cases n : b.fa0 = some a
    · obtain ⟨o', e⟩ := B.st.fak a o n q
      rw [h] at e; cases e
    · have := B.st.keep a o q n
      rw [h] at this; cases this
theorem Bs.step (B : Bs b fa σ H G sl) (S : Step fa G H G1 H1) : Bs b fa σ H1 G1 sl where
  st := by
    rcases B.fa with e | ⟨e, n⟩
    · rw [e] at S; exact B.st.trans S
    · refine ⟨B.st.sub.trans S.sub, fun c o h q => S.keep c o (B.st.keep c o h q) fun z => ?_, fun c o h => ?_, fun c o q h => ?_, fun h => ?_⟩
      · rw [n c z] at h; cases h
      · rcases S.new c o h with h1 | h1
        · exact B.st.new c o h1
        · exact .inr (B.new h1)
      · rw [e] at q; cases q
      · exact S.tp (B.st.tp h)
  own := B.own
  fa := B.fa
  nf := B.nf
  gm := B.gm.trans S.sub
/-- other slots -/
theorem Bs.re (B : Bs b fa σ H G sl) {σ' : St} {sl' : List Sl} (h : ∀ i a, OwnAt σ' sl' i a → b.H0 a = none) : Bs b fa σ' H G sl' := ⟨B.st, h, B.fa, B.nf, B.gm⟩
theorem Bs.un {Gn : Hp} (B : Bs { b with Gm := Gn } fa σ H G sl) (h : Sub b.Gm Gn) : Bs b fa σ H G sl := ⟨B.st, B.own, B.fa, B.nf, h.trans B.gm⟩
theorem Bs.at (B : Bs b fa σ H G sl) : Bs { b with Gm := G } fa σ H G sl := ⟨B.st, B.own, B.fa, B.nf, Sub.refl⟩
end
section
variable (X : Cx) (W : WX)
def PostS (b : Bas) (D : Ends) (o : O) : Prop := match o with
  | .bad => False
  | .nx sl fd => ∀ fa σ H G, EN X.K fa σ H G sl fd → Bs b fa σ H G sl → D.nx σ H
  | .brk sl fd => ∀ fa σ H G, EN X.K fa σ H G sl fd → Bs b fa σ H G sl → D.bk σ H
  | .ct sl fd => ∀ fa σ H G, EN X.K fa σ H G sl fd → Bs b fa σ H G sl → D.ct σ H
  | .ret s fd => ∀ fa v H G, (fa = b.fa0 ∨ b.fa0 = none) → Sub G H → Step b.fa0 b.G0 b.H0 G H → FdOk X.K fa H G fd → ResOk X.K b.H0 H G v s → D.rt v H
  | .exc c sl fd => ∀ fa dx σ H G, EN X.K fa σ H G sl fd → Bs b fa σ H G sl → W (excV X.mg c) dx σ H
structure SndS (nf : Bool) (st : Stmt) (f : List Sl → Fd → O) : Prop where
  ex : ∃ t, PS X st t ∧ ∀ b fa σ H G sl fd D, b.nf = nf → EN X.K fa σ H G sl fd → Bs b fa σ H G sl → PostS X W b D (f sl fd) → t D σ H
structure SndSs (nf : Bool) (st : List Stmt) (f : List Sl → Fd → O) : Prop where
  ex : ∃ t, PSs X st t ∧ ∀ b fa σ H G sl fd D, b.nf = nf → EN X.K fa σ H G sl fd → Bs b fa σ H G sl → PostS X W b D (f sl fd) → t D σ H
end
section
variable {X : Cx} {W : WX} {nf : Bool}
theorem Post.st {α β : Type} {b : Bas} {fa : Option Addr} {σ : St} {H G : Hp} {sl : List Sl} {r : R α} {k : α → Fd → O} {rel : Hp → Hp → Hp → β → α → Prop} {D : Ends} {Q1 : β → Hp → Prop}
    (B : Bs b fa σ H G sl) (h : PostS X W b D (r.st sl k))
    (h2 : ∀ a fd1 v H1 G1, EN X.K fa σ H1 G1 sl fd1 → Step fa G H G1 H1 → Bs b fa σ H1 G1 sl → rel H H1 G1 v a → PostS X W b D (k a fd1) → Q1 v H1) : Post X W fa σ H G sl r rel Q1 := by
  cases r with
  | bad => exact h
  | exc c fd => exact fun dx H1 G1 E1 S1 => h fa dx σ H1 G1 E1 (B.step S1)
  | ok a fd => exact fun v H1 G1 E1 S1 r1 => h2 a fd v H1 G1 E1 S1 (B.step S1) r1 h
/-! ### blocks -/
theorem snds_nil0 : SndSs X W nf [] fun sl fd => .nx sl fd := ⟨_, pss_nil, fun b fa σ H G sl fd D hn E B k => k fa σ H G E B⟩
theorem snds_cons0 {s : Stmt} {ss : List Stmt} {f g : List Sl → Fd → O} (h : SndS X W nf s f) (hs : SndSs X W nf ss g) : SndSs X W nf (s :: ss) fun sl fd => (f sl fd).sq g := by
  obtain ⟨t, p, q⟩ := h.ex
  obtain ⟨u, p2, q2⟩ := hs.ex
  refine ⟨_, pss_cons p p2, fun b fa σ H G sl fd D hn E B k => ?_⟩
  refine q b fa σ H G sl fd _ hn E B ?_
  revert k
  cases f sl fd with
  | bad => exact fun k => k
  | nx sl1 fd1 => exact fun k fa1 σ1 H1 G1 E1 B1 => q2 b fa1 σ1 H1 G1 sl1 fd1 D hn E1 B1 k
  | brk sl1 fd1 => exact fun k => k
  | ct sl1 fd1 => exact fun k => k
  | ret s fd1 => exact fun k => k
  | exc c sl1 fd1 => exact fun k => k
theorem snds_one {s : Stmt} {f : List Sl → Fd → O} (h : SndS X W nf s f) : SndSs X W nf [s] f := by
  obtain ⟨t, p, q⟩ := h.ex
  exact ⟨t, pss_one p, q⟩
/-! ### small statements -/
theorem sndx_pass {pos : Pos} : SndS X W nf (.Pass pos) fun sl fd => .nx sl fd := ⟨_, ps_pass, fun b fa σ H G sl fd D hn E B k => k fa σ H G E B⟩
theorem sndx_break {pos : Pos} : SndS X W nf (.Break pos) fun sl fd => .brk sl fd := ⟨_, ps_break, fun b fa σ H G sl fd D hn E B k => k fa σ H G E B⟩
theorem sndx_cont {pos : Pos} : SndS X W nf (.Continue pos) fun sl fd => .ct sl fd := ⟨_, ps_continue, fun b fa σ H G sl fd D hn E B k => k fa σ H G E B⟩
theorem sndx_expr {e : Expr} {pos : Pos} {f : List Sl → Fd → R Sl} (h : SndR X W e f) (hs : swapsWith e none pos.line X.env = pure false) : SndS X W nf (.Expr e pos) fun sl fd => (f sl fd).st sl fun _ fd1 => .nx sl fd1 := by
  obtain ⟨t, p, q⟩ := h.ex
  refine ⟨_, ps_expr p hs, fun b fa σ H G sl fd D hn E B k => q fa σ H G sl fd _ E (Post.st B k fun a fd1 v H1 G1 E1 S1 B1 r1 k1 => ?_)⟩
  exact k1 fa σ H1 G1 E1 B1
theorem Rep.resOk {K : Frag} {Hz H G : Hp} {v : V} {d : D} (r : Rep K G v d) : ResOk K Hz H G v (.val d) := r
theorem sndx_ret {e : Expr} {pos : Pos} {f : List Sl → Fd → R Sl} (h : SndR X W e f) : SndS X W nf (.Return (some e) pos) fun sl fd => (f sl fd).st sl fun s fd1 => .ret s fd1 := by
  obtain ⟨t, p, q⟩ := h.ex
  refine ⟨_, ps_ret p, fun b fa σ H G sl fd D hn E B k => q fa σ H G sl fd _ E (Post.st B k fun s fd1 v H1 G1 E1 S1 B1 r1 k1 => ?_)⟩
  refine k1 fa v H1 G1 (B.fa.imp id (·.1)) E1.gh B1.st E1.fdo (ResOk.mono (fun c hc => B.new hc) r1)
theorem sndx_retN {pos : Pos} : SndS X W nf (.Return none pos) fun sl fd => .ret (.val .none) fd :=
  ⟨_, ps_retN, fun b fa σ H G sl fd D hn E B k => k fa _ H G (B.fa.imp id (·.1)) E.gh B.st E.fdo .non⟩
/-- return x, x one's own list or dict, or a value -/
theorem sndx_retV {i : Nat} {x : Str} {p pos : Pos} (hN : X.N[i]? = some x) (hv : Vis X.env.scope x) (hd : (x == ("__debug__" : Str)) = false) (hcd : (x == ("__classdict__" : Str)) = false) :
    SndS X W nf (.Return (some (.Name x p)) pos) fun sl fd => match sl[i]? with
      | none => .bad
      | some .no => .bad
      | some .fd => .bad
      | some s => .ret s fd := by
  refine ⟨_, ps_ret (pe_var hN hv hd hcd), fun b fa σ H G sl fd D hn E B k => ?_⟩
  cases q : sl[i]? with
  | none => simp only [q] at k; exact k.elim
  | some s =>
    simp only [q] at k
    have so := E.slot i s q
    cases s with
    | no => exact k.elim
    | fd => exact k.elim
    | val d => obtain ⟨x, e, r⟩ := so; exact ⟨x, e, k fa x H G (B.fa.imp id (·.1)) E.gh B.st E.fdo r⟩
    | lst xs => obtain ⟨a, e, g, o⟩ := so; exact ⟨_, e, k fa _ H G (B.fa.imp id (·.1)) E.gh B.st E.fdo ⟨a, rfl, B.own i a ⟨e, _, q, rfl⟩, g, o⟩⟩
    | dK xs => obtain ⟨a, e, g, o⟩ := so; exact ⟨_, e, k fa _ H G (B.fa.imp id (·.1)) E.gh B.st E.fdo ⟨a, rfl, B.own i a ⟨e, _, q, rfl⟩, g, o⟩⟩
    | dT xs => obtain ⟨a, e, g, o⟩ := so; exact ⟨_, e, k fa _ H G (B.fa.imp id (·.1)) E.gh B.st E.fdo ⟨a, rfl, B.own i a ⟨e, _, q, rfl⟩, g, o⟩⟩
theorem sndx_if {c : Expr} {p q : List Stmt} {pos : Pos} {fc : List Sl → Fd → R Bool} {fp fq : List Sl → Fd → O} (hc : SndT X W c fc) (hp : SndSs X W nf p fp) (hq : SndSs X W nf q fq) :
    SndS X W nf (.If c p q pos) fun sl fd => (fc sl fd).st sl fun b fd1 => if b = true then fp sl fd1 else fq sl fd1 := by
  obtain ⟨t, p0, q0⟩ := hc.ex
  obtain ⟨t1, p1, q1⟩ := hp.ex
  obtain ⟨t2, p2, q2⟩ := hq.ex
  refine ⟨_, ps_if p0 p1 p2, fun b fa σ H G sl fd D hn E B k => q0 fa σ H G sl fd _ E (Post.st B k fun s fd1 v H1 G1 E1 S1 B1 r1 k1 => ?_)⟩
  have e : v = s := r1
  subst e
  show if v = true then _ else _
  split
  · rename_i h; rw [if_pos h] at k1; exact q1 b fa σ H1 G1 sl fd1 D hn E1 B1 k1
  · rename_i h; rw [if_neg h] at k1; exact q2 b fa σ H1 G1 sl fd1 D hn E1 B1 k1
/-! ### stores -/
theorem Bs.setV {b : Bas} {fa : Option Addr} {σ : St} {H G : Hp} {sl : List Sl} (B : Bs b fa σ H G sl) (i : Nat) {v : Option V} {s : Sl} (ho : s.own = false) : Bs b fa (σ.set i v) H G (sl.set i s) :=
  B.re fun j a h => by
    rcases ownAt_set h with ⟨_, o, _⟩ | ⟨_, o⟩
    · rw [ho] at o; cases o
    · exact B.own j a o
theorem Bs.setO {b : Bas} {fa : Option Addr} {σ : St} {H G : Hp} {sl : List Sl} (B : Bs b fa σ H G sl) (i : Nat) {a : Addr} {s : Sl} (hn : b.H0 a = none) : Bs b fa (σ.set i (some (.ref a))) H G (sl.set i s) :=
  B.re fun j c h => by
    rcases ownAt_set h with ⟨_, o, e⟩ | ⟨_, o⟩
    · injection e with e; injection e with e; subst e; exact hn
    · exact B.own j c o
theorem EN.nown {K : Frag} {fa : Option Addr} {σ : St} {H G : Hp} {sl : List Sl} {fd : Fd} (E : EN K fa σ H G sl fd) {a : Addr} (hn : H a = none) (j : Nat) : ¬ OwnAt σ sl j a := fun h => by
  obtain ⟨s, _, _, _, o⟩ := E.ownAt h
  obtain ⟨⟨u, e⟩, _⟩ := o.ex
  rw [hn] at e; cases e
/-- a result is laid into a slot -/
theorem lay {b : Bas} {fa : Option Addr} {σ : St} {Ha H G : Hp} {sl : List Sl} {fd fda : Fd} {Ga : Hp} (E0 : EN X.K fa σ Ha Ga sl fda) (E : EN X.K fa σ H G sl fd) (B0 : Bs b fa σ Ha Ga sl) (B : Bs b fa σ H G sl) {v : V} {s : Sl} (r : ResOk X.K Ha H G v s) (i : Nat) :
    EN X.K fa (σ.set i (some v)) H G (sl.set i s) fd ∧ Bs b fa (σ.set i (some v)) H G (sl.set i s) := by
  have nf : ∀ a, Ha a = none → fa ≠ some a := fun a hn z => by
    obtain ⟨_, ⟨o, h⟩, _⟩ := E0.fdis a z
    rw [hn] at h; cases h
  cases s with
  | val d => exact ⟨E.setV i rfl ⟨v, rfl, r⟩, B.setV i rfl⟩
  | no => obtain ⟨_, _, _, _, o⟩ := r; exact o.elim
  | fd => obtain ⟨_, _, _, _, o⟩ := r; exact o.elim
  | lst xs => obtain ⟨a, rfl, n, g, o⟩ := r; exact ⟨E.setO i rfl g o (nf a n) fun j => fun h => E0.nown n j h, B.setO i (B0.new n)⟩
  | dK xs => obtain ⟨a, rfl, n, g, o⟩ := r; exact ⟨E.setO i rfl g o (nf a n) fun j => fun h => E0.nown n j h, B.setO i (B0.new n)⟩
  | dT xs => obtain ⟨a, rfl, n, g, o⟩ := r; exact ⟨E.setO i rfl g o (nf a n) fun j => fun h => E0.nown n j h, B.setO i (B0.new n)⟩
def setO (i : Nat) (f : List Sl → Fd → R Sl) (sl : List Sl) (fd : Fd) : O := (f sl fd).st sl fun s fd1 => .nx (sl.set i s) fd1
theorem setO_q {i : Nat} {f : List Sl → Fd → R Sl} {te : TE} (q : ∀ fa σ H G sl fd Q, EN X.K fa σ H G sl fd → Post X W fa σ H G sl (f sl fd) (ResOk X.K) Q → te σ H Q) :
    ∀ b fa σ H G sl fd D, b.nf = nf → EN X.K fa σ H G sl fd → Bs b fa σ H G sl → PostS X W b D (setO i f sl fd) → tAsg te (gName i) D σ H := fun b fa σ H G sl fd D hn E B k =>
  q fa σ H G sl fd _ E (Post.st B k fun s fd1 v H1 G1 E1 S1 B1 r1 k1 => by
    obtain ⟨E2, B2⟩ := lay E E1 B B1 r1 i
    exact k1 fa _ H1 G1 E2 B2)
theorem sndx_set {i : Nat} {x : Str} {e : Expr} {pos pos' : Pos} {f : List Sl → Fd → R Sl} (hN : X.N.Nodup) (hi : X.N[i]? = some x) (hx : Loc X.env.scope x) (hf : X.fn x = true ∨ X.env.scope.names.lookup x = some .local) (h : SndR X W e f)
    (hs : swapsWith e (some (.Name x pos')) pos.line X.env = pure false) : SndS X W nf (.Assign [.Name x pos'] e pos) (setO i f) := by
  obtain ⟨t, p, q⟩ := h.ex
  exact ⟨_, ps_set hN hi hx p hs hf, setO_q q⟩
/-- the def's own feed is laid -/
def unfd : Sl → Sl
  | .fd => .no
  | s => s
def setFd (i : Nat) (f : List Sl → Fd → R Sl) (sl : List Sl) (fd : Fd) : O := (f sl fd).st sl fun s _ => match s with
  | .lst xs => .nx ((sl.map unfd).set i .fd) (some (false, xs))
  | _ => .bad
end
end PD

/-! PD14: more stores, loops, raise, defs. -/
namespace PD
open PySem PySem.Spec PyProof.Rows L2

section
variable {X : Cx} {W : WX} {nf : Bool}
/-- a result that stays -/
def frzS (f : List Sl → Fd → R Sl) (sl : List Sl) (fd : Fd) : R Sl := (f sl fd).frz.bind fun d fd1 => .ok (.val d) fd1
theorem frz_q {f : List Sl → Fd → R Sl} {te : TE} (q : ∀ fa σ H G sl fd Q, EN X.K fa σ H G sl fd → Post X W fa σ H G sl (f sl fd) (ResOk X.K) Q → te σ H Q) :
    ∀ fa σ H G sl fd Q, EN X.K fa σ H G sl fd → Post X W fa σ H G sl (frzS f sl fd) (ResOk X.K) Q → te σ H Q := fun fa σ H G sl fd Q E k => by
  refine q fa σ H G sl fd Q E (Post.frz E ?_)
  unfold frzS at k
  revert k
  cases (f sl fd).frz with
  | bad => exact fun k => k
  | ok d fd => exact fun k => k
  | exc c fd => exact fun k => k
theorem SndR.frzS {e : Expr} {f : List Sl → Fd → R Sl} (h : SndR X W e f) : SndR X W e (PD.frzS f) := by
  obtain ⟨t, p, q⟩ := h.ex
  exact ⟨t, p, frz_q q⟩
/-! ### the def's own feed -/
theorem sndx_setFd {i : Nat} {x : Str} {e : Expr} {pos pos' : Pos} {f : List Sl → Fd → R Sl} (hN : X.N.Nodup) (hi : X.N[i]? = some x) (hx : Loc X.env.scope x) (hf : X.fn x = true ∨ X.env.scope.names.lookup x = some .local) (h : SndR X W e f)
    (hs : swapsWith e (some (.Name x pos')) pos.line X.env = pure false) :
    SndS X W true (.Assign [.Name x pos'] e pos) (setFd i f) := by
  obtain ⟨t, p, q⟩ := h.ex
  refine ⟨_, ps_set hN hi hx p hs hf, fun b fa σ H G sl fd D hnf E B k => q fa σ H G sl fd _ E (Post.st B k fun s fd1 v H1 G1 E1 S1 B1 r1 k1 => ?_)⟩
  cases s with
  | lst xs =>
    obtain ⟨a, rfl, n, g, vs, ha, ra⟩ := r1
    have n0 := B.nf hnf
    have fa0n := B.new n
    have um : ∀ j, (sl.map unfd)[j]? = (sl[j]?).map unfd := fun j => List.getElem?_map ..
    have ow : ∀ j c, OwnAt (σ.set i (some (.ref a))) ((sl.map unfd).set i .fd) j c → OwnAt σ sl j c := fun j c h => by
      rcases ownAt_set h with ⟨_, o, _⟩ | ⟨_, e1, s, e2, o⟩
      · cases o
      · rw [um] at e2
        cases q : sl[j]? with
        | none => rw [q] at e2; cases e2
        | some s0 =>
          rw [q] at e2; injection e2 with e2; subst e2
          refine ⟨e1, s0, q, ?_⟩
          cases s0 <;> first | rfl | cases o
    refine k1 (some a) (σ.set i (some (.ref a))) H1 G1 ⟨?_, E1.gh, fun j s e => ?_, fun j k c h1 h2 => E1.dis j k c (ow j c h1) (ow k c h2), fun c e => ?_, fun p ds e => ?_, E1.tp⟩ ⟨?_, fun j c h => B1.own j c (ow j c h), .inr ⟨n0, fun c e => ?_⟩, B1.nf, B1.gm⟩
    · simp; exact E1.len
    · rcases getset_eq e with ⟨rfl, rfl, hi⟩ | ⟨n, e⟩
      · rw [List.length_map] at hi
        rw [List.getElem?_set_self (Nat.lt_of_lt_of_le hi E1.len)]
        exact ⟨a, rfl, rfl⟩
      · rw [um] at e
        rw [List.getElem?_set_ne n]
        cases q : sl[j]? with
        | none => rw [q] at e; cases e
        | some s0 =>
          rw [q] at e; injection e with e; subst e
          have := E1.slot j s0 q
          cases s0 <;> first | exact this | trivial
    · injection e with e; subst e
      exact ⟨g, ⟨_, ha⟩, fun j h => E.nown n j (ow j _ h)⟩
    · injection e with e; injection e with _ e; subst e
      exact ⟨a, vs, rfl, ha, ra⟩
    · exact B1.st
    · injection e with e; subst e; exact fa0n
  | _ => exact k1.elim
theorem sndx_setLc {i : Nat} {y : Str} {py : Pos} {elt tg iter : Expr} {ifs : List Expr} {scope : Scope} {own : List (Str × Nat)} {pos spos : Pos} {I : List Nat} {fi : List Sl → Fd → R (Bool × List D)} {ft : D → List Sl → Option (List Sl)} {fT : List Sl → Fd → R Bool} {fE : List Sl → Fd → R D}
    (hc : X.calm = true) (hN : X.N.Nodup) (hy : X.N[i]? = some y) (hyl : X.env.scope.names.lookup y = some .local)
    (hsw : swapsWith (.ListComp elt [⟨tg, iter, ifs, 0⟩] scope pos) (some (.Name y py)) spos.line X.env = pure true) (hi : SndI X W tg iter fi) (ok : BlkOk X.N X.env.scope scope own) (hI : ∀ i ∈ I, i ∈ own.map (·.2))
    (hg : ∀ (s : Shared) (H : Hp) (C : Addr) (cl : List (Str × Addr)) (fp : List Addr), SndTg (X.blk s H scope (compEnvC scope cl C X.env) fp) tg I ft)
    (ht : ∀ (s : Shared) (H : Hp) (C : Addr) (cl : List (Str × Addr)) (fp : List Addr), SndTs (X.blk s H scope (compEnvC scope cl C X.env) fp) W0 ifs fT)
    (he : ∀ (s : Shared) (H : Hp) (C : Addr) (cl : List (Str × Addr)) (fp : List Addr), SndE (X.blk s H scope (compEnvC scope cl C X.env) fp) W0 elt fE) (hs : ∀ x, foldedSetIterable iter X.env x = pure x) :
    SndS X W nf (.Assign [.Name y py] (.ListComp elt [⟨tg, iter, ifs, 0⟩] scope pos) spos) (setO i (lcE (own.map (·.2)) fi ft fT fE)) ∧
      SndS X W nf (.Assign [.Name y py] (.ListComp elt [⟨tg, iter, ifs, 0⟩] scope pos) spos) (setO i (frzS (lcE (own.map (·.2)) fi ft fT fE))) := by
  obtain ⟨wi, p, q⟩ := hi.ex
  have P : PS X _ (tAsg (tLc wi (crG X ft I) (crT X W0 fT) (crE X W0 fE) (own.map (·.2))) (gName i)) := ps_setLc hc hN hy hyl hsw p ok (fun s H C cl fp => (hg s H C cl fp).canon) (fun s H C cl fp => (ht s H C cl fp).ex) (fun s H C cl fp => (he s H C cl fp).canon) hs
  exact ⟨⟨_, P, setO_q (lc_q q hI)⟩, ⟨_, P, setO_q (frz_q (lc_q q hI))⟩⟩
/-! ### unpacking -/
def tgO (f : List Sl → Fd → R D) (ft : D → List Sl → Option (List Sl)) (sl : List Sl) (fd : Fd) : O := (f sl fd).st sl fun d fd1 => match ft d sl with
  | some sl1 => .nx sl1 fd1
  | none => .bad
theorem sndx_unp {tg e : Expr} {pos : Pos} {I : List Nat} {f : List Sl → Fd → R D} {ft : D → List Sl → Option (List Sl)} (he : SndE X W e f) (hg : SndTg X tg I ft) (hs : swapsWithSole [tg] e pos.line X.env = pure false) (hw : swappedStores [tg] e X.env = pure none)
    (h1 : (assignEach [tg] X.env).map (·.2) = [assign tg X.env]) : SndS X W nf (.Assign [tg] e pos) (tgO f ft) := by
  obtain ⟨t, p, q⟩ := he.ex
  obtain ⟨g, p2, q2⟩ := hg.ex
  refine ⟨_, ps_asg p p2 hs hw h1, fun b fa σ H G sl fd D hn E B k => q fa σ H G sl fd _ E (Post.st B k fun d fd1 v H1 G1 E1 S1 B1 r1 k1 => ?_)⟩
  cases h : ft d sl with
  | none => simp only [h] at k1; exact k1.elim
  | some sl1 =>
    simp only [h] at k1
    exact q2 fa σ H1 G1 sl fd1 v d sl1 _ E1 r1 h fun σ' E2 _ _ o2 => k1 fa σ' H1 G1 E2 (B1.re fun j a z => B1.own j a (o2 j a z))
/-- a result, after the heap has changed -/
theorem ResOk.step {fa : Option Addr} {σ : St} {Ha Ga H1 G1 H2 G2 : Hp} {sl : List Sl} {fda : Fd} {v : V} {s : Sl} (E0 : EN X.K fa σ Ha Ga sl fda) (r : ResOk X.K Ha H1 G1 v s) (S : Step fa G1 H1 G2 H2) : ResOk X.K Ha H2 G2 v s := by
  have nf : ∀ a, Ha a = none → fa ≠ some a := fun a hn z => by
    obtain ⟨_, ⟨o, h⟩, _⟩ := E0.fdis a z
    rw [hn] at h; cases h
  have own : ∀ s : Sl, (∃ a, v = .ref a ∧ Ha a = none ∧ G1 a = none ∧ OwnO X.K H1 G1 a s) → ∃ a, v = .ref a ∧ Ha a = none ∧ G2 a = none ∧ OwnO X.K H2 G2 a s := fun s ⟨a, e, n, g, o⟩ => by
    refine ⟨a, e, n, ?_, o.mono S.sub fun u q => S.keep a u q (nf a n)⟩
    cases q : G2 a with
    | none => rfl
    | some u =>
      obtain ⟨⟨w, hw⟩, _⟩ := o.ex
      rcases S.new a u q with z | z
      · rw [g] at z; cases z
      · rw [hw] at z; cases z
  cases s with
  | val d => exact Rep.mono S.sub r
  | no => exact own _ r
  | fd => exact own _ r
  | lst xs => exact own _ r
  | dK xs => exact own _ r
  | dT xs => exact own _ r
/-- x, y = a, b -/
def parO (i j : Nat) (f g : List Sl → Fd → R Sl) (sl : List Sl) (fd : Fd) : O := (f sl fd).st sl fun s1 fd1 => (g sl fd1).st sl fun s2 fd2 => .nx ((sl.set i s1).set j s2) fd2
theorem sndx_par {i j : Nat} {x y : Str} {a c : Expr} {px py pt pos : Pos} {kt k2 pt2} {f g : List Sl → Fd → R Sl} (hc : X.calm = true) (hN : X.N.Nodup) (hi : X.N[i]? = some x) (hj : X.N[j]? = some y) (hij : i ≠ j)
    (hx : X.env.scope.names.lookup x = some .local) (hy : X.env.scope.names.lookup y = some .local) (h1 : SndR X W a f) (h2 : SndR X W c g)
    (hs1 : starEach [a, c] X.env = (false, eval a X.env) :: starEach [c] X.env) (hs2 : starEach [c] X.env = (false, eval c X.env) :: starEach [] X.env)
    (hw : swappedStores [.Tuple [.Name x px, .Name y py] kt pt] (.Tuple [a, c] k2 pt2) X.env = pure (some [x, y]))
    (hs : swapsWithSole [.Tuple [.Name x px, .Name y py] kt pt] (.Tuple [a, c] k2 pt2) pos.line X.env = pure false) :
    SndS X W nf (.Assign [.Tuple [.Name x px, .Name y py] kt pt] (.Tuple [a, c] k2 pt2) pos) (parO i j f g) := by
  obtain ⟨t1, p1, q1⟩ := h1.ex
  obtain ⟨t2, p2, q2⟩ := h2.ex
  refine ⟨_, ps_par hc hN hi hj hij hx hy (pa_cons p1 (pa_cons p2 pa_nil hs2) hs1) hw hs, fun b fa σ H G sl fd D hn E B k => ?_⟩
  refine q1 fa σ H G sl fd _ E (Post.st B k fun s1 fd1 v H1 G1 E1 S1 B1 r1 k1 => ?_)
  refine q2 fa σ H1 G1 sl fd1 _ E1 (Post.st B1 k1 fun s2 fd2 w H2 G2 E2 S2 B2 r2 k2 => ?_)
  refine ⟨v, w, rfl, ?_⟩
  have r1' := ResOk.step E r1 S2
  obtain ⟨E3, B3⟩ := lay E E2 B B2 r1' i
  -- the second is laid after the first
  have nf : ∀ a, H1 a = none → fa ≠ some a := fun a hn z => by
    obtain ⟨_, ⟨o, h⟩, _⟩ := E1.fdis a z
    rw [hn] at h; cases h
  have nn : ∀ a, H1 a = none → ∀ k, ¬ OwnAt (σ.set i (some v)) (sl.set i s1) k a := fun a hn k h => by
    rcases ownAt_set h with ⟨_, o, e⟩ | ⟨_, o⟩
    · injection e with e; subst e
      have : ∃ o, H1 a = some o := by
        cases s1 with
        | lst xs => obtain ⟨c, e, _, _, oo⟩ := r1; injection e with e; subst e; exact oo.ex.1
        | dK xs => obtain ⟨c, e, _, _, oo⟩ := r1; injection e with e; subst e; exact oo.ex.1
        | dT xs => obtain ⟨c, e, _, _, oo⟩ := r1; injection e with e; subst e; exact oo.ex.1
        | _ => cases o
      obtain ⟨o, e⟩ := this
      rw [hn] at e; cases e
    · exact E1.nown hn k o
  have fin : EN X.K fa ((σ.set i (some v)).set j (some w)) H2 G2 ((sl.set i s1).set j s2) fd2 ∧ Bs b fa ((σ.set i (some v)).set j (some w)) H2 G2 ((sl.set i s1).set j s2) := by
    cases s2 with
    | val d => exact ⟨E3.setV j rfl ⟨w, rfl, r2⟩, B3.setV j rfl⟩
    | no => obtain ⟨_, _, _, _, o⟩ := r2; exact o.elim
    | fd => obtain ⟨_, _, _, _, o⟩ := r2; exact o.elim
    | lst xs => obtain ⟨a, rfl, n, g, o⟩ := r2; exact ⟨E3.setO j rfl g o (nf a n) (nn a n), B3.setO j (B1.new n)⟩
    | dK xs => obtain ⟨a, rfl, n, g, o⟩ := r2; exact ⟨E3.setO j rfl g o (nf a n) (nn a n), B3.setO j (B1.new n)⟩
    | dT xs => obtain ⟨a, rfl, n, g, o⟩ := r2; exact ⟨E3.setO j rfl g o (nf a n) (nn a n), B3.setO j (B1.new n)⟩
  exact k2 fa _ H2 G2 fin.1 fin.2
/-! ### loops -/
def forGo (ft : D → List Sl → Option (List Sl)) (fb : List Sl → Fd → O) : List D → List Sl → Fd → O
  | [], sl, fd => .nx sl fd
  | d :: ds, sl, fd => match ft d sl with
    | none => .bad
    | some sl1 => match fb sl1 fd with
      | .nx sl2 fd2 => forGo ft fb ds sl2 fd2
      | .ct sl2 fd2 => forGo ft fb ds sl2 fd2
      | .brk sl2 fd2 => .nx sl2 fd2
      | o => o
def forO (fi : List Sl → Fd → R (Bool × List D)) (ft : D → List Sl → Option (List Sl)) (fb : List Sl → Fd → O) (sl : List Sl) (fd : Fd) : O := (fi sl fd).st sl fun p fd1 => if p.1 = true then forGo ft fb p.2 sl fd1 else .bad
theorem sndx_for {tg iter : Expr} {body : List Stmt} {pos : Pos} {I : List Nat} {fi : List Sl → Fd → R (Bool × List D)} {ft : D → List Sl → Option (List Sl)} {fb : List Sl → Fd → O} (tk : Takes X W) (hp : PassesOwn (model X.prog X.w) X.A X.env X.xe) (hc : X.calm = true)
    (hi : SndI X W tg iter fi) (hg : SndTg X tg I ft) (hb : SndSs X W nf body fb) (hs : ∀ x, foldedSetIterable iter X.env x = pure x) : SndS X W nf (.For tg iter body [] pos) (forO fi ft fb) := by
  obtain ⟨wi, pi, qi⟩ := hi.ex
  obtain ⟨g, pg, qg⟩ := hg.ex
  obtain ⟨tb, pb, qb⟩ := hb.ex
  refine ⟨_, ps_for hp hc pi pg pb hs, fun b fa σ H G sl fd D hn E B k => ?_⟩
  refine qi fa σ H G sl fd _ E (Post.st B k fun p fd1 J H1 G1 E1 S1 B1 it k1 => ?_)
  obtain ⟨fz, items⟩ := p
  have it : ItOk X.K fa H1 G1 J fz items := it
  have k1 : PostS X W b D (if fz = true then forGo ft fb items sl fd1 else .bad) := k1
  split at k1
  · rename_i hz
    subst hz
    let Wv : Nat → Nat → St → Hp → Prop := fun i m σ H => m = items.length - i ∧ i ≤ items.length ∧ ∃ fa G sl fd, EN X.K fa σ H G sl fd ∧ Bs b fa σ H G sl ∧ Sub G1 G ∧ PostS X W b D (forGo ft fb (items.drop i) sl fd)
    refine ⟨Wv, ⟨items.length, by simp, Nat.zero_le _, fa, G1, sl, fd1, E1, B1, Sub.refl, by simpa using k1⟩, ?_⟩
    rintro i m σc Hc ⟨rfl, hi, fc, Gc, slc, fdc, Ec, Bc, sc, kc⟩
    obtain ⟨itg, its⟩ := it i Gc Hc sc Ec.gh (fun z => by cases z)
    by_cases hlt : i < items.length
    · refine .inr ?_
      have hd : items[i]? = some items[i] := List.getElem?_eq_getElem hlt
      obtain ⟨go, yl⟩ := itg _ hd
      refine ⟨go, fun σ' H' => Wv (i + 1) (items.length - (i + 1)) σ' H', fun σ' H' p' => ⟨_, by omega, p'⟩, fun x Hx y => ?_⟩
      obtain ⟨Gx, sx, sx2, kx, nx, tx, rx⟩ := yl x Hx y
      have Sx : Step fc Gc Hc Gx Hx := ⟨sx, fun b o e _ => kx b o e, nx, fun a o _ e => ⟨o, kx a o e⟩, tx⟩
      have Ex := Ec.step Sx sx2 (Ec.fdo.step Sx fun a _ o e => kx a o e)
      have Bx := Bc.step Sx
      have edrop : items.drop i = items[i] :: items.drop (i + 1) := List.drop_eq_getElem_cons hlt
      rw [edrop] at kc
      unfold forGo at kc
      cases hft : ft items[i] slc with
      | none => simp only [hft] at kc; exact kc.elim
      | some sl2 =>
        simp only [hft] at kc
        refine qg fc σc Hx Gx slc fdc x _ sl2 _ Ex rx hft fun σ2 E2 l2 k2 o2 => ?_
        have B2 : Bs b fc σ2 Hx Gx sl2 := Bx.re fun j a z => Bx.own j a (o2 j a z)
        refine qb { b with Gm := Gx } fc σ2 Hx Gx sl2 fdc _ hn E2 B2.at ?_
        have un : ∀ {f σ H G sl}, Bs { b with Gm := Gx } f σ H G sl → Bs b f σ H G sl := fun z => z.un Bx.gm
        revert kc
        cases hfb : fb sl2 fdc with
        | bad => exact fun kc => kc
        | nx sl3 fd3 => exact fun kc f3 σ3 H3 G3 E3 B3 => ⟨rfl, hlt, f3, G3, sl3, fd3, E3, un B3, (sc.trans sx).trans B3.gm, kc⟩
        | ct sl3 fd3 => exact fun kc f3 σ3 H3 G3 E3 B3 => ⟨rfl, hlt, f3, G3, sl3, fd3, E3, un B3, (sc.trans sx).trans B3.gm, kc⟩
        | brk sl3 fd3 => exact fun kc f3 σ3 H3 G3 E3 B3 => kc f3 σ3 H3 G3 E3 (un B3)
        | ret s fd3 => exact fun kc => kc
        | exc c sl3 fd3 => exact fun kc f3 dx σ3 H3 G3 E3 B3 => kc f3 dx σ3 H3 G3 E3 (un B3)
    · have he : i = items.length := by omega
      subst he
      rw [List.drop_length] at kc
      exact .inl ⟨its (Nat.le_refl _), kc fc σc Hc Gc Ec Bc⟩
  · exact k1.elim
end
end PD

/-! PD15: objects that are written. -/
namespace PD
open PySem PySem.Spec PyProof.Rows L2

section
variable {X : Cx} {W : WX} {nf : Bool} {K : Frag} {b : Bas} {fa : Option Addr} {σ : St} {H G : Hp} {sl : List Sl} {fd : Fd}
theorem wr_own {i : Nat} {a : Addr} {s s' : Sl} {o' : HO} (E : EN K fa σ H G sl fd) (B : Bs b fa σ H G sl) (hs : sl[i]? = some s) (so : s.own = true) (hv : σ[i]? = some (some (.ref a))) (so' : s'.own = true) (oo : OwnO K (upd H a o') G a s') :
    EN K fa σ (upd H a o') G (sl.set i s') fd ∧ Bs b fa σ (upd H a o') G (sl.set i s') := by
  have me : OwnAt σ sl i a := ⟨hv, s, hs, so⟩
  obtain ⟨_, _, _, ga, o0⟩ := E.ownAt me
  have h0 := B.own i a me
  have om : ∀ j c, OwnAt σ (sl.set i s') j c → OwnAt σ sl j c := fun j c ⟨e, s1, e1, o1⟩ => by
    rcases getset_eq e1 with ⟨rfl, rfl, _⟩ | ⟨n, e1⟩
    · exact ⟨e, s, hs, so⟩
    · exact ⟨e, s1, e1, o1⟩
  have nfa : fa ≠ some a := fun z => (E.fdis a z).2.2 i me
  have gn : ∀ c u, G c = some u → c ≠ a := fun c u e z => by subst z; rw [ga] at e; cases e
  have tpn : TP G (upd H a o') := fun c xs e => by
    by_cases z : c = a
    · subst z; rw [upd_same] at e; injection e with e; subst e; cases s' <;> first | (obtain ⟨_, q, _⟩ := oo; rw [upd_same] at q; cases q; done) | (cases so'; done)
    · rw [upd_ne z] at e; exact E.tp c xs e
  refine ⟨⟨by rw [List.length_set]; exact E.len, fun c u e => by rw [upd_ne (gn c u e)]; exact E.gh c u e, fun j s1 e1 => ?_, fun j k c h1 h2 => E.dis j k c (om j c h1) (om k c h2), fun c e => ?_, fun p ds e => ?_, tpn⟩, ⟨⟨B.st.sub, fun c u e n => ?_, B.st.new, fun c u e q => ?_, fun _ => tpn⟩, fun j c h => B.own j c (om j c h), B.fa, B.nf, B.gm⟩⟩
  · rcases getset_eq e1 with ⟨rfl, rfl, _⟩ | ⟨n, e1⟩
    · exact (SlOk.ofOwn so').mpr ⟨a, hv, ga, oo⟩
    · have z := E.slot j s1 e1
      by_cases q : s1.own = true
      · obtain ⟨c, ec, gc, oc⟩ := (SlOk.ofOwn q).mp z
        have nc : c ≠ a := fun z => by
          subst z
          exact n (E.dis i j c me ⟨ec, s1, e1, q⟩)
        exact (SlOk.ofOwn q).mpr ⟨c, ec, gc, oc.mono Sub.refl fun u hu => by rw [upd_ne nc]; exact hu⟩
      · cases s1 <;> first | exact z | exact absurd rfl q
  · obtain ⟨g, ⟨u, hu⟩, n⟩ := E.fdis c e
    refine ⟨g, ⟨u, ?_⟩, fun j h => n j (om j c h)⟩
    rw [upd_ne (fun z => nfa (by rw [e, z]))]; exact hu
  · obtain ⟨c, vs, e1, e2, r⟩ := E.fdo p ds e
    exact ⟨c, vs, e1, by rw [upd_ne (fun z => nfa (by rw [e1, z]))]; exact e2, r⟩
  · rw [upd_ne (fun z => by subst z; rw [h0] at e; cases e)]; exact B.st.keep c u e n
  · obtain ⟨u', hu⟩ := B.st.fak c u e q
    by_cases z : c = a
    · exact ⟨o', by rw [z]; exact upd_same⟩
    · exact ⟨u', by rw [upd_ne z]; exact hu⟩
theorem wr_fd {a : Addr} {p : Bool} {vs : List V} {xs : List D} (E : EN K fa σ H G sl fd) (B : Bs b fa σ H G sl) (hf : fa = some a) (r : RepA K G vs xs) :
    EN K fa σ (upd H a (.lst vs)) G sl (some (p, xs)) ∧ Bs b fa σ (upd H a (.lst vs)) G sl := by
  obtain ⟨ga, ⟨u0, hu0⟩, na⟩ := E.fdis a hf
  have gn : ∀ c u, G c = some u → c ≠ a := fun c u e z => by subst z; rw [ga] at e; cases e
  have tpn : TP G (upd H a (.lst vs)) := fun c xs e => by
    by_cases z : c = a
    · subst z; rw [upd_same] at e; cases e
    · rw [upd_ne z] at e; exact E.tp c xs e
  refine ⟨⟨E.len, fun c u e => by rw [upd_ne (gn c u e)]; exact E.gh c u e, fun j s1 e1 => ?_, E.dis, fun c e => ?_, fun p' ds e => ?_, tpn⟩, ⟨⟨B.st.sub, fun c u e n => ?_, B.st.new, fun c u e q => ?_, fun _ => tpn⟩, B.own, B.fa, B.nf, B.gm⟩⟩
  · have z := E.slot j s1 e1
    by_cases q : s1.own = true
    · obtain ⟨c, ec, gc, oc⟩ := (SlOk.ofOwn q).mp z
      have nc : c ≠ a := fun z => by
        subst z
        exact na j ⟨ec, s1, e1, q⟩
      exact (SlOk.ofOwn q).mpr ⟨c, ec, gc, oc.mono Sub.refl fun u hu => by rw [upd_ne nc]; exact hu⟩
    · cases s1 <;> first | exact z | exact absurd rfl q
  · obtain ⟨g, ⟨u, hu⟩, n⟩ := E.fdis c e
    by_cases z : c = a
    · subst z; exact ⟨g, ⟨_, upd_same⟩, n⟩
    · exact ⟨g, ⟨u, by rw [upd_ne z]; exact hu⟩, n⟩
  · injection e with e; injection e with _ e; subst e
    exact ⟨a, vs, hf, upd_same, r⟩
  · have nc : c ≠ a := fun z => by
      subst z
      rcases B.fa with q | ⟨_, q⟩
      · exact n (q.symm.trans hf)
      · rw [q c hf] at e; cases e
    rw [upd_ne nc]; exact B.st.keep c u e n
  · obtain ⟨u', hu⟩ := B.st.fak c u e q
    by_cases z : c = a
    · exact ⟨.lst vs, by rw [z]; exact upd_same⟩
    · exact ⟨u', by rw [upd_ne z]; exact hu⟩
/-! ### append, extend -/
theorem E.lst {i : Nat} {xs : List D} (E : EN K fa σ H G sl fd) (h : sl[i]? = some (.lst xs)) : ∃ a vs, σ[i]? = some (some (.ref a)) ∧ G a = none ∧ H a = some (.lst vs) ∧ RepA K G vs xs := by
  obtain ⟨a, e, g, vs, hv, r⟩ := E.slot i _ h
  exact ⟨a, vs, e, g, hv, r⟩
def appO (i : Nat) (f : List Sl → Fd → R D) (sl : List Sl) (fd : Fd) : O := match sl[i]? with
  | some (.lst xs) => (f sl fd).st sl fun d fd1 => if xs.length < sizeLine then .nx (sl.set i (.lst (xs ++ [d]))) fd1 else .bad
  | _ => .bad
structure MOk (X : Cx) (e : Expr) (name : Str) (apos : Pos) (es : List Expr) (cpos pos : Pos) (ex : Expr) : Prop where
  hbase : attributeBase e name X.env (eval e X.env) = eval e X.env
  hline : (apos.endLine == cpos.line) = true
  hsw : swapsWith ex none pos.line X.env = pure false
theorem sndx_append {i : Nat} {x : Str} {e : Expr} {p0 apos cpos pos : Pos} {f : List Sl → Fd → R D} (hN : X.N[i]? = some x) (hv : Vis X.env.scope x) (hd : (x == ("__debug__" : Str)) = false) (hcd : (x == ("__classdict__" : Str)) = false) (h : SndE X W e f)
    (m : MOk X (.Name x p0) "append" apos [e] cpos pos (.Call (.Attribute (.Name x p0) "append" apos) [e] [] cpos))
    (hfew : ((backTo cpos (starEach [e] X.env)).all (fun x => !x.1) && (backToKw cpos (keywordEach [] X.env)).all (fun x => x.1.isSome) && decide ([e].length + ([] : List Keyword).length + (if ([] : List Keyword).isEmpty then 0 else 1) < 30)) = true)
    (hs : starEach [e] X.env = (false, eval e X.env) :: starEach [] X.env) (hplain : (backTo cpos (starEach [] X.env)).any (·.1) = false) :
    SndS X W nf (.Expr (.Call (.Attribute (.Name x p0) "append" apos) [e] [] cpos) pos) (appO i f) := by
  obtain ⟨t, p, q⟩ := h.ex
  refine ⟨_, ps_expr (pe_bm PySem.F.plainAttrs_list PySem.F.slot_list_append PySem.F.type_list_append mt_append (pe_var hN hv hd hcd) (pa_cons p pa_nil hs) m.hbase hfew m.hline hs hplain) m.hsw, fun b fa σ H G sl fd D hn E B k => ?_⟩
  unfold appO at k
  split at k
  · rename_i xs hx
    obtain ⟨a, vs, e1, ga, ha, ra⟩ := PD.E.lst E hx
    refine ⟨.ref a, e1, .inl ⟨rfl, _, .of ha⟩, ?_⟩
    refine q fa σ H G sl fd _ E (Post.st B k fun d fd1 v H1 G1 E1 S1 B1 r1 k1 => ?_)
    split at k1
    · rename_i hz
      obtain ⟨a', vs', e1', ga', ha', ra'⟩ := PD.E.lst E1 hx
      rw [e1] at e1'; cases e1'
      refine ⟨a, vs', v, rfl, rfl, ha', by rw [ra'.length]; exact hz, ?_⟩
      obtain ⟨E2, B2⟩ := wr_own (s' := .lst (xs ++ [d])) (o' := .lst (vs' ++ [v])) E1 B1 hx rfl e1 rfl ⟨_, upd_same, ra'.append (.cons r1 .nil)⟩
      exact k1 fa σ _ G1 E2 B2
    · exact k1.elim
  · exact k.elim
def extO (i : Nat) (f : List Sl → Fd → R D) (sl : List Sl) (fd : Fd) : O := match sl[i]? with
  | some (.lst xs) => (f sl fd).st sl fun d fd1 => match d with
    | .list ds => if xs.length + ds.length ≤ sizeLine then .nx (sl.set i (.lst (xs ++ ds))) fd1 else .bad
    | _ => .bad
  | _ => .bad
theorem sndx_extend {i : Nat} {x : Str} {e : Expr} {p0 apos cpos pos : Pos} {f : List Sl → Fd → R D} (hN : X.N[i]? = some x) (hv : Vis X.env.scope x) (hd : (x == ("__debug__" : Str)) = false) (hcd : (x == ("__classdict__" : Str)) = false) (h : SndE X W e f)
    (m : MOk X (.Name x p0) "extend" apos [e] cpos pos (.Call (.Attribute (.Name x p0) "extend" apos) [e] [] cpos))
    (hfew : ((backTo cpos (starEach [e] X.env)).all (fun x => !x.1) && (backToKw cpos (keywordEach [] X.env)).all (fun x => x.1.isSome) && decide ([e].length + ([] : List Keyword).length + (if ([] : List Keyword).isEmpty then 0 else 1) < 30)) = true)
    (hs : starEach [e] X.env = (false, eval e X.env) :: starEach [] X.env) (hplain : (backTo cpos (starEach [] X.env)).any (·.1) = false) :
    SndS X W nf (.Expr (.Call (.Attribute (.Name x p0) "extend" apos) [e] [] cpos) pos) (extO i f) := by
  obtain ⟨t, p, q⟩ := h.ex
  refine ⟨_, ps_expr (pe_bm PySem.F.plainAttrs_list PySem.F.slot_list_extend PySem.F.type_list_extend mt_extend (pe_var hN hv hd hcd) (pa_cons p pa_nil hs) m.hbase hfew m.hline hs hplain) m.hsw, fun b fa σ H G sl fd D hn E B k => ?_⟩
  unfold extO at k
  split at k
  · rename_i xs hx
    obtain ⟨a, vs, e1, ga, ha, ra⟩ := PD.E.lst E hx
    refine ⟨.ref a, e1, .inl ⟨rfl, _, .of ha⟩, ?_⟩
    refine q fa σ H G sl fd _ E (Post.st B k fun d fd1 v H1 G1 E1 S1 B1 r1 k1 => ?_)
    replace r1 : Rep X.K G1 v d := r1
    split at k1
    · rename_i ds
      split at k1
      · rename_i hz
        obtain ⟨a', vs', e1', ga', ha', ra'⟩ := PD.E.lst E1 hx
        rw [e1] at e1'; cases e1'
        cases r1 with
        | lst hb rb =>
          refine ⟨a, _, vs', _, rfl, rfl, ha', E1.gh _ _ hb, by rw [ra'.length, rb.length]; exact hz, ?_⟩
          obtain ⟨E2, B2⟩ := wr_own (s' := .lst (xs ++ ds)) (o' := .lst (vs' ++ _)) E1 B1 hx rfl e1 rfl ⟨_, upd_same, ra'.append rb⟩
          exact k1 fa σ _ G1 E2 B2
      · exact k1.elim
    · exact k1.elim
  · exact k.elim
/-! ### x[k] = e -/
def putO (i : Nat) (k d : D) (sl : List Sl) (fd : Fd) : O := match sl[i]? with
  | some (.lst xs) => (match k with
    | .int n => (match ixN xs.length n with
      | some j => .nx (sl.set i (.lst (xs.set j d))) fd
      | none => .bad)
    | _ => .bad)
  | some (.dK es) => if isKey k = true ∧ es.length < sizeLine then .nx (sl.set i (.dK (dput es k d))) fd else .bad
  | some (.dT es) => if isTKey k = true ∧ es.length < sizeLine then .nx (sl.set i (.dT (dput es k d))) fd else .bad
  | some .fd => (match fd with
    | some (p, xs) => (match k with
      | .int n => (match ixN xs.length n with
        | some j => .nx sl (some (p, xs.set j d))
        | none => .bad)
      | _ => .bad)
    | none => .bad)
  | _ => .bad
def stO (i : Nat) (fv fk : List Sl → Fd → R D) (sl : List Sl) (fd : Fd) : O := (fv sl fd).st sl fun d fd1 => match sl[i]? with
  | some .no => .bad
  | some (.val _) => .bad
  | none => .bad
  | some _ => (fk sl fd1).st sl fun k fd2 => putO i k d sl fd2
def rSetX : TSet := fun o i v H Q => rSetL o i v H Q ∨ rSetD o i v H Q
theorem set_x (hu : X.A.units + 1 < cLine) : PSet X rSetX := by
  intro pins s σ H o i v ov iv u Q I ro ri rv h
  rcases h with h | h
  · exact set_list pins s σ H o i v ov iv u Q I ro ri rv h
  · exact set_dict hu pins s σ H o i v ov iv u Q I ro ri rv h
theorem repKlen : ∀ {kvs : List (Key × V)} {es : List (D × D)}, RepK K G kvs es → kvs.length = es.length
  | _, _, .nil => rfl
  | _, _, .cons _ t => by simp [repKlen t]
theorem repTlen : ∀ {kvs : List (List Key × V)} {es : List (D × D)}, RepT K G kvs es → kvs.length = es.length
  | _, _, .nil => rfl
  | _, _, .cons _ t => by simp [repTlen t]
theorem sndx_store {i : Nat} {x : Str} {ie e : Expr} {p0 pos' pos : Pos} {fv fk : List Sl → Fd → R D} (hu : X.A.units + 1 < cLine) (hN : X.N[i]? = some x) (hv : Vis X.env.scope x) (hd : (x == ("__debug__" : Str)) = false) (hcd : (x == ("__classdict__" : Str)) = false) (he : SndE X W e fv) (hk : SndE X W ie fk)
    (ha : ∀ v, assign (.Subscript (.Name x p0) ie pos') X.env v = (do
      let ov ← holding [v] (eval (.Name x p0) X.env)
      let iv ← holding [v, ov] (eval ie X.env)
      standAt pos'
      holding [v, ov, iv] (setItem ov iv v)
      release [v, ov, iv] []))
    (hs : swapsWithSole [.Subscript (.Name x p0) ie pos'] e pos.line X.env = pure false) (hw : swappedStores [.Subscript (.Name x p0) ie pos'] e X.env = pure none)
    (h1 : (assignEach [.Subscript (.Name x p0) ie pos'] X.env).map (·.2) = [assign (.Subscript (.Name x p0) ie pos') X.env]) :
    SndS X W nf (.Assign [.Subscript (.Name x p0) ie pos'] e pos) (stO i fv fk) := by
  obtain ⟨t, p, q⟩ := he.ex
  obtain ⟨t2, p2, q2⟩ := hk.ex
  refine ⟨_, ps_asg p (pg_sub (pe_var hN hv hd hcd) p2 (set_x hu) ha) hs hw h1, fun b fa σ H G sl fd D hn E B k => ?_⟩
  refine q fa σ H G sl fd _ E (Post.st B k fun d fd1 v H1 G1 E1 S1 B1 r1 k1 => ?_)
  cases hx : sl[i]? with
  | none => simp only [hx] at k1; exact k1.elim
  | some s =>
    have go : ∀ o, σ[i]? = some (some o) → PostS X W b D ((fk sl fd1).st sl fun k fd2 => putO i k d sl fd2) → gSub (tVar i) t2 rSetX v σ H1 D.nx := fun o ho k1 => by
      refine ⟨o, ho, q2 fa σ H1 G1 sl fd1 _ E1 (Post.st B1 k1 fun kd fd2 kv H2 G2 E2 S2 B2 r2 k2 => ?_)⟩
      have r1' : Rep X.K G2 v d := Rep.mono S2.sub r1
      replace r2 : Rep X.K G2 kv kd := r2
      unfold putO at k2
      rw [hx] at k2
      cases s with
      | no => exact k2.elim
      | val _ => exact k2.elim
      | lst xs =>
        obtain ⟨a, vs, e1, ga, hh, ra⟩ := PD.E.lst E2 hx
        rw [ho] at e1; cases e1
        dsimp only at k2
        split at k2
        · rename_i n
          split at k2
          · rename_i j hj
            cases r2
            refine .inl ⟨a, vs, n, j, rfl, rfl, hh, by rw [ra.length]; exact hj, ?_⟩
            obtain ⟨E3, B3⟩ := wr_own (s' := .lst (xs.set j d)) (o' := .lst (vs.set j v)) E2 B2 hx rfl ho rfl ⟨_, upd_same, ra.set r1' j⟩
            exact k2 fa σ _ G2 E3 B3
          · exact k2.elim
        · exact k2.elim
      | dK es =>
        obtain ⟨a, e1, ga, kvs, hh, ra⟩ := E2.slot i _ hx
        rw [ho] at e1; cases e1
        dsimp only at k2
        split at k2
        · rename_i hc
          obtain ⟨kk, rfl⟩ := isKey_of hc.1
          have ek : kv = kV kk := by cases kk <;> (cases r2; rfl)
          subst ek
          refine .inr ⟨a, _, rfl, DPut.k hh (by rw [repKlen ra]; exact hc.2), ?_⟩
          obtain ⟨E3, B3⟩ := wr_own (s' := .dK (dput es (kD kk) d)) (o' := .dK (putK kvs kk v)) E2 B2 hx rfl ho rfl ⟨_, upd_same, repK_put kk r1' ra⟩
          exact k2 fa σ _ G2 E3 B3
        · exact k2.elim
      | dT es =>
        obtain ⟨a, e1, ga, kvs, hh, ra⟩ := E2.slot i _ hx
        rw [ho] at e1; cases e1
        dsimp only at k2
        split at k2
        · rename_i hc
          obtain ⟨ks, rfl⟩ := isTKey_of hc.1
          cases r2 with
          | tup hb rb =>
            have ev := keys_rep rb
            subst ev
            refine .inr ⟨a, _, rfl, DPut.t hh (E2.gh _ _ hb) (by rw [repTlen ra]; exact hc.2), ?_⟩
            obtain ⟨E3, B3⟩ := wr_own (s' := .dT (dput es (tkD ks) d)) (o' := .dT (putK kvs ks v)) E2 B2 hx rfl ho rfl ⟨_, upd_same, repT_put ks r1' ra⟩
            exact k2 fa σ _ G2 E3 B3
        · exact k2.elim
      | fd =>
        obtain ⟨a, ef, e1⟩ := E2.slot i _ hx
        rw [ho] at e1; cases e1
        dsimp only at k2
        split at k2
        · rename_i pf xs
          split at k2
          · rename_i n
            split at k2
            · rename_i j hj
              obtain ⟨a', vs, ef', hh, ra⟩ := E2.fdo pf xs rfl
              rw [ef] at ef'; cases ef'
              cases r2
              refine .inl ⟨a, vs, n, j, rfl, rfl, hh, by rw [ra.length]; exact hj, ?_⟩
              obtain ⟨E3, B3⟩ := wr_fd (p := pf) E2 B2 ef (ra.set r1' j)
              exact k2 fa σ _ G2 E3 B3
            · exact k2.elim
          · exact k2.elim
        · exact k2.elim
    cases s with
    | no => simp only [hx] at k1; exact k1.elim
    | val _ => simp only [hx] at k1; exact k1.elim
    | lst xs => simp only [hx] at k1; obtain ⟨a, e1, _⟩ := E1.slot i _ hx; exact go _ e1 k1
    | dK xs => simp only [hx] at k1; obtain ⟨a, e1, _⟩ := E1.slot i _ hx; exact go _ e1 k1
    | dT xs => simp only [hx] at k1; obtain ⟨a, e1, _⟩ := E1.slot i _ hx; exact go _ e1 k1
    | fd => simp only [hx] at k1; obtain ⟨a, _, e1⟩ := E1.slot i _ hx; exact go _ e1 k1
end
end PD

/-! PD16: pop, while, raise, ghosts, defs. -/
namespace PD
open PySem PySem.Spec PyProof.Rows L2

section
variable {X : Cx} {W : WX} {nf : Bool}
/-! ### pop -/
structure SndM (X : Cx) (W : WX) (nf : Bool) (e : Expr) (m : List Sl → Fd → (D → List Sl → Fd → O) → O) : Prop where
  ex : ∃ t, PE X e t ∧ ∀ b fa σ H G sl fd D Q k, b.nf = nf → EN X.K fa σ H G sl fd → Bs b fa σ H G sl → PostS X W b D (m sl fd k) →
    (∀ d sl1 fd1 v H1 G1, EN X.K fa σ H1 G1 sl1 fd1 → Bs b fa σ H1 G1 sl1 → Rep X.K G1 v d → PostS X W b D (k d sl1 fd1) → Q v H1) → t σ H Q
def atPop (xs : List D) (n : Int) : Option (D × List D) := if -(2 ^ 63) ≤ n ∧ n < 2 ^ 63 then (ixN xs.length n).bind fun j => (xs[j]?).map fun e => (e, xs.eraseIdx j) else none
def popM (i : Nat) (f : List Sl → Fd → R D) (sl : List Sl) (fd : Fd) (k : D → List Sl → Fd → O) : O := match sl[i]? with
  | some (.lst xs) => (f sl fd).st sl fun d fd1 => match d with
    | .int n => (match atPop xs n with
      | some (e, ys) => k e (sl.set i (.lst ys)) fd1
      | none => .bad)
    | _ => .bad
  | _ => .bad
theorem RepA.erase {K : Frag} {G : Hp} : ∀ {v : List V} {d : List D} (n : Nat), RepA K G v d → RepA K G (v.eraseIdx n) (d.eraseIdx n)
  | _, _, _, .nil => .nil
  | _, _, 0, .cons _ t => t
  | _, _, n + 1, .cons h t => .cons h (RepA.erase n t)
theorem RepA.dropL {K : Frag} {G : Hp} : ∀ {v : List V} {d : List D}, RepA K G v d → RepA K G v.dropLast d.dropLast
  | _, _, .nil => .nil
  | _, _, .cons _ .nil => .nil
  | _, _, .cons h (.cons h2 t) => .cons h (RepA.dropL (.cons h2 t))
theorem sndm_popAt {i : Nat} {x : Str} {e : Expr} {p0 apos cpos : Pos} {f : List Sl → Fd → R D} (hN : X.N[i]? = some x) (hv : Vis X.env.scope x) (hd : (x == ("__debug__" : Str)) = false) (hcd : (x == ("__classdict__" : Str)) = false) (h : SndE X W e f)
    (hbase : attributeBase (.Name x p0) "pop" X.env (eval (.Name x p0) X.env) = eval (.Name x p0) X.env) (hline : (apos.endLine == cpos.line) = true)
    (hfew : ((backTo cpos (starEach [e] X.env)).all (fun x => !x.1) && (backToKw cpos (keywordEach [] X.env)).all (fun x => x.1.isSome) && decide ([e].length + ([] : List Keyword).length + (if ([] : List Keyword).isEmpty then 0 else 1) < 30)) = true)
    (hs : starEach [e] X.env = (false, eval e X.env) :: starEach [] X.env) (hplain : (backTo cpos (starEach [] X.env)).any (·.1) = false) :
    SndM X W nf (.Call (.Attribute (.Name x p0) "pop" apos) [e] [] cpos) (popM i f) := by
  obtain ⟨t, p, q⟩ := h.ex
  refine ⟨_, pe_bm PySem.F.plainAttrs_list PySem.F.slot_list_pop PySem.F.type_list_pop mt_popAt (pe_var hN hv hd hcd) (pa_cons p pa_nil hs) hbase hfew hline hs hplain, fun b fa σ H G sl fd D Q k hn E B k0 kQ => ?_⟩
  unfold popM at k0
  split at k0
  · rename_i xs hx
    obtain ⟨a, vs, e1, ga, ha, ra⟩ := PD.E.lst E hx
    refine ⟨.ref a, e1, .inl ⟨rfl, _, .of ha⟩, ?_⟩
    refine q fa σ H G sl fd _ E (Post.st B k0 fun d fd1 v H1 G1 E1 S1 B1 r1 k1 => ?_)
    replace r1 : Rep X.K G1 v d := r1
    split at k1
    · rename_i n
      cases r1
      obtain ⟨a', vs', e1', ga', ha', ra'⟩ := PD.E.lst E1 hx
      rw [e1] at e1'; cases e1'
      split at k1
      · rename_i el ys hp
        unfold atPop at hp
        split at hp
        · rename_i hb
          obtain ⟨j, hj, hp⟩ := Option.bind_eq_some_iff.mp hp
          obtain ⟨el', he, hp⟩ := Option.map_eq_some_iff.mp hp
          injection hp with h1 h2; subst h1; subst h2
          obtain ⟨u, hu, ru⟩ := ra'.get he
          rw [← ra'.length] at hj
          refine ⟨a, vs', n, j, u, rfl, rfl, ha', hb.1, hb.2, (ixN_seq hj).1, hu, ?_⟩
          obtain ⟨E2, B2⟩ := wr_own (s' := .lst (xs.eraseIdx j)) (o' := .lst (vs'.eraseIdx j)) E1 B1 hx rfl e1 rfl ⟨_, upd_same, RepA.erase j ra'⟩
          exact kQ _ _ fd1 u _ G1 E2 B2 ru k1
        · cases hp
      · exact k1.elim
    · exact k1.elim
  · exact k0.elim
def popL (i : Nat) (sl : List Sl) (fd : Fd) (k : D → List Sl → Fd → O) : O := match sl[i]? with
  | some (.lst xs) => (match xs[xs.length - 1]? with
    | some e => k e (sl.set i (.lst xs.dropLast)) fd
    | none => .bad)
  | _ => .bad
theorem sndm_pop {i : Nat} {x : Str} {p0 apos cpos : Pos} (hN : X.N[i]? = some x) (hv : Vis X.env.scope x) (hd : (x == ("__debug__" : Str)) = false) (hcd : (x == ("__classdict__" : Str)) = false)
    (hbase : attributeBase (.Name x p0) "pop" X.env (eval (.Name x p0) X.env) = eval (.Name x p0) X.env) (hline : (apos.endLine == cpos.line) = true) :
    SndM X W nf (.Call (.Attribute (.Name x p0) "pop" apos) [] [] cpos) (popL i) := by
  refine ⟨_, pe_bm0 PySem.F.plainAttrs_list PySem.F.slot_list_pop PySem.F.type_list_pop mt_pop (pe_var hN hv hd hcd) hbase hline, fun b fa σ H G sl fd D Q k hn E B k0 kQ => ?_⟩
  unfold popL at k0
  split at k0
  · rename_i xs hx
    obtain ⟨a, vs, e1, ga, ha, ra⟩ := PD.E.lst E hx
    split at k0
    · rename_i el he
      obtain ⟨u, hu, ru⟩ := ra.get he
      rw [← ra.length] at hu
      refine ⟨.ref a, e1, .inl ⟨rfl, _, .of ha⟩, a, vs, u, rfl, rfl, ha, hu, ?_⟩
      obtain ⟨E2, B2⟩ := wr_own (s' := .lst xs.dropLast) (o' := .lst vs.dropLast) E B hx rfl e1 rfl ⟨_, upd_same, RepA.dropL ra⟩
      exact kQ _ _ fd u _ G E2 B2 ru k0
    · exact k0.elim
  · exact k0.elim
def setM (i : Nat) (m : List Sl → Fd → (D → List Sl → Fd → O) → O) (sl : List Sl) (fd : Fd) : O := m sl fd fun d sl1 fd1 => .nx (sl1.set i (.val d)) fd1
theorem sndx_setM {i : Nat} {x : Str} {e : Expr} {pos pos' : Pos} {m : List Sl → Fd → (D → List Sl → Fd → O) → O} (hN : X.N.Nodup) (hi : X.N[i]? = some x) (hx : Loc X.env.scope x) (hf : X.fn x = true ∨ X.env.scope.names.lookup x = some .local) (h : SndM X W nf e m)
    (hs : swapsWith e (some (.Name x pos')) pos.line X.env = pure false) : SndS X W nf (.Assign [.Name x pos'] e pos) (setM i m) := by
  obtain ⟨t, p, q⟩ := h.ex
  refine ⟨_, ps_set hN hi hx p hs hf, fun b fa σ H G sl fd D hn E B k => q b fa σ H G sl fd D _ _ hn E B k fun d sl1 fd1 v H1 G1 E1 B1 r1 k1 => ?_⟩
  exact k1 fa _ H1 G1 (E1.setV i rfl ⟨v, rfl, r1⟩) (B1.setV i rfl)
def appM (i : Nat) (m : List Sl → Fd → (D → List Sl → Fd → O) → O) (sl : List Sl) (fd : Fd) : O := match sl[i]? with
  | some (.lst _) => m sl fd fun d sl1 fd1 => match sl1[i]? with
    | some (.lst xs) => if xs.length < sizeLine then .nx (sl1.set i (.lst (xs ++ [d]))) fd1 else .bad
    | _ => .bad
  | _ => .bad
theorem sndx_appM {i : Nat} {x : Str} {e : Expr} {p0 apos cpos pos : Pos} {f : List Sl → Fd → (D → List Sl → Fd → O) → O} (hN : X.N[i]? = some x) (hv : Vis X.env.scope x) (hd : (x == ("__debug__" : Str)) = false) (hcd : (x == ("__classdict__" : Str)) = false) (h : SndM X W nf e f)
    (m : MOk X (.Name x p0) "append" apos [e] cpos pos (.Call (.Attribute (.Name x p0) "append" apos) [e] [] cpos))
    (hfew : ((backTo cpos (starEach [e] X.env)).all (fun x => !x.1) && (backToKw cpos (keywordEach [] X.env)).all (fun x => x.1.isSome) && decide ([e].length + ([] : List Keyword).length + (if ([] : List Keyword).isEmpty then 0 else 1) < 30)) = true)
    (hs : starEach [e] X.env = (false, eval e X.env) :: starEach [] X.env) (hplain : (backTo cpos (starEach [] X.env)).any (·.1) = false) :
    SndS X W nf (.Expr (.Call (.Attribute (.Name x p0) "append" apos) [e] [] cpos) pos) (appM i f) := by
  obtain ⟨t, p, q⟩ := h.ex
  refine ⟨_, ps_expr (pe_bm PySem.F.plainAttrs_list PySem.F.slot_list_append PySem.F.type_list_append mt_append (pe_var hN hv hd hcd) (pa_cons p pa_nil hs) m.hbase hfew m.hline hs hplain) m.hsw, fun b fa σ H G sl fd D hn E B k => ?_⟩
  unfold appM at k
  split at k
  · rename_i xs0 hx0
    obtain ⟨a, vs, e1, ga, ha, ra⟩ := PD.E.lst E hx0
    refine ⟨.ref a, e1, .inl ⟨rfl, _, .of ha⟩, ?_⟩
    refine q b fa σ H G sl fd D _ _ hn E B k fun d sl1 fd1 v H1 G1 E1 B1 r1 k1 => ?_
    split at k1
    · rename_i xs hx
      split at k1
      · rename_i hz
        obtain ⟨a', vs', e1', ga', ha', ra'⟩ := PD.E.lst E1 hx
        rw [e1] at e1'; cases e1'
        refine ⟨a, vs', v, rfl, rfl, ha', by rw [ra'.length]; exact hz, ?_⟩
        obtain ⟨E2, B2⟩ := wr_own (s' := .lst (xs ++ [d])) (o' := .lst (vs' ++ [v])) E1 B1 hx rfl e1 rfl ⟨_, upd_same, ra'.append (.cons r1 .nil)⟩
        exact k1 fa σ _ G1 E2 B2
      · exact k1.elim
    · exact k1.elim
  · exact k.elim
/-! ### x += e -/
def augO (op : Int → Int → Int) (i : Nat) (f : List Sl → Fd → R D) (sl : List Sl) (fd : Fd) : O := match sl[i]? with
  | some (.val (.int a)) => (f sl fd).st sl fun d fd1 => match d with
    | .int c => .nx (sl.set i (.val (.int (op a c)))) fd1
    | _ => .bad
  | _ => .bad
theorem sndx_aug {op : Operator} {g : Int → Int → Int} {i : Nat} {x : Str} {e : Expr} {pos pos' : Pos} {f : List Sl → Fd → R D} (ho : PIp X op (ipI g)) (hN : X.N.Nodup) (hi : X.N[i]? = some x) (hx : Loc X.env.scope x) (hf : X.fn x = true ∨ X.env.scope.names.lookup x = some .local) (h : SndE X W e f) :
    SndS X W nf (.AugAssign (.Name x pos') op e pos) (augO g i f) := by
  obtain ⟨t, p, q⟩ := h.ex
  refine ⟨_, ps_aug hN hi hx p ho hf, fun b fa σ H G sl fd D hn E B k => ?_⟩
  unfold augO at k
  split at k
  · rename_i a hx
    obtain ⟨v0, e0, r0⟩ := E.slot i _ hx
    cases r0
    refine ⟨_, e0, q fa σ H G sl fd _ E (Post.st B k fun d fd1 v H1 G1 E1 S1 B1 r1 k1 => ?_)⟩
    replace r1 : Rep X.K G1 v d := r1
    split at k1
    · cases r1
      refine ⟨_, _, rfl, rfl, ?_⟩
      exact k1 fa _ H1 G1 (E1.setV i rfl ⟨_, rfl, .int _⟩) (B1.setV i rfl)
    · exact k1.elim
  · exact k.elim
/-! ### while -/
def whileGo (fc : List Sl → Fd → R Bool) (fb : List Sl → Fd → O) : Nat → List Sl → Fd → O
  | 0, _, _ => .bad
  | n + 1, sl, fd => (fc sl fd).st sl fun c fd1 => if c = true then (match fb sl fd1 with
      | .nx sl2 fd2 => whileGo fc fb n sl2 fd2
      | .ct sl2 fd2 => whileGo fc fb n sl2 fd2
      | .brk sl2 fd2 => .nx sl2 fd2
      | o => o) else .nx sl fd1
theorem sndx_while {c : Expr} {body : List Stmt} {pos : Pos} {fc : List Sl → Fd → R Bool} {fb : List Sl → Fd → O} {N : List Sl → Fd → Nat} (hp : PassesOwn (model X.prog X.w) X.A X.env X.xe) (hc : SndT X W c fc) (hb : SndSs X W nf body fb) :
    SndS X W nf (.While c body [] pos) fun sl fd => whileGo fc fb (N sl fd) sl fd := by
  obtain ⟨t, p, q⟩ := hc.ex
  obtain ⟨tb, pb, qb⟩ := hb.ex
  refine ⟨_, ps_while hp p pb, fun b fa σ H G sl fd D hn E B k => ?_⟩
  let Wv : Nat → St → Hp → Prop := fun m σ H => ∃ fa G sl fd, EN X.K fa σ H G sl fd ∧ Bs b fa σ H G sl ∧ PostS X W b D (whileGo fc fb m sl fd)
  refine ⟨Wv, ⟨N sl fd, fa, G, sl, fd, E, B, k⟩, ?_⟩
  rintro m σc Hc ⟨fc', Gc, slc, fdc, Ec, Bc, kc⟩
  cases m with
  | zero => exact kc.elim
  | succ m =>
    unfold whileGo at kc
    refine q fc' σc Hc Gc slc fdc _ Ec (Post.st Bc kc fun d fd1 v H1 G1 E1 S1 B1 r1 k1 => ?_)
    have ev : v = d := r1
    subst ev
    show if v = true then _ else _
    split
    · rename_i hv
      rw [if_pos hv] at k1
      refine ⟨fun σ' H' => Wv m σ' H', fun σ' H' w => ⟨m, Nat.lt_succ_self m, w⟩, ?_⟩
      refine qb b fc' σc H1 G1 slc fd1 _ hn E1 B1 ?_
      revert k1
      cases hfb : fb slc fd1 with
      | bad => exact fun kc => kc
      | nx sl3 fd3 => exact fun kc f3 σ3 H3 G3 E3 B3 => ⟨f3, G3, sl3, fd3, E3, B3, kc⟩
      | ct sl3 fd3 => exact fun kc f3 σ3 H3 G3 E3 B3 => ⟨f3, G3, sl3, fd3, E3, B3, kc⟩
      | brk sl3 fd3 => exact fun kc => kc
      | ret s fd3 => exact fun kc => kc
      | exc c sl3 fd3 => exact fun kc => kc
    · rename_i hv
      rw [if_neg hv] at k1
      exact k1 fc' σc H1 G1 E1 B1
/-! ### raise -/
structure ClsF (K : Frag) (mg : Str → Option Value) (x : Str) : Prop where
  ex : ∃ (C : Addr) (B newId initId : String) (bmB : List Value), ExcBaseFacts B newId initId bmB ∧ PySem.W.excIn K C bmB newId = true ∧ mg x = some (.ref C) ∧ PySem.W.keepIn K (.ref C) = true ∧
    PySem.W.subIn K (.ref C) (.type "BaseException") = some true ∧ PySem.W.typeIn K (.ref C) = some (.type "type")
theorem sndx_raise {x m : Str} {j : Nat} {p p2 pos pos' : Pos} (hc : X.calm = true) (tk : Takes X W) (F : ClsF X.K X.mg x) (hg : Gl X x) (hdb : (x == ("__debug__" : Str)) = false) :
    SndS X W nf (.Raise (some (.Call (.Name x p) [.Constant (.str m) j p2] [] pos)) none pos') fun sl fd => .exc x sl fd := by
  obtain ⟨C, B0, newId, initId, bmB, F, q, gC, kC, h1, h2⟩ := F.ex
  refine ⟨_, ps_raise hc tk (pmk_own F q gC kC (raises_own h1 h2) hg hdb), fun b fa σ H G sl fd D hn E B k => ?_⟩
  have k : ∀ fa dx σ H G, EN X.K fa σ H G sl fd → Bs b fa σ H G sl → W (excV X.mg x) dx σ H := k
  have e : excV X.mg x = .ref C := by unfold excV; rw [gC]; rfl
  rw [e] at k
  exact k fa none σ H G E B
/-! ### ghosts -/
def kill (sl : List Sl) : List Nat → List Sl
  | [] => sl
  | i :: is => (kill sl is).set i .no
theorem kill_ok {b : Bas} {fa : Option Addr} {σ : St} {H G : Hp} {sl : List Sl} {fd : Fd} (E : EN X.K fa σ H G sl fd) (B : Bs b fa σ H G sl) : ∀ is, EN X.K fa σ H G (kill sl is) fd ∧ Bs b fa σ H G (kill sl is)
  | [] => ⟨E, B⟩
  | i :: is => by
    obtain ⟨E1, B1⟩ := kill_ok E B is
    have om : ∀ j c, OwnAt σ ((kill sl is).set i .no) j c → OwnAt σ (kill sl is) j c := fun j c ⟨e, s1, e1, o1⟩ => by
      rcases getset_eq e1 with ⟨_, rfl, _⟩ | ⟨n, e1⟩
      · cases o1
      · exact ⟨e, s1, e1, o1⟩
    refine ⟨⟨by unfold kill; rw [List.length_set]; exact E1.len, E1.gh, fun j s e => ?_, fun j k c h1 h2 => E1.dis j k c (om j c h1) (om k c h2), fun c e => ?_, E1.fdo, E1.tp⟩, B1.re fun j c h => B1.own j c (om j c h)⟩
    · rcases getset_eq e with ⟨_, rfl, _⟩ | ⟨n, e⟩
      · trivial
      · exact E1.slot j s e
    · obtain ⟨g, o, n⟩ := E1.fdis c e
      exact ⟨g, o, fun j h => n j (om j c h)⟩
def O.kl (I : List Nat) : O → O
  | .nx sl fd => .nx (kill sl I) fd
  | o => o
theorem PostS.kl {b : Bas} {D : Ends} {I : List Nat} {o : O} (h : PostS X W b D (o.kl I)) : PostS X W b D o := by
  cases o with
  | nx sl fd => exact fun fa σ H G E B => h fa σ H G (kill_ok E B I).1 (kill_ok E B I).2
  | _ => exact h
/-- after a statement some slots are no longer wanted -/
theorem SndS.kl {s : Stmt} {f : List Sl → Fd → O} (I : List Nat) (h : SndS X W nf s f) : SndS X W nf s fun sl fd => (f sl fd).kl I := by
  obtain ⟨t, p, q⟩ := h.ex
  exact ⟨t, p, fun b fa σ H G sl fd D hn E B k => q b fa σ H G sl fd D hn E B k.kl⟩
/-- before it -/
theorem SndS.pkl {s : Stmt} {f : List Sl → Fd → O} (I : List Nat) (h : SndS X W nf s f) : SndS X W nf s fun sl fd => f (kill sl I) fd := by
  obtain ⟨t, p, q⟩ := h.ex
  exact ⟨t, p, fun b fa σ H G sl fd D hn E B k => q b fa σ H G _ fd D hn (kill_ok E B I).1 (kill_ok E B I).2 k⟩
theorem SndSs.pkl {s : List Stmt} {f : List Sl → Fd → O} (I : List Nat) (h : SndSs X W nf s f) : SndSs X W nf s fun sl fd => f (kill sl I) fd := by
  obtain ⟨t, p, q⟩ := h.ex
  exact ⟨t, p, fun b fa σ H G sl fd D hn E B k => q b fa σ H G _ fd D hn (kill_ok E B I).1 (kill_ok E B I).2 k⟩
def fzS (i : Nat) (sl : List Sl) : List Sl := match sl[i]? with
  | some s => if s.own = true then (match frz s with
    | some d => sl.set i (.val d)
    | none => sl) else sl
  | none => sl
theorem fz_ok {b : Bas} {fa : Option Addr} {σ : St} {H G : Hp} {sl : List Sl} {fd : Fd} (E : EN X.K fa σ H G sl fd) (B : Bs b fa σ H G sl) (i : Nat) : ∃ G', EN X.K fa σ H G' (fzS i sl) fd ∧ Bs b fa σ H G' (fzS i sl) := by
  unfold fzS
  split
  · rename_i s hs
    split
    · rename_i ho
      split
      · rename_i d hd
        obtain ⟨a, e, g, o⟩ := (SlOk.ofOwn ho).mp (E.slot i s hs)
        have me : OwnAt σ sl i a := ⟨e, s, hs, ho⟩
        obtain ⟨u, hu, r⟩ := o.frz E.gh g hd
        have sub : Sub G (upd G a u) := fun c w q => by rw [upd_ne (ne_of_none q g)]; exact q
        have om : ∀ j c, OwnAt σ (sl.set i (.val d)) j c → OwnAt σ sl j c ∧ c ≠ a := fun j c ⟨e1, s1, e2, o1⟩ => by
          rcases getset_eq e2 with ⟨_, rfl, _⟩ | ⟨n, e2⟩
          · cases o1
          · refine ⟨⟨e1, s1, e2, o1⟩, fun z => ?_⟩
            subst z
            exact n (E.dis i j c me ⟨e1, s1, e2, o1⟩)
        have nfa : fa ≠ some a := fun z => (E.fdis a z).2.2 i me
        have tpn : TP (upd G a u) H := fun c xs q => sub c _ (E.tp c xs q)
        refine ⟨upd G a u, ⟨by rw [List.length_set]; exact E.len, E.gh.fz hu, fun j s1 e1 => ?_, fun j k c h1 h2 => E.dis j k c (om j c h1).1 (om k c h2).1, fun c ec => ?_, fun p ds e1 => ?_, tpn⟩, ⟨⟨B.st.sub.trans sub, B.st.keep, fun c w q => ?_, B.st.fak, fun _ => tpn⟩, fun j c h => B.own j c (om j c h).1, B.fa, B.nf, B.gm.trans sub⟩⟩
        · rcases getset_eq e1 with ⟨rfl, rfl, _⟩ | ⟨n, e1⟩
          · exact ⟨_, e, r⟩
          · have z := E.slot j s1 e1
            by_cases q : s1.own = true
            · obtain ⟨c, ec, gc, oc⟩ := (SlOk.ofOwn q).mp z
              have nc : c ≠ a := fun z => by
                subst z
                exact n (E.dis i j c me ⟨ec, s1, e1, q⟩)
              exact (SlOk.ofOwn q).mpr ⟨c, ec, by rw [upd_ne nc]; exact gc, oc.mono sub fun _ hu => hu⟩
            · cases s1 with
              | val d' => obtain ⟨x, ex, rx⟩ := z; exact ⟨x, ex, rx.mono sub⟩
              | no => trivial
              | fd => exact z
              | _ => exact absurd rfl q
        · obtain ⟨g2, o2, n⟩ := E.fdis c ec
          refine ⟨?_, o2, fun j h => n j (om j c h).1⟩
          rw [upd_ne (fun z => nfa (by rw [ec, z]))]; exact g2
        · obtain ⟨c, vs, e2, e3, r3⟩ := E.fdo p ds e1
          exact ⟨c, vs, e2, e3, r3.mono sub⟩
        · by_cases z : c = a
          · subst z; exact .inr (B.own i c me)
          · rw [upd_ne z] at q; exact B.st.new c w q
      · exact ⟨G, E, B⟩
    · exact ⟨G, E, B⟩
  · exact ⟨G, E, B⟩
theorem SndS.pfz {s : Stmt} {f : List Sl → Fd → O} (i : Nat) (h : SndS X W nf s f) : SndS X W nf s fun sl fd => f (fzS i sl) fd := by
  obtain ⟨t, p, q⟩ := h.ex
  exact ⟨t, p, fun b fa σ H G sl fd D hn E B k => by
    obtain ⟨G', E', B'⟩ := fz_ok E B i
    exact q b fa σ H G' _ fd D hn E' B' k⟩
end
end PD

/-! PD17: defs. -/
namespace PD
open PySem PySem.Spec PyProof.Rows L2

def outFd (fd0 fd : Fd) : Fd := match fd0 with
  | none => none
  | some _ => fd
def fnM (nf : Bool) (N : Nat) (body : List Sl → Fd → O) : Fm := fun as fd => if nf = true ∧ fd.isSome = true then .bad else match body (as ++ List.replicate (N - as.length) .no) fd with
  | .nx _ fd1 => .ok (.val .none) (outFd fd fd1)
  | .ret s fd1 => .ok s (outFd fd fd1)
  | .exc c _ fd1 => .exc c (outFd fd fd1)
  | _ => .bad
abbrev FnP (K : Frag) (x : Str) (st : Stmt) (f : Addr) (fd : FuncData) : Prop := FunD K x x (defArgs st) (defBody st) (defScope st) [] [] f fd
abbrev WE0 (E : XK) : WX := fun cls d _ H => E cls d H
section
variable {P : Program} {w : World} {K : Frag} {mg : Str → Option Value} {base : Heap}
theorem start_get {N : List Str} {vs : List V} {i : Nat} (h : i < vs.length) : (L2.start N vs)[i]? = (vs.map some)[i]? := by
  unfold L2.start
  rw [List.getElem?_append_left (by rw [List.length_map]; exact h)]
theorem fn_ok {x : Str} {st : Stmt} {f : Addr} {fd0 : FuncData} {N ps : List Str} {k : Nat} {nf : Bool} {body : List Sl → Fd → O} (F : FnP K x st f fd0) (S : FnScope N ps (defScope st)) (hbd : Binds K fd0 ps [])
    (hb : ∀ (cdv : Value) (A : Around) (outer : List Env) (s : Shared) (H : Hp) (E : XK), Room k (A.deeper (envOfC x (defScope st) s.heap.objs.size f cdv)) →
      SndSs (cxOf (L2.CX P w) P w K mg base N x (defScope st) f cdv A outer s H E) (WE0 E) nf (defBody st) body) :
    FnOk P w K mg base (L2.CX P w) (k + 1) f fd0 ps (spD K mg ps.length (fnM nf N.length body)) := by
  refine FunD.ok F S (fun vs H Q E h => ?_) (fun cdv A outer s H vs Q E hr h => ?_)
  · obtain ⟨fa, G, as, fd, _, _, _, _, hl, _⟩ := h
    exact hl
  · obtain ⟨fa, G, as, fd, E0, hz, har, hl, hn, hm⟩ := h
    obtain ⟨t, p, q⟩ := (hb cdv A outer s H E hr).ex
    refine ⟨t, p, ?_⟩
    have noOwn : ∀ (i : Nat) s0, (as ++ List.replicate (N.length - as.length) Sl.no)[i]? = some s0 → s0.own = false := fun i s0 e => by
      rcases List.mem_append.mp (List.mem_of_getElem? e) with m | m
      · have := List.all_eq_true.mp har s0 m
        cases s0 <;> first | rfl | cases this
      · rw [(List.mem_replicate.mp m).2]; rfl
    have noAt : ∀ i a, ¬ OwnAt (L2.start N vs) (as ++ List.replicate (N.length - as.length) Sl.no) i a := fun i a ⟨_, s0, e, o⟩ => by rw [noOwn i s0 e] at o; cases o
    have hNl : ps.length ≤ N.length := by have := congrArg List.length S.pre; rw [List.length_take] at this; omega
    have E1 : EN K fa (L2.start N vs) H G (as ++ List.replicate (N.length - as.length) Sl.no) fd := by
      refine ⟨?_, E0.gh, fun i s0 e => ?_, fun i j a h1 => absurd h1 (noAt i a), fun a e => ⟨(E0.fdis a e).1, (E0.fdis a e).2.1, fun i => noAt i a⟩, E0.fdo, E0.tp⟩
      · unfold L2.start; simp [hl]
      · by_cases hi : i < as.length
        · rw [List.getElem?_append_left hi] at e
          have := E0.slot i s0 e
          rw [start_get (by rw [← hl]; exact hi)]
          exact this
        · have : s0 = .no := by
            rw [List.getElem?_append_right (by omega)] at e
            exact (List.mem_replicate.mp (List.mem_of_getElem? e)).2
          subst this
          trivial
    unfold fnM at hm
    by_cases hc : nf = true ∧ fd.isSome = true
    · rw [if_pos hc] at hm; exact hm.elim
    · rw [if_neg hc] at hm
      have fnil : nf = true → fa = none := fun hnf => by
        cases fd with
        | none => exact hz rfl
        | some _ => exact absurd ⟨hnf, rfl⟩ hc
      have fdb : ∀ {fa1 : Option Addr} {H' G' : Hp} {fd1 : Fd}, (fa1 = fa ∨ fa = none) → FdOk K fa1 H' G' fd1 → FdOk K fa H' G' (outFd fd fd1) := fun {fa1 H' G' fd1} hfa h => by
        cases hfd : fd with
        | none => intro p ds e; cases e
        | some w0 =>
          obtain ⟨p0, xs0⟩ := w0
          obtain ⟨a, _, e1, _⟩ := E0.fdo p0 xs0 hfd
          rcases hfa with rfl | e
          · exact h
          · rw [e1] at e; cases e
      refine q ⟨nf, fa, G, H, G⟩ fa (L2.start N vs) H G _ fd _ rfl E1 ⟨Step.refl, fun i a h => absurd h (noAt i a), .inl rfl, fnil, Sub.refl⟩ ?_
      revert hm
      cases body (as ++ List.replicate (N.length - as.length) Sl.no) fd with
      | bad => exact fun z => z
      | brk sl fd1 => exact fun z => z.elim
      | ct sl fd1 => exact fun z => z.elim
      | nx sl fd1 => exact fun hm fa1 σ1 H1 G1 E2 B2 => hm .non H1 G1 B2.st E2.gh (fdb (B2.fa.imp id (·.1)) E2.fdo) .non
      | ret s0 fd1 => exact fun hm fa1 v H1 G1 hfa gh S2 hfd r => hm v H1 G1 S2 gh (fdb hfa hfd) r
      | exc c sl fd1 => exact fun hm fa1 dx σ1 H1 G1 E2 B2 => hm dx H1 G1 B2.st E2.gh (fdb (B2.fa.imp id (·.1)) E2.fdo)
/-- a def keeps its promise, by name -/
theorem fnF_of {x : Str} {st : Stmt} {f : Addr} {fd0 : FuncData} {N ps : List Str} {k : Nat} {nf : Bool} {body : List Sl → Fd → O} (F : FnP K x st f fd0) (hm : mg x = some (.ref f)) (S : FnScope N ps (defScope st)) (hbd : Binds K fd0 ps [])
    (hb : ∀ (cdv : Value) (A : Around) (outer : List Env) (s : Shared) (H : Hp) (E : XK), Room k (A.deeper (envOfC x (defScope st) s.heap.objs.size f cdv)) →
      SndSs (cxOf (L2.CX P w) P w K mg base N x (defScope st) f cdv A outer s H E) (WE0 E) nf (defBody st) body) : FnF P w K mg base (k + 1) x ps.length (fnM nf N.length body) :=
  ⟨f, fd0, ps, rfl, fn_ok F S hbd hb, hm, F.kp, hbd⟩
theorem FnF.mono {j k n : Nat} {x : Str} {m : Fm} (h : FnF P w K mg base j x n m) (hj : j ≤ k) : FnF P w K mg base k x n m := by
  obtain ⟨f, fd, ps, e, ok, r⟩ := h.ex
  exact ⟨f, fd, ps, e, ok.mono hj, r⟩
end
/-! ### a def's context -/
section
variable {P : Program} {w : World} {K : Frag} {mg : Str → Option Value} {base : Heap} {N : List Str} {qual : Str} {scope : Scope} {f : Addr} {cdv : Value} {A : Around} {outer : List Env} {s : Shared} {H : Hp} {E : XK}
theorem tk0 : Takes (cxOf (L2.CX P w) P w K mg base N qual scope f cdv A outer s H E) (WE0 E) := takes_of rfl rfl rfl rfl
theorem po0 : PassesOwn (model P w) (cxOf (L2.CX P w) P w K mg base N qual scope f cdv A outer s H E).A (cxOf (L2.CX P w) P w K mg base N qual scope f cdv A outer s H E).env (cxOf (L2.CX P w) P w K mg base N qual scope f cdv A outer s H E).xe :=
  passes_of (X := cxOf (L2.CX P w) P w K mg base N qual scope f cdv A outer s H E) rfl
theorem tkW {X : Cx} : Takes X W0 := fun u s' ⟨a, B, sI, pins, σ, H, cls, d, e, I, nb, up, sky, na, os, ag, w⟩ => w.elim
end
end PD

/-! PD18: more expressions. -/
namespace PD
open PySem PySem.Spec PyProof.Rows L2

section
variable {X : Cx} {W : WX} {nf : Bool}
/-- a name of the module that holds an int -/
theorem snd_glob {x : Str} {i : Int} {pos : Pos} (hg : Gl X x) (hm : ∃ t, X.mg x = some (.int i t)) (hd : (x == ("__debug__" : Str)) = false) : SndE X W (.Name x pos) fun _ fd => .ok (.int i) fd := by
  obtain ⟨t, hm⟩ := hm
  exact snd_const (pe_glob (v := .int i) hg hm ⟨t, rfl⟩ hd) fun G => .int i
theorem snd_globS {x z : Str} {pos : Pos} (hg : Gl X x) (hm : ∃ t, X.mg x = some (.str z t)) (hd : (x == ("__debug__" : Str)) = false) : SndE X W (.Name x pos) fun _ fd => .ok (.str z) fd := by
  obtain ⟨t, hm⟩ := hm
  exact snd_const (pe_glob (v := .str z) hg hm ⟨t, rfl⟩ hd) fun G => .str z
/-! ### built-ins that want every tuple to stay -/
theorem snd_biT {e : Expr} {es : List Expr} {fs : List Sl → Fd → R (List Pk)} {r : List V → Hp → VK → Prop} {g : List D → Option Sl}
    (mk : ∀ t, PA X es t → PE X e (tCB r t)) (hs : SndPs X W es fs)
    (hg : ∀ H G xs ds s Q, TP G H → Sub G H → CReps X.K H G xs ds → g ds = some s → Out X.K H G s Q → r xs H Q) :
    SndR X W e fun sl fd => (fs sl fd).bind fun ps fd1 => match lookPs sl fd1 ps with
      | some ds => R.opt (g ds) fd1
      | none => .bad := by
  obtain ⟨t, p, q⟩ := hs.ex
  refine ⟨_, mk t p, fun fa σ H G sl fd Q E k => ?_⟩
  refine q fa σ H G sl fd _ E (Post.bindR k fun ps fd1 xs H1 G1 E1 S1 r1 k1 => ?_)
  cases h1 : lookPs sl fd1 ps with
  | none => simp only [h1] at k1; exact k1.elim
  | some ds =>
    simp only [h1] at k1
    cases hs : g ds with
    | none => rw [hs] at k1; exact k1.elim
    | some s =>
      rw [hs] at k1
      exact hg H1 G1 xs ds s Q E1.tp E1.gh (looks_ok E1 r1 h1) hs (Out.post E1 k1)
theorem keyReads {pins : List (Addr × Obj)} {σ : St} {H : Hp} {s : Shared} (I : Inv X pins σ H s) {b : Addr} {k : List Key} (hb : H b = some (.tup (k.map kV))) : Reads s.heap (.ref b) (tkD k) [] := by
  obtain ⟨_, its, rv, o, h1, h2, n, h3⟩ := (show ObjOk X.prog X.w H s.heap b (.tup (k.map kV)) from I.hok b _ hb)
  have go : ∀ (k : List Key) (us : List Value), Vals (k.map kV) us → ReadsAll s.heap us (k.map kD) [] := fun k => by
    induction k with
    | nil => intro us r; cases r; exact .nil
    | cons x k ih =>
      intro us r
      cases r with
      | @cons _ u _ us r rr =>
        have : Reads s.heap u (kD x) [] := by
          cases x with
          | inl i => obtain ⟨t, rfl⟩ := r; exact .int i t
          | inr z => obtain ⟨t, rfl⟩ := r; exact .str z t
        exact .cons (as := []) (bs := []) this (ih us rr)
  exact .tuple h1 h2 h3 (by simpa using go k its rv)
def rSortT (K : Frag) : List V → Hp → VK → Prop := fun xs H Q => ∃ d kvs, xs = [V.ref d] ∧ H d = some (.dT kvs) ∧ srtOk (kvs.map fun p => tkD p.1) = true ∧ kvs.length ≤ sizeLine ∧
  ∀ p bs, H p = none → IsKeys H kvs bs → Q (.ref p) (upd H p (.lst (sortV (bs.map V.ref) (kvs.map fun p => tkD p.1))))
theorem dpKeys {K : Frag} {H : Hp} : ∀ {ks : List Key}, PySem.W.alikeAll (ks.map kD) (ks.map kD) = true → DpAll K H (ks.map kV) (ks.map kD)
  | [], _ => .nil
  | k :: ks, h => by
    simp only [List.map_cons, PySem.W.alikeAll, Bool.and_eq_true] at h
    refine .cons ?_ (dpKeys h.2)
    cases k with
    | inl i => exact .int i
    | inr s => exact .str s
theorem dpRefs {K : Frag} {H : Hp} : ∀ {kvs : List (List Key × V)} {bs : List Addr}, IsKeys H kvs bs → (∀ p ∈ kvs, PySem.W.alike (tkD p.1) (tkD p.1) = true) → DpAll K H (bs.map V.ref) (kvs.map fun p => tkD p.1)
  | _, _, .nil, _ => .nil
  | p :: kvs, _, .cons h t, ha => by
    refine .cons ?_ (dpRefs t fun q hq => ha q (by simp [hq]))
    have := ha p (by simp)
    simp only [tkD, PySem.W.alike] at this
    exact .tup (.of h) (dpKeys this)
theorem repRefs {K : Frag} {H G : Hp} (tp : TP G H) : ∀ {kvs : List (List Key × V)} {bs : List Addr}, IsKeys H kvs bs → RepA K G (bs.map V.ref) (kvs.map fun p => tkD p.1)
  | _, _, .nil => .nil
  | p :: kvs, _, .cons h t => by
    refine .cons ?_ (repRefs tp t)
    have keys : ∀ ks : List Key, RepA K G (ks.map kV) (ks.map kD) := fun ks => by
      induction ks with
      | nil => exact .nil
      | cons k ks ih =>
        refine .cons ?_ ih
        cases k with
        | inl i => exact .int i
        | inr s => exact .str s
    exact .tup (tp _ _ h) (keys p.1)
theorem call_sortT (hc : X.calm = true) (hu : X.A.units + 64 < cLine) : CallR X (.builtin "sorted") (rSortT X.K) := by
  intro pins s σ H xs us Q I r h
  obtain ⟨d, kvs, rfl, hd, ok, hz, q⟩ := h
  obtain ⟨u, rfl, rx⟩ := vals1 r
  cases rx
  obtain ⟨z, hs, ks, pr, o, es, ep, ho, hx, hdt, he, hn⟩ := (show ObjOk X.prog X.w H s.heap d (.dT kvs) from I.hok d _ hd)
  have l1 : es.size = ks.length := size_of_entries he
  have l2 : kvs.length = ks.length := Paired.length pr
  obtain ⟨o1, o2, o3⟩ := srtOk_ok ok
  refine Calls.call_function_entry PyProof.Rows.kind_sorted PyProof.Rows.plain_sorted PyProof.Rows.entry_sorted (PyProof.Rows.args_sorted1 _) ?_
  unfold Builtin.«sorted»
  refine wpAny_bind (m := checkCount "sorted" 1 1 _) (wpAny_pure ?_)
  refine wpAny_bind (PySem.W.kdu_collect (A := X.A.in1) (kdl_raw (prog := X.prog) (w := X.w) hs hx hdt) (I.ok.hd hc) ho (by omega) fun h' tk acc hk it => ?_)
  have hl : acc.toList.length = ks.length := by rw [Array.length_toList, it.1]; exact l1
  have ea : acc.toList = ks.map fun x => Value.ref x.2.1 := by
    apply List.ext_getElem?
    intro j
    rw [List.getElem?_map]
    cases hj : acc.toList[j]? with
    | none =>
      have h1 := List.getElem?_eq_none_iff.mp hj
      rw [List.getElem?_eq_none (by omega)]
      all_goals rfl
    | some v =>
      obtain ⟨en, hen, hv⟩ := it.2 j v (by rw [← Array.getElem?_toList]; exact hj)
      have qe := entry_at he j
      rw [hen] at qe
      cases hb : ks[j]? with
      | none =>
        rw [hb] at qe
        exact nomatch (show some en = none from qe)
      | some b =>
        rw [hb] at qe
        have e2 : en = entryOfKey (tupleKind (mixKind X.prog X.w)) b := Option.some.inj qe
        rw [hv, e2]
        all_goals rfl
  have eb : acc.toList = (ks.map fun x => x.2.1).map Value.ref := by rw [ea, List.map_map]; all_goals rfl
  have ik : IsKeys H kvs (ks.map fun x => x.2.1) := L2.isKeys_of pr
  have rv : Vals ((ks.map fun x => x.2.1).map V.ref) acc.toList := by rw [eb]; exact vals_refs _
  have I1 : Inv X pins σ H { s with heap := h', toks := tk } := I.kept hk
  have dp : DpAll X.K H ((ks.map fun x => x.2.1).map V.ref) (kvs.map fun p => tkD p.1) := dpRefs ik fun p hp => o1 _ (List.mem_map.mpr ⟨p, hp, rfl⟩) _ (List.mem_map.mpr ⟨p, hp, rfl⟩)
  -- the new list
  refine wpAny_bind (wpAny_newList ?_ (by rw [hl]; omega))
  show wpAny _ _ _ _ _ { s with heap := h'.push (seqObj "list" acc.toList.toArray 0), toks := tk }
  have hoL : (h'.push (seqObj "list" acc.toList.toArray 0)).get? h'.objs.size = some (seqObj "list" acc.toList.toArray 0) := Heap.get?_push_size _ rfl
  have I2 : Inv X pins σ H { s with heap := h'.push (seqObj "list" acc.toList.toArray 0), toks := tk } := I1.kept (t' := tk) fun b o e => Heap.get?_push_of_some _ e
  obtain ⟨e1, e2, e3, e4⟩ := dpAll_reads I1 dp rv
  have hl2 : (((ks.map fun x => x.2.1).map V.ref).zip (kvs.map fun p => tkD p.1)).length = ks.length := by have := congrArg List.length e4; rw [List.length_map, List.length_map, List.length_map] at this; exact this
  have e2' : PySem.W.EachIs (fun (u : Value) (b : V × D) => ∃ as, Reads (h'.push (seqObj "list" acc.toList.toArray 0)) u b.2 as ∧ h'.objs.size ∉ as) acc.toList (((ks.map fun x => x.2.1).map V.ref).zip (kvs.map fun p => tkD p.1)) := by
    have go : ∀ {kv : List (List Key × V)} {bs : List Addr}, IsKeys H kv bs → PySem.W.EachIs (fun (u : Value) (b : V × D) => ∃ as, Reads (h'.push (seqObj "list" acc.toList.toArray 0)) u b.2 as ∧ h'.objs.size ∉ as) (bs.map Value.ref) ((bs.map V.ref).zip (kv.map fun p => tkD p.1)) := by
      intro kv bs ik
      unfold IsKeys at ik
      induction ik with
      | nil => exact .nil
      | cons h t ih => exact .cons ⟨[], keyReads I2 h, by simp⟩ ih
    have := go ik
    rw [← eb] at this
    exact this
  refine wpAny_bind (wpAny_holding (PySem.W.list_sort_data (R := fun (u : Value) (b : V × D) => RelV b.1 u) (enc := fun b : V × D => b.2) hoL e1 e2' (by rw [e3]; exact o1) (by rw [e3]; exact o2) (by rw [hl2]; omega)
    (fun b hb => ?_) fun out hout eo => ?_))
  · have := o3 b.2 (by rw [← e3]; exact List.mem_map.mpr ⟨b, hb, rfl⟩)
    show X.A.units + 1 + 1 + b.2.depth < cLine
    omega
  · obtain ⟨n, hn⟩ := PyProof.Rows.sortedHeap_at (vs := acc.toList) (out := out.toArray) hoL
    have hlen : (sortV ((ks.map fun x => x.2.1).map V.ref) (kvs.map fun p => tkD p.1)).length ≤ sizeLine := by
      unfold sortV
      rw [List.length_map, List.length_mergeSort, hl2]; omega
    refine wpAny_pure ⟨_, rfl, .ref h'.objs.size, upd H h'.objs.size (.lst (sortV ((ks.map fun x => x.2.1).map V.ref) (kvs.map fun p => tkD p.1))), I1.laid (t' := tk) (fun b u e => ?_) (Nat.le_refl _)
      (show ObjOk X.prog X.w _ _ _ (.lst _) from ⟨hlen, out, n, each_vals (f := Prod.fst) eo, hn⟩), rfl, q _ _ (I1.hok.fresh (Nat.le_refl _)) ik⟩
    have hb : b < h'.objs.size := Heap.lt_size e
    rw [PyProof.Rows.sortedHeap_old (Nat.ne_of_lt hb) (by rw [size_push']; exact Nat.lt_succ_of_lt hb)]
    exact Heap.get?_push_of_some _ e
end
end PD

/-! PD19: sorted of dicts, list(range), isinstance of several, displays, keyword calls. -/
namespace PD
open PySem PySem.Spec PyProof.Rows L2

section
variable {X : Cx} {W : WX} {nf : Bool}
/-- sorted: of a list, of a dict with tuple keys -/
def gSorted : List D → Option Sl
  | [.list ds] => if srtOk ds = true then some (.lst (srt ds)) else none
  | [.dict d] => (match dparts (.dict d) with
    | some (true, es) => if srtOk (es.map (·.1)) = true ∧ es.length ≤ sizeLine ∧ (es.all fun p => isTKey p.1) = true then some (.lst (srt (es.map (·.1)))) else none
    | _ => none)
  | _ => none
theorem repT_keys {K : Frag} {G : Hp} : ∀ {kvs : List (List Key × V)} {es : List (D × D)}, RepT K G kvs es → es.map (·.1) = kvs.map fun p => tkD p.1
  | _, _, .nil => rfl
  | _, _, .cons h t => by simp [repT_keys t]
theorem CRep.dT' {K : Frag} {H G : Hp} {v : V} {es : List (D × D)} (gh : Sub G H) (h : CRep K H G v (.dict ((.bool true, .none) :: es))) : ∃ a kvs, v = .ref a ∧ H a = some (.dT kvs) ∧ RepT K G kvs es := by
  rcases h with h | ⟨a, s', rfl, o, e⟩
  · generalize hd : (PyData.dict ((PyData.bool true, PyData.none) :: es)) = dd at h
    cases h with
    | dT h t => injection hd with hd; injection hd with _ hd; subst hd; exact ⟨_, _, rfl, gh _ _ h, t⟩
    | dK h t =>
      injection hd with hd
      subst hd
      exact (repK_nob t).elim
    | scr h => injection hd with hd; injection hd with hd; cases hd
    | _ => cases hd
  · cases s' with
    | dT xs => injection e with e; injection e with e; injection e with _ e; subst e; obtain ⟨vs, q, r⟩ := o; exact ⟨a, vs, rfl, q, r⟩
    | dK xs =>
      injection e with e; injection e with e; subst e
      obtain ⟨vs, q, r⟩ := o
      exact (repK_nob r).elim
    | lst xs => injection e with e; cases e
    | _ => exact o.elim
theorem call_sorted2 (hc : X.calm = true) (hu : X.A.units + 64 < cLine) : CallR X (.builtin "sorted") (fun xs H Q => rSortD X.K xs H Q ∨ rSortT X.K xs H Q) := by
  intro pins s σ H xs us Q I r h
  rcases h with h | h
  · exact call_sortD hu pins s σ H xs us Q I r h
  · exact call_sortT hc hu pins s σ H xs us Q I r h
theorem hg_sorted (H G : Hp) (xs : List V) (ds : List D) (s : Sl) (Q : VK) (tp : TP G H) (gh : Sub G H) (hx : CReps X.K H G xs ds) (e : gSorted ds = some s) (k : Out X.K H G s Q) : rSortD X.K xs H Q ∨ rSortT X.K xs H Q := by
  unfold gSorted at e
  split at e
  · exact .inl (hg_sort H G xs _ s Q gh hx e k)
  · rename_i d
    split at e
    · rename_i es hp
      split at e
      · rename_i ok
        injection e with e; subst e
        obtain ⟨x, rfl, h⟩ := creps1 hx
        have ed : d = (.bool true, .none) :: es := by
          unfold dparts at hp
          split at hp
          · rename_i e1; injection e1 with e1; injection hp with hp; injection hp with _ hp; subst hp; exact e1
          · cases hp
          · injection hp with hp; injection hp with hp; cases hp
          · cases hp
        subst ed
        obtain ⟨a, kvs, rfl, ha, r⟩ := CRep.dT' gh h
        rw [repT_keys r] at ok k
        refine .inr ⟨a, kvs, rfl, ha, ok.1, by rw [repTlen r]; exact ok.2.1, fun p bs hp ik => ?_⟩
        exact k.newL gh (sortV_rep (repRefs tp ik)) p hp
      · cases e
    · cases e
  · cases e
/-! ### list(range(n)) -/
def lrD : D → Option Sl
  | .int n => if 0 ≤ n ∧ n ≤ 16777216 then some (.lst ((List.range n.toNat).map fun i => .int (i : Nat))) else none
  | _ => none
theorem repA_ints {K : Frag} {G : Hp} : ∀ ns : List Int, RepA K G (ns.map V.int) (ns.map PyData.int)
  | [] => .nil
  | n :: ns => .cons (.int n) (repA_ints ns)
theorem snd_lrg {a : Expr} {p pos p2 pos2 : Pos} {f : List Sl → Fd → R D} (hc : X.calm = true) (hg : Gl X "list") (hm : X.mg "list" = none) (hg2 : Gl X "range") (hm2 : X.mg "range" = none) (h : SndE X W a f)
    (n1 : starEach [a] X.env = (false, eval a X.env) :: starEach [] X.env) (n2 : starEach [Expr.Call (.Name "range" p2) [a] [] pos2] X.env = (false, eval (.Call (.Name "range" p2) [a] [] pos2) X.env) :: starEach [] X.env) :
    SndR X W (.Call (.Name "list" p) [.Call (.Name "range" p2) [a] [] pos2] [] pos) fun sl fd => (f sl fd).bind fun d fd1 => R.opt (lrD d) fd1 := by
  obtain ⟨t, pa, q⟩ := h.ex
  refine ⟨_, pe_listRg hc hg hm (prg_1 hg2 hm2 pa n1) n2, fun fa σ H G sl fd Q E k => ?_⟩
  refine q fa σ H G sl fd _ E (Post.bindR k fun d fd1 x H1 G1 E1 S1 r1 k1 => ?_)
  replace r1 : Rep X.K G1 x d := r1
  unfold lrD at k1
  split at k1
  · rename_i n
    split at k1
    · rename_i hz
      cases r1
      refine ⟨n, rfl, ⟨by omega, by omega, by omega, by omega, by omega⟩, fun p hp => ?_⟩
      have e1 : rgV 0 n = ((List.range n.toNat).map fun i => ((i : Nat) : Int)).map V.int := by
        unfold rgV
        rw [List.map_map, Int.sub_zero]
        refine List.map_congr_left fun i _ => ?_
        simp
      have e2 : ((List.range n.toNat).map fun i => PyData.int (i : Nat)) = ((List.range n.toNat).map fun i => ((i : Nat) : Int)).map PyData.int := by rw [List.map_map]; rfl
      rw [e1]
      refine (Out.post (W := W) E1 ?_).newL E1.gh (repA_ints _) p hp
      rw [← e2]
      exact k1
    · exact k1.elim
  · exact k1.elim
/-! ### isinstance(x, (T, U)) -/
theorem kitAny2 {K : Frag} {d : D} {T U : String} (hT : isiT T = true) (hU : isiT U = true) : PySem.W.kitAny K (.type (tyN d)) [.type T, .type U] = some (isiD d T || isiD d U) := by
  have h1 := kit_ty (K := K) (kit_isi d T hT)
  have h2 := kit_ty (K := K) (kit_isi d U hU)
  show (match PySem.W.kitOne K (.type (tyN d)) (.type T) with
    | some true => some true
    | some false => PySem.W.kitAny K (.type (tyN d)) [.type U]
    | none => none) = _
  rw [h1]
  cases isiD d T with
  | true => rfl
  | false =>
    show (match PySem.W.kitOne K (.type (tyN d)) (.type U) with
      | some true => some true
      | some false => some false
      | none => none) = _
    rw [h2]
    cases isiD d U <;> rfl
def isi2 (T U : String) : D → Option Bool := fun d => if noScr d = true then some (isiD d T || isiD d U) else none
theorem snd_isi2 {a : Expr} {T U : String} {x y : Str} {kk : Nat} {p px py pt pos : Pos} {f : List Sl → Fd → R Pk} (ha : SndP X W a f) (hT : isiT T = true) (hU : isiT U = true) (hg : Gl X "isinstance") (hm : X.mg "isinstance" = none) (hgT : Gl X x) (hmT : X.mg x = none) (hgU : Gl X y) (hmU : X.mg y = none)
    (hbT : bootBuiltins x = some (.type T)) (hbU : bootBuiltins y = some (.type U)) (hn : x ≠ "__name__") (hn2 : y ≠ "__name__") (hd : (x == ("__debug__" : Str)) = false) (hd2 : (y == ("__debug__" : Str)) = false)
    (hst : starEach [a, .Tuple [.Name x px, .Name y py] kk pt] X.env = (false, eval a X.env) :: starEach [.Tuple [.Name x px, .Name y py] kk pt] X.env) :
    SndR X W (.Call (.Name "isinstance" p) [a, .Tuple [.Name x px, .Name y py] kk pt] [] pos) fun sl fd => (f sl fd).bind fun q fd1 => match lookP sl fd1 q with
      | some d => R.opt (blO (isi2 T U d)) fd1
      | none => .bad := by
  obtain ⟨t, p0, q0⟩ := ha.ex
  have pt2 := pe_tup (x1 := kk) (pos := pt) (pa_cons (pe_bltn (X := X) (pos := px) (v := .ty T) hgT hmT hbT rfl hn hd) (pa_cons (pe_bltn (X := X) (pos := py) (v := .ty U) hgU hmU hbU rfl hn2 hd2) pa_nil rfl) rfl)
  refine ⟨_, pe_callB call_isiT hg hm (by decide +kernel) (pa_cons p0 (pa_cons pt2 pa_nil rfl) hst) (by decide) (by decide) hst rfl, fun fa σ H G sl fd Q E k => ?_⟩
  refine q0 fa σ H G sl fd _ E (Post.bindR k fun q fd1 v H1 G1 E1 S1 r1 k1 => ?_)
  refine ⟨(by show 2 ≤ sizeLine; decide), fun tp hp => ?_⟩
  have E2 := E1.frz (o := .tup [.ty T, .ty U]) hp
  have S2 := Step.frz (fa := fa) (o := HO.tup [.ty T, .ty U]) E1.gh hp
  cases hd : lookP sl fd1 q with
  | none => simp only [hd] at k1; exact k1.elim
  | some d =>
    simp only [hd] at k1
    unfold isi2 at k1
    split at k1
    · rename_i ns
      have lk : CRep X.K (upd H1 tp (.tup [.ty T, .ty U])) (upd G1 tp (.tup [.ty T, .ty U])) v d := look_ok E2 ((show PkOk X.K σ G1 v q from r1).step S2.sub) hd
      exact ⟨v, tp, _, _, _, _, rfl, upd_same, .cons (.ty T) (.cons (.ty U) .nil), ty_ok E2.gh lk ns, kitAny2 hT hU, k1 _ _ _ E2 S2 (.bl _)⟩
    · exact k1.elim
/-! ### {k: v, ..}, constants -/
inductive CKs (X : Cx) : List (Option Expr) → List Expr → List (Key × V) → List (D × D) → Prop
  | nil : CKs X [] [] [] []
  | cons {k v : Expr} {ks : List (Option Expr)} {vs : List Expr} {kk : Key} {kv : V} {d : D} {kvs : List (Key × V)} {es : List (D × D)} (hk : PE X k (tC (kV kk))) (hv : PE X v (tC kv)) (hr : ∀ G, Rep X.K G kv d) (t : CKs X ks vs kvs es) :
    CKs X (some k :: ks) (v :: vs) ((kk, kv) :: kvs) ((kD kk, d) :: es)
theorem CKs.pps {pos : Pos} : ∀ {ks : List (Option Expr)} {vs : List Expr} {kvs : List (Key × V)} {es : List (D × D)}, CKs X ks vs kvs es →
    PPs X pos ks vs (kvs.map fun p => (tC (kV p.1), tC p.2)) ∧ (∀ σ H Q, Q (kvs.map fun kv => (kV kv.1, kv.2)) H → tPairs (kvs.map fun p => (tC (kV p.1), tC p.2)) σ H Q) ∧ (∀ G, RepK X.K G kvs es) ∧ ks.all (·.isSome) = true ∧ ks.length = vs.length ∧ ks.length = kvs.length
  | _, _, _, _, .nil => ⟨pps_nil, fun σ H Q k => k, fun G => .nil, rfl, rfl, rfl⟩
  | _, _, _, _, .cons hk hv hr t => by
    obtain ⟨a, b, c, d, e, f⟩ := CKs.pps (pos := pos) t
    exact ⟨pps_cons hk hv a, fun σ H Q k => b σ H _ k, fun G => .cons (hr G) (c G), by simpa using d, by simp [e], by simp [f]⟩
def mergeD (es : List (D × D)) : List (D × D) := es.foldl (fun acc p => dput acc p.1 p.2) []
theorem merge_rep {K : Frag} {G : Hp} : ∀ {kvs : List (Key × V)} {es : List (D × D)} {k0 : List (Key × V)} {e0 : List (D × D)}, RepK K G kvs es → RepK K G k0 e0 → RepK K G (mergeK k0 kvs) (es.foldl (fun acc p => dput acc p.1 p.2) e0)
  | _, _, _, _, .nil, h => h
  | _, _, k0, e0, .cons (k := k) (v := v) (kvs := kvs) (d := d) (es := es) r t, h => by
    show RepK K G (mergeK (putK k0 k v) kvs) (List.foldl (fun acc p => dput acc p.1 p.2) (dput e0 (kD k) d) es)
    exact merge_rep t (repK_put _ r h)
theorem snd_disp {keys : List (Option Expr)} {values : List Expr} {pos : Pos} {kvs : List (Key × V)} {es : List (D × D)} (h : CKs X keys values kvs es) (h0 : keys ≠ []) (h15 : keys.length ≤ 15) :
    SndR X W (.Dict keys values pos) fun _ fd => .ok (.dK (mergeD es)) fd := by
  obtain ⟨a, b, c, d, e, f⟩ := h.pps (pos := pos)
  refine ⟨_, pe_disp a d e h0 h15, fun fa σ H G sl fd Q E k p hp => b _ _ _ ⟨upd_same, kvs, rfl, by omega, ?_⟩⟩
  have eu : upd (upd H p (.dK [])) p (.dK (mergeK [] kvs)) = upd H p (.dK (mergeK [] kvs)) := by
    funext z
    by_cases q : z = p
    · subst q; rw [upd_same, upd_same]
    · rw [upd_ne q, upd_ne q, upd_ne q]
  rw [eu]
  have gp : G p = none := by
    cases q : G p with
    | none => rfl
    | some u => rw [E.gh _ _ q] at hp; cases hp
  exact k (.ref p) _ G (E.owned hp) (Step.own hp) ⟨p, rfl, hp, gp, mergeK [] kvs, upd_same, merge_rep (c G) .nil⟩
/-! ### f(name=e) -/
/-- the parameters from the first on are named -/
structure FnK (P : Program) (w : World) (K : Frag) (mg : Str → Option Value) (base : Heap) (k : Nat) (x : Str) (n : Nat) (ks : List Str) (m : Fm) : Prop where
  ex : ∃ f fd ps, ps.length = n ∧ FnOk P w K mg base (L2.CX P w) k f fd ps (spD K mg n m) ∧ mg x = some (.ref f) ∧ PySem.W.keepIn K (.ref f) = true ∧ KBinds K fd ps ks (fun us ws => us ++ ws) (fun us ws => us ++ ws)
theorem run_kwS {k : Nat} {f : Addr} {fd0 : FuncData} {ps ks : List Str} {sp : Sp} {E : St → XK} {pins : List (Addr × Obj)} {σ : St} {H : Hp} {s : Shared} {Q : VK} {ws : List Value} {zs : List V} (F : FnOk X.prog X.w X.K X.mg X.base (L2.CX X.prog X.w) k f fd0 ps sp) (hr : Room k X.A)
    (hb : KBinds X.K fd0 ps ks (fun us ws => us ++ ws) (fun us ws => us ++ ws)) (hx : PassesAt (L2.CX X.prog X.w) X σ (E σ)) (I : Inv X pins σ H s) (r : Vals zs ws) (h : sp zs H Q (E σ)) : wpAny (model X.prog X.w) X.A (call (.ref f) [] (ks.zip ws)) (EP X pins σ Q) X.xe s := by
  have hl : ws.length = ps.length := by rw [← r.length]; exact F.len _ _ _ _ h
  refine wpAny_call (codeAny_mono (F.run X.A X.stack s H ⟨[], ks.zip ws⟩ ws zs Q (E σ) hr I.env0 (hb.to s [] ws I.kIn hl) r h) fun o s' ho => ?_)
  match o, ho with
  | .error e, ho => exact hx pins H s e s' I ho
  | .ok (.ret u), ho => exact I.after ho
  | .ok .next, ho => exact ho.elim
  | .ok .brk, ho => exact ho.elim
  | .ok .cont, ho => exact ho.elim
theorem snd_callK {k n : Nat} {x nm : Str} {m : Fm} {p pos kpos : Pos} {e : Expr} {f1 : List Sl → Fd → R Sl} (tk : Takes X W) (F : FnK X.prog X.w X.K X.mg X.base k x n [nm] m) (hr : Room k X.A) (hg : Gl X x) (hdb : (x == ("__debug__" : Str)) = false)
    (he : SndG1 X W e f1) (hall : (backToKw pos (keywordEach [⟨some nm, e, kpos⟩] X.env)).all (·.1.isSome) = true) (hks : (backToKw pos (keywordEach [⟨some nm, e, kpos⟩] X.env)).filterMap (·.1) = [nm])
    (hpl : ((backTo pos (starEach [] X.env)).any (·.1) || (backToKw pos (keywordEach [⟨some nm, e, kpos⟩] X.env)).any (·.1.isNone)) = false) :
    SndR X W (.Call (.Name x p) [] [⟨some nm, e, kpos⟩] pos) fun sl fd => (f1 sl fd).bind fun a fd1 => if [a].length = n then callE m [a] fd1 else .bad := by
  obtain ⟨t, p0, q0⟩ := he.ex
  obtain ⟨f, fd0, ps, hps, ok, hm, hk, hb⟩ := F.ex
  have PX : PE X (.Call (.Name x p) [] [⟨some nm, e, kpos⟩] pos) (fun σ H Q => t σ H fun v H1 => spD X.K X.mg n m [v] H1 Q (WE W σ)) := by
    refine ⟨fun pins s σ H Q I h => ?_⟩
    refine wpAny_Call_Name_kw (ld_glob I hg hm ?_ hdb)
    have hkw : PK X [⟨some nm, e, kpos⟩] (tCons t tNil) := pk_cons p0 pk_nil
    refine PySem.W.callWith_KW0 (h₀ := X.base) I.ok.mod.kin hk hall (thn (hkw.run pos pins s σ H (fun zs H1 => spD X.K X.mg n m zs H1 Q (WE W σ)) I h) fun ws s2 ⟨zs, H2, I2, rz, q2⟩ => ⟨I2.kIn, ?_⟩) hpl
    rw [hks]
    exact run_kwS ok hr hb (passAt tk σ) I2 rz q2
  refine ⟨_, PX, fun fa σ H G sl fd Q E k => ?_⟩
  refine q0 fa σ H G sl fd _ E (Post.bindR k fun a fd1 v H1 G1 E1 S1 r1 k1 => ?_)
  exact call_core E1 (.cons r1 .nil) k1
end
end PD

/-! PD20: the rules as they are put together by the printer. -/
namespace PD
open PySem PySem.Spec PyProof.Rows L2

/-! ### names for what expressions compute -/
abbrev Fe (α : Type) := List Sl → Fd → R α
def pvS (i : Nat) : Fe Pk := fun sl fd => match sl[i]? with
  | some .no => .bad
  | some _ => .ok (.sl i) fd
  | none => .bad
def evS (i : Nat) : Fe D := fun sl fd => match sl[i]? with
  | some (.val d) => .ok d fd
  | _ => .bad
def gvS (i : Nat) : Fe Sl := fun sl fd => match sl[i]? with
  | some (.val d) => .ok (.val d) fd
  | some .fd => .ok .fd fd
  | _ => .bad
def cS (d : D) : Fe D := fun _ fd => .ok d fd
def pkS (f : Fe D) : Fe Pk := fun sl fd => (f sl fd).bind fun d fd => .ok (.dt d) fd
def rsS (f : Fe D) : Fe Sl := fun sl fd => (f sl fd).bind fun d fd => .ok (.val d) fd
def fzE (f : Fe Sl) : Fe D := fun sl fd => (f sl fd).frz
def bo (g : D → D → Option Bool) (x y : D) : Option Sl := blO (g x y)
def opS (g : D → D → Option Sl) (a b : Fe Pk) : Fe Sl := fun sl fd => (a sl fd).bind fun p fd1 => (b sl fd1).bind fun q fd2 => match lookP sl fd2 p, lookP sl fd2 q with
  | some dx, some dy => R.opt (g dx dy) fd2
  | _, _ => .bad
def cmS (g : D → D → Option Bool) (a b : Fe Pk) : Fe Bool := fun sl fd => (a sl fd).bind fun p fd1 => (b sl fd1).bind fun q fd2 => match lookP sl fd2 p, lookP sl fd2 q with
  | some dx, some dy => R.opt (g dx dy) fd2
  | _, _ => .bad
def blS (f : Fe Bool) : Fe D := fun sl fd => (f sl fd).bind fun b fd => .ok (.bool b) fd
def biS (g : List D → Option Sl) (fs : Fe (List Pk)) : Fe Sl := fun sl fd => (fs sl fd).bind fun ps fd1 => match lookPs sl fd1 ps with
  | some ds => R.opt (g ds) fd1
  | none => .bad
def nlS {α : Type} : Fe (List α) := fun _ fd => .ok [] fd
def cnS {α : Type} (f : Fe α) (fs : Fe (List α)) : Fe (List α) := fun sl fd => (f sl fd).bind fun p fd1 => (fs sl fd1).bind fun ps fd2 => .ok (p :: ps) fd2
def trS (f : Fe Pk) : Fe Bool := fun sl fd => (f sl fd).bind fun p fd1 => match lookP sl fd1 p with
  | some d => R.opt (truthD d) fd1
  | none => .bad
def ntS (f : Fe Bool) : Fe Bool := fun sl fd => (f sl fd).bind fun b fd => .ok (!b) fd
def neS (f : Fe D) : Fe D := fun sl fd => (f sl fd).bind fun d fd => match d with
  | .int i => .ok (.int (-i)) fd
  | _ => .bad
def itS (c : Fe Bool) (f g : Fe Sl) : Fe Sl := fun sl fd => (c sl fd).bind fun b fd1 => if b = true then f sl fd1 else g sl fd1
def tuS (fs : Fe (List D)) : Fe Sl := fun sl fd => (fs sl fd).bind fun ds fd1 => if ds.length ≤ sizeLine then .ok (.val (.tuple ds)) fd1 else .bad
def liS (fs : Fe (List D)) : Fe Sl := fun sl fd => (fs sl fd).bind fun ds fd1 => if ds.length ≤ sizeLine then .ok (.lst ds) fd1 else .bad
def ixS (f g : Fe Pk) : Fe Sl := fun sl fd => (f sl fd).bind fun p fd1 => (g sl fd1).bind fun q fd2 => match lookP sl fd2 p, lookP sl fd2 q with
  | some dx, some dy => R.opt ((idxD dx dy).map Sl.val) fd2
  | _, _ => .bad
def slS (f : Fe Pk) (fl fh : Option (Fe D)) : Fe Sl := fun sl fd => (f sl fd).bind fun p fd1 => (partE fl sl fd1).bind fun l fd2 => (partE fh sl fd2).bind fun h fd3 => match lookP sl fd3 p with
  | some d => R.opt (sliD l h d) fd3
  | none => .bad
def isS (g : D → Option Bool) (f : Fe Pk) : Fe Sl := fun sl fd => (f sl fd).bind fun q fd1 => match lookP sl fd1 q with
  | some d => R.opt (blO (g d)) fd1
  | none => .bad
def lrS (f : Fe D) : Fe Sl := fun sl fd => (f sl fd).bind fun d fd1 => R.opt (lrD d) fd1
def caS (n : Nat) (m : Fm) (fs : Fe (List Sl)) : Fe Sl := fun sl fd => (fs sl fd).bind fun as fd1 => if as.length = n then callE m as fd1 else .bad
def ckS (n : Nat) (m : Fm) (f : Fe Sl) : Fe Sl := fun sl fd => (f sl fd).bind fun a fd1 => if [a].length = n then callE m [a] fd1 else .bad
def dnS (s : Sl) : Fe Sl := fun _ fd => .ok s fd
def yesS : Fe Bool := fun _ fd => .ok true fd
def tnS (i : Nat) : D → List Sl → Option (List Sl) := fun d sl => some (sl.set i (.val d))
def tlN : List D → List Sl → Option (List Sl) := fun ds sl => match ds with
  | [] => some sl
  | _ => none
def tlC (f : D → List Sl → Option (List Sl)) (fs : List D → List Sl → Option (List Sl)) : List D → List Sl → Option (List Sl) := fun ds sl => match ds with
  | d :: ds => (f d sl).bind (fs ds)
  | _ => none
def ttS (n : Nat) (fs : List D → List Sl → Option (List Sl)) : D → List Sl → Option (List Sl) := fun d sl => match d with
  | .tuple ds => if ds.length = n then fs ds sl else none
  | _ => none
/-! statements -/
abbrev Fs := List Sl → Fd → O
def nilO : Fs := fun sl fd => .nx sl fd
def brkO : Fs := fun sl fd => .brk sl fd
def ctO : Fs := fun sl fd => .ct sl fd
def sqO (f g : Fs) : Fs := fun sl fd => (f sl fd).sq g
def exO (f : Fe Sl) : Fs := fun sl fd => (f sl fd).st sl fun _ fd1 => .nx sl fd1
def reO (f : Fe Sl) : Fs := fun sl fd => (f sl fd).st sl fun s fd1 => .ret s fd1
def rnO : Fs := fun sl fd => .ret (.val .none) fd
def rvO (i : Nat) : Fs := fun sl fd => match sl[i]? with
  | none => .bad
  | some .no => .bad
  | some .fd => .bad
  | some s => .ret s fd
def ifO (c : Fe Bool) (p q : Fs) : Fs := fun sl fd => (c sl fd).st sl fun b fd1 => if b = true then p sl fd1 else q sl fd1
def raO (x : Str) : Fs := fun sl fd => .exc x sl fd
def whO (c : Fe Bool) (b : Fs) (N : List Sl → Fd → Nat) : Fs := fun sl fd => whileGo c b (N sl fd) sl fd
def klO (I : List Nat) (f : Fs) : Fs := fun sl fd => (f sl fd).kl I
def pkO (I : List Nat) (f : Fs) : Fs := fun sl fd => f (kill sl I) fd
def pfO (i : Nat) (f : Fs) : Fs := fun sl fd => f (fzS i sl) fd

section
variable {X : Cx} {W : WX} {nf : Bool}
/-! ### names, constants -/
theorem w_pv (i : Nat) {x : Str} {pos : Pos} (hN : X.N[i]? = some x := by rfl) (hv : Vis X.env.scope x := by first | exact .inl rfl | exact .inr (.inl rfl) | exact .inr (.inr rfl)) (hd : (x == ("__debug__" : Str)) = false := by rfl) (hcd : (x == ("__classdict__" : Str)) = false := by rfl) :
    SndP X W (.Name x pos) (pvS i) := snd_pvar hN hv hd hcd
theorem w_ev (i : Nat) {x : Str} {pos : Pos} (hN : X.N[i]? = some x := by rfl) (hv : Vis X.env.scope x := by first | exact .inl rfl | exact .inr (.inl rfl) | exact .inr (.inr rfl)) (hd : (x == ("__debug__" : Str)) = false := by rfl) (hcd : (x == ("__classdict__" : Str)) = false := by rfl) :
    SndE X W (.Name x pos) (evS i) := snd_var hN hv hd hcd
theorem w_gv (i : Nat) {x : Str} {pos : Pos} (hN : X.N[i]? = some x := by rfl) (hv : Vis X.env.scope x := by first | exact .inl rfl | exact .inr (.inl rfl) | exact .inr (.inr rfl)) (hd : (x == ("__debug__" : Str)) = false := by rfl) (hcd : (x == ("__classdict__" : Str)) = false := by rfl) :
    SndG1 X W (.Name x pos) (gvS i) := snd_gvar hN hv hd hcd
theorem w_int {i : Int} {j : Nat} {pos : Pos} : SndE X W (.Constant (.int i) j pos) (cS (.int i)) := snd_const pe_int fun G => .int i
theorem w_str {x : Str} {j : Nat} {pos : Pos} : SndE X W (.Constant (.str x) j pos) (cS (.str x)) := snd_const pe_str fun G => .str x
theorem w_bl {b : Bool} {j : Nat} {pos : Pos} : SndE X W (.Constant (.bool b) j pos) (cS (.bool b)) := snd_const pe_bl fun G => .bl b
theorem w_non {j : Nat} {pos : Pos} : SndE X W (.Constant .none j pos) (cS .none) := snd_const pe_non fun G => .non
theorem w_glob {x : Str} {i : Int} {pos : Pos} (hm : ∃ t, X.mg x = some (.int i t)) (hg : Gl X x := by rfl) (hd : (x == ("__debug__" : Str)) = false := by rfl) : SndE X W (.Name x pos) (cS (.int i)) := snd_glob hg hm hd
theorem w_globS {x z : Str} {pos : Pos} (hm : ∃ t, X.mg x = some (.str z t)) (hg : Gl X x := by rfl) (hd : (x == ("__debug__" : Str)) = false := by rfl) : SndE X W (.Name x pos) (cS (.str z)) := snd_globS hg hm hd
/-! ### changes of kind -/
theorem SndE.P {e : Expr} {f : Fe D} (h : SndE X W e f) : SndP X W e (pkS f) := h.pk
theorem SndE.R {e : Expr} {f : Fe D} (h : SndE X W e f) : SndR X W e (rsS f) := h.res
theorem SndR.E {e : Expr} {f : Fe Sl} (h : SndR X W e f) : SndE X W e (fzE f) := h.snd
theorem SndE.G {e : Expr} {f : Fe D} (h : SndE X W e f) : SndG1 X W e (rsS f) := h.g1
theorem SndP.T {e : Expr} {f : Fe Pk} (h : SndP X W e f) (he : ∀ whole, isTrue e X.env whole = (do let v ← whole; standAt e.pos; holding [v] (truthy v)) := by intro _; rfl) : SndT X W e (trS f) := snd_truth h he
/-! ### operators -/
structure CmpC (X : Cx) (op : CmpOp) (g : D → D → Option Bool) : Prop where
  ex : ∃ r, OpR X (compareOp op) r ∧ ∀ H G x y dx dy s Q, Sub G H → CRep X.K H G x dx → CRep X.K H G y dy → blO (g dx dy) = some s → Out X.K H G s Q → r x y H Q
structure BinC (X : Cx) (op : Operator) (g : D → D → Option Sl) : Prop where
  ex : ∃ r, OpR X (binaryOp op) r ∧ ∀ H G x y dx dy s Q, Sub G H → CRep X.K H G x dx → CRep X.K H G y dy → g dx dy = some s → Out X.K H G s Q → r x y H Q
theorem b_add : BinC X .Add addD := ⟨_, op_addD, hg_add⟩
theorem b_sub : BinC X .Sub subD := ⟨_, op_sub, hg_sub⟩
theorem b_mul : BinC X .Mult mulD := ⟨_, op_mulD, hg_mul⟩
theorem b_fdiv : BinC X .FloorDiv fdivD := ⟨_, op_fdivW, hg_fdiv⟩
theorem b_mod : BinC X .Mod modD := ⟨_, op_mod, hg_mod⟩
theorem b_pow : BinC X .Pow powD := ⟨_, op_pow, hg_pow⟩
def neD (x y : D) : Option Bool := (eqD x y).map not
def ninD (x y : D) : Option Bool := (inD x y).map not
def isnD (x y : D) : Option Bool := (isD x y).map not
def leD : D → D → Option Bool := cmpI fun i j => decide (i ≤ j)
def gtD : D → D → Option Bool := cmpI fun i j => decide (j < i)
def geD : D → D → Option Bool := cmpI fun i j => decide (j ≤ i)
theorem c_eq {k : Nat} (hr : Room k X.A) : CmpC X .Eq eqD := ⟨_, op_eqX (by have := hr.un; omega), hg_eq⟩
theorem c_ne {k : Nat} (hr : Room k X.A) : CmpC X .NotEq neD := ⟨_, op_neX (by have := hr.un; omega), hg_ne⟩
theorem c_lt {k : Nat} (hr : Room k X.A) : CmpC X .Lt ltD := ⟨_, op_ltX (by have := hr.un; omega), hg_lt⟩
theorem c_le : CmpC X .LtE leD := ⟨_, op_le, hg_cmpI⟩
theorem c_gt : CmpC X .Gt gtD := ⟨_, op_gt, hg_cmpI⟩
theorem c_ge : CmpC X .GtE geD := ⟨_, op_ge, hg_cmpI⟩
theorem c_is : CmpC X .Is isD := ⟨_, op_isX, hg_is⟩
theorem c_isn : CmpC X .IsNot isnD := ⟨_, op_notX, hg_isnot⟩
theorem c_in {k : Nat} (hr : Room k X.A) : CmpC X .In inD := ⟨_, op_inX (by have := hr.un; omega), hg_in⟩
theorem c_nin {k : Nat} (hr : Room k X.A) : CmpC X .NotIn ninD := ⟨_, op_ninX (by have := hr.un; omega), hg_nin⟩
theorem w_bin {a b : Expr} {op : Operator} {pos : Pos} {g : D → D → Option Sl} {f h : Fe Pk} (c : BinC X op g) (ha : SndP X W a f) (hb : SndP X W b h) : SndR X W (.BinOp a op b pos) (opS g f h) := by
  obtain ⟨r, ho, hg⟩ := c.ex
  exact snd_op (fun ta tb pa pb => pe_op ho pa pb) ha hb hg
theorem w_cmp {a b : Expr} {op : CmpOp} {pos : Pos} {g : D → D → Option Bool} {f h : Fe Pk} (c : CmpC X op g) (ha : SndP X W a f) (hb : SndP X W b h) (hm : behindInMarks op b = false := by first | exact nomark _ | with_unfolding_all rfl) :
    SndR X W (.Compare a [op] [b] pos) (opS (bo g) f h) := by
  obtain ⟨r, ho, hg⟩ := c.ex
  exact snd_op (fun ta tb pa pb => pe_cmpR ho pa pb hm) ha hb hg
theorem cm_eq {g : D → D → Option Bool} {f h : Fe Pk} : (fun sl fd => ((opS (bo g) f h) sl fd).bind fun s fd1 => match s with
      | .val (.bool b) => .ok b fd1
      | _ => .bad) = cmS g f h := by
  funext sl fd
  unfold opS cmS
  cases f sl fd with
  | bad => rfl
  | exc c d => rfl
  | ok p fd1 =>
    show (R.bind _ _) = R.bind _ _
    simp only [R.bind]
    cases h sl fd1 with
    | bad => rfl
    | exc c d => rfl
    | ok q fd2 =>
      simp only [R.bind]
      cases lookP sl fd2 p with
      | none => rfl
      | some dx =>
        cases lookP sl fd2 q with
        | none => rfl
        | some dy =>
          simp only [bo]
          cases g dx dy <;> rfl
theorem w_cmpT {a b : Expr} {op : CmpOp} {pos : Pos} {g : D → D → Option Bool} {f h : Fe Pk} (c : CmpC X op g) (ha : SndP X W a f) (hb : SndP X W b h) (hm : behindInMarks op b = false := by first | exact nomark _ | with_unfolding_all rfl) :
    SndT X W (.Compare a [op] [b] pos) (cmS g f h) := by
  obtain ⟨r, ho, hg⟩ := c.ex
  rw [← cm_eq]
  exact snd_cmpT ho hm ha hb hg
theorem w_chnT {a b c : Expr} {op op' : CmpOp} {pos : Pos} {g g' : D → D → Option Bool} {f h j : Fe Pk} (c1 : CmpC X op g) (c2 : CmpC X op' g') (ha : SndP X W a f) (hb : SndP X W b h) (hc : SndP X W c j) (hm : lastMarks [op, op'] [b, c] = false := by with_unfolding_all rfl) :
    SndT X W (.Compare a [op, op'] [b, c] pos) (chnE g g' f h j) := by
  obtain ⟨r, ho, hg⟩ := c1.ex
  obtain ⟨r', ho', hg'⟩ := c2.ex
  obtain ⟨ta, pa, qa⟩ := ha.ex
  obtain ⟨tb, pb, qb⟩ := hb.ex
  obtain ⟨tc, pc, qc⟩ := hc.ex
  refine ⟨_, pt_chain ho ho' pa pb pc hm, fun fa σ H G sl fd Q E k => ?_⟩
  exact chn_q (Q := fun x H' => ∃ k, x = .bl k ∧ Q k H') E qa qb qc hg hg' (Post.weak k fun b H z => ⟨b, rfl, z⟩)
theorem w_chn {a b c : Expr} {op op' : CmpOp} {pos : Pos} {g g' : D → D → Option Bool} {f h j : Fe Pk} (c1 : CmpC X op g) (c2 : CmpC X op' g') (ha : SndP X W a f) (hb : SndP X W b h) (hc : SndP X W c j) (hm : lastMarks [op, op'] [b, c] = false := by with_unfolding_all rfl) :
    SndE X W (.Compare a [op, op'] [b, c] pos) (blS (chnE g g' f h j)) := by
  obtain ⟨r, ho, hg⟩ := c1.ex
  obtain ⟨r', ho', hg'⟩ := c2.ex
  obtain ⟨ta, pa, qa⟩ := ha.ex
  obtain ⟨tb, pb, qb⟩ := hb.ex
  obtain ⟨tc, pc, qc⟩ := hc.ex
  refine ⟨_, pe_chain ho ho' pa pb pc hm, fun fa σ H G sl fd Q E k => ?_⟩
  refine chn_q E qa qb qc hg hg' ?_
  unfold blS at k
  revert k
  cases chnE g g' f h j sl fd with
  | bad => exact fun k => k
  | exc c d => exact fun k => k
  | ok b d =>
    intro k v H' G' E' S' e
    cases e
    exact k _ H' G' E' S' (.bl _)
theorem w_not {a : Expr} {pos : Pos} {f : Fe Bool} (h : SndT X W a f) : SndT X W (.UnaryOp .Not a pos) (ntS f) := snd_notT h
def nvS (f : Fe D) : Fe D := fun sl fd => (f sl fd).bind fun d fd => match d with
  | .bool b => .ok (.bool (!b)) fd
  | _ => .bad
theorem w_notE {a : Expr} {pos : Pos} {f : Fe D} (h : SndE X W a f) : SndE X W (.UnaryOp .Not a pos) (nvS f) := snd_not h
theorem w_neg {a : Expr} {pos : Pos} {f : Fe D} (h : SndE X W a f) : SndE X W (.UnaryOp .USub a pos) (neS f) := snd_neg h
theorem w_ite {c a b : Expr} {pos : Pos} {fc : Fe Bool} {f g : Fe Sl} (hc : SndT X W c fc) (ha : SndR X W a f) (hb : SndR X W b g) : SndR X W (.IfExp c a b pos) (itS fc f g) := snd_ite hc ha hb
/-! ### rows of expressions -/
theorem w_pn : SndPs X W [] nlS := snds_nil
theorem w_pc {e : Expr} {es : List Expr} {f : Fe Pk} {fs : Fe (List Pk)} (he : SndP X W e f) (hs : SndPs X W es fs) (hst : starEach (e :: es) X.env = (false, eval e X.env) :: starEach es X.env := by rfl) : SndPs X W (e :: es) (cnS f fs) := snds_cons he hs hst
theorem w_an : SndA X W [] nlS := snda_nil
theorem w_ac {e : Expr} {es : List Expr} {f : Fe D} {fs : Fe (List D)} (he : SndE X W e f) (hs : SndA X W es fs) (hst : starEach (e :: es) X.env = (false, eval e X.env) :: starEach es X.env := by rfl) : SndA X W (e :: es) (cnS f fs) := snda_cons he hs hst
theorem w_gn : SndG X W [] nlS := sndg_nil
theorem w_gc {e : Expr} {es : List Expr} {f : Fe Sl} {fs : Fe (List Sl)} (he : SndG1 X W e f) (hs : SndG X W es fs) (hst : starEach (e :: es) X.env = (false, eval e X.env) :: starEach es X.env := by rfl) : SndG X W (e :: es) (cnS f fs) := sndg_cons he hs hst
theorem w_tup {es : List Expr} {k : Nat} {pos : Pos} {fs : Fe (List D)} (h : SndA X W es fs) : SndR X W (.Tuple es k pos) (tuS fs) := snd_tup h
theorem w_lst {es : List Expr} {pos : Pos} {fs : Fe (List D)} (h : SndA X W es fs) : SndR X W (.List es pos) (liS fs) := snd_lst h
theorem w_dK {pos : Pos} : SndR X W (.Dict [] [] pos) (dnS (.dK [])) := snd_dK
theorem w_dT {pos : Pos} : SndR X W (.Dict [] [] pos) (dnS (.dT [])) := snd_dT
theorem w_disp {keys : List (Option Expr)} {values : List Expr} {pos : Pos} {kvs : List (Key × V)} {es : List (D × D)} (h : CKs X keys values kvs es) (h0 : keys ≠ [] := by intro z; cases z) (h15 : keys.length ≤ 15 := by decide) : SndR X W (.Dict keys values pos) (dnS (.dK (mergeD es))) := snd_disp h h0 h15
theorem w_idx {k : Nat} {a b : Expr} {pos : Pos} {f g : Fe Pk} (hr : Room k X.A) (ha : SndP X W a f) (hb : SndP X W b g) (hs : PlainIx b := by intro _ _; rfl) : SndR X W (.Subscript a b pos) (ixS f g) := snd_idx (by have := hr.un; omega) ha hb hs
theorem w_sli {e : Expr} {lo hi : Option Expr} {p2 pos : Pos} {f : Fe Pk} {fl fh : Option (Fe D)} (he : SndP X W e f) (hl : SndO X W lo fl) (hh : SndO X W hi fh) : SndR X W (.Subscript e (.Slice lo hi none p2) pos) (slS f fl fh) := snd_sli he hl hh
/-! ### built-in calls -/
structure CalC (X : Cx) (x : Str) (g : List D → Option Sl) : Prop where
  ex : ∃ r, (∀ t e es p pos, PA X (e :: es) t → starEach (e :: es) X.env = (false, eval e X.env) :: starEach es X.env → (backTo pos (starEach es X.env)).any (·.1) = false → PE X (.Call (.Name x p) (e :: es) [] pos) (tCB r t)) ∧
    ∀ H G xs ds s Q, TP G H → Sub G H → CReps X.K H G xs ds → g ds = some s → Out X.K H G s Q → r xs H Q
theorem k_len (hm : X.mg "len" = none) (hg : Gl X "len" := by rfl) : CalC X "len" gLen := ⟨_, fun t e es p pos h he hp => pe_callB call_lenX hg hm (by decide +kernel) h (by decide) (by decide) he hp, fun H G xs ds s Q _ => hg_len H G xs ds s Q⟩
theorem k_max (hc : X.calm = true) (hm : X.mg "max" = none) (hg : Gl X "max" := by rfl) : CalC X "max" gMax := ⟨_, fun t e es p pos h he hp => pe_callB (call_maxX hc) hg hm (by decide +kernel) h (by decide) (by decide) he hp, fun H G xs ds s Q _ => hg_max H G xs ds s Q⟩
theorem k_min (hc : X.calm = true) (hm : X.mg "min" = none) (hg : Gl X "min" := by rfl) : CalC X "min" gMin := ⟨_, fun t e es p pos h he hp => pe_callB (call_minX hc) hg hm (by decide +kernel) h (by decide) (by decide) he hp, fun H G xs ds s Q _ => hg_min H G xs ds s Q⟩
theorem k_sum (hc : X.calm = true) (hm : X.mg "sum" = none) (hg : Gl X "sum" := by rfl) : CalC X "sum" gSum := ⟨_, fun t e es p pos h he hp => pe_callB (cr_sum hc) hg hm (by decide +kernel) h (by decide) (by decide) he hp, fun H G xs ds s Q _ => hg_sum H G xs ds s Q⟩
theorem k_all (hc : X.calm = true) (hm : X.mg "all" = none) (hg : Gl X "all" := by rfl) : CalC X "all" gAll := ⟨_, fun t e es p pos h he hp => pe_callB (cr_all hc) hg hm (by decide +kernel) h (by decide) (by decide) he hp, fun H G xs ds s Q _ => hg_all H G xs ds s Q⟩
theorem k_any (hc : X.calm = true) (hm : X.mg "any" = none) (hg : Gl X "any" := by rfl) : CalC X "any" gAny := ⟨_, fun t e es p pos h he hp => pe_callB (cr_any hc) hg hm (by decide +kernel) h (by decide) (by decide) he hp, fun H G xs ds s Q _ => hg_any H G xs ds s Q⟩
theorem k_abs (hm : X.mg "abs" = none) (hg : Gl X "abs" := by rfl) : CalC X "abs" gAbs := ⟨_, fun t e es p pos h he hp => pe_callB call_abs hg hm (by decide +kernel) h (by decide) (by decide) he hp, fun H G xs ds s Q _ => hg_abs H G xs ds s Q⟩
theorem k_int (hm : X.mg "int" = none) (hg : Gl X "int" := by rfl) : CalC X "int" gInt := ⟨_, fun t e es p pos h he hp => pe_callTy call_intX hg hm (by decide +kernel) h (by decide) (by decide) he hp, fun H G xs ds s Q _ => hg_int H G xs ds s Q⟩
theorem k_str (hm : X.mg "str" = none) (hg : Gl X "str" := by rfl) : CalC X "str" gStr := ⟨_, fun t e es p pos h he hp => pe_callTy call_strX hg hm (by decide +kernel) h (by decide) (by decide) he hp, fun H G xs ds s Q _ => hg_str H G xs ds s Q⟩
theorem k_tuple (hm : X.mg "tuple" = none) (hg : Gl X "tuple" := by rfl) : CalC X "tuple" gTup := ⟨_, fun t e es p pos h he hp => pe_callTy call_tuple_of hg hm (by decide +kernel) h (by decide) (by decide) he hp, fun H G xs ds s Q _ => hg_tuple H G xs ds s Q⟩
theorem k_list (hm : X.mg "list" = none) (hg : Gl X "list" := by rfl) : CalC X "list" gList := ⟨_, fun t e es p pos h he hp => pe_callTy call_list_of hg hm (by decide +kernel) h (by decide) (by decide) he hp, fun H G xs ds s Q _ => hg_list H G xs ds s Q⟩
theorem k_sorted {k : Nat} (hc : X.calm = true) (hr : Room k X.A) (hm : X.mg "sorted" = none) (hg : Gl X "sorted" := by rfl) : CalC X "sorted" gSorted :=
  ⟨_, fun t e es p pos h he hp => pe_callB (call_sorted2 hc (by have := hr.un; omega)) hg hm (by decide +kernel) h (by decide) (by decide) he hp, hg_sorted⟩
theorem w_bi {x : Str} {g : List D → Option Sl} {e : Expr} {es : List Expr} {p pos : Pos} {fs : Fe (List Pk)} (c : CalC X x g) (h : SndPs X W (e :: es) fs) (he : starEach (e :: es) X.env = (false, eval e X.env) :: starEach es X.env := by rfl)
    (hpl : (backTo pos (starEach es X.env)).any (·.1) = false := by rfl) : SndR X W (.Call (.Name x p) (e :: es) [] pos) (biS g fs) := by
  obtain ⟨r, mk, hg⟩ := c.ex
  exact snd_biT (fun t h => mk t e es p pos h he hpl) h hg
theorem w_isi {a : Expr} {T : String} {x : Str} {p px pos : Pos} {f : Fe Pk} (ha : SndP X W a f) (hm : X.mg "isinstance" = none) (hmT : X.mg x = none) (hbT : bootBuiltins x = some (.type T) := by decide +kernel) (hT : isiT T = true := by decide) (hg : Gl X "isinstance" := by rfl) (hgT : Gl X x := by rfl)
    (hn : x ≠ "__name__" := by decide) (hd : (x == ("__debug__" : Str)) = false := by decide) (hst : starEach [a, .Name x px] X.env = (false, eval a X.env) :: starEach [.Name x px] X.env := by rfl) :
    SndR X W (.Call (.Name "isinstance" p) [a, .Name x px] [] pos) (isS (isi1 T) f) := snd_isi ha hT hg hm hgT hmT hbT hn hd hst
theorem w_isi2 {a : Expr} {T U : String} {x y : Str} {kk : Nat} {p px py pt pos : Pos} {f : Fe Pk} (ha : SndP X W a f) (hm : X.mg "isinstance" = none) (hmT : X.mg x = none) (hmU : X.mg y = none) (hbT : bootBuiltins x = some (.type T) := by decide +kernel) (hbU : bootBuiltins y = some (.type U) := by decide +kernel)
    (hT : isiT T = true := by decide) (hU : isiT U = true := by decide) (hg : Gl X "isinstance" := by rfl) (hgT : Gl X x := by rfl) (hgU : Gl X y := by rfl) (hn : x ≠ "__name__" := by decide) (hn2 : y ≠ "__name__" := by decide) (hd : (x == ("__debug__" : Str)) = false := by decide) (hd2 : (y == ("__debug__" : Str)) = false := by decide)
    (hst : starEach [a, .Tuple [.Name x px, .Name y py] kk pt] X.env = (false, eval a X.env) :: starEach [.Tuple [.Name x px, .Name y py] kk pt] X.env := by rfl) :
    SndR X W (.Call (.Name "isinstance" p) [a, .Tuple [.Name x px, .Name y py] kk pt] [] pos) (isS (isi2 T U) f) := snd_isi2 ha hT hU hg hm hgT hmT hgU hmU hbT hbU hn hn2 hd hd2 hst
theorem w_lrg {a : Expr} {p pos p2 pos2 : Pos} {f : Fe D} (hc : X.calm = true) (hm : X.mg "list" = none) (hm2 : X.mg "range" = none) (h : SndE X W a f) (hg : Gl X "list" := by rfl) (hg2 : Gl X "range" := by rfl)
    (n1 : starEach [a] X.env = (false, eval a X.env) :: starEach [] X.env := by rfl) (n2 : starEach [Expr.Call (.Name "range" p2) [a] [] pos2] X.env = (false, eval (.Call (.Name "range" p2) [a] [] pos2) X.env) :: starEach [] X.env := by rfl) :
    SndR X W (.Call (.Name "list" p) [.Call (.Name "range" p2) [a] [] pos2] [] pos) (lrS f) := snd_lrg hc hg hm hg2 hm2 h n1 n2
theorem w_call {k n : Nat} {x : Str} {m : Fm} {p pos : Pos} {e : Expr} {es : List Expr} {fs : Fe (List Sl)} (tk : Takes X W) (F : FnF X.prog X.w X.K X.mg X.base k x n m) (hr : Room k X.A) (ha : SndG X W (e :: es) fs) (hg : Gl X x := by rfl) (hdb : (x == ("__debug__" : Str)) = false := by rfl)
    (he : starEach (e :: es) X.env = (false, eval e X.env) :: starEach es X.env := by rfl) (hpl : (backTo pos (starEach es X.env)).any (·.1) = false := by rfl) : SndR X W (.Call (.Name x p) (e :: es) [] pos) (caS n m fs) := snd_call tk F hr hg hdb ha he hpl
theorem w_callK {k n : Nat} {x nm : Str} {m : Fm} {p pos kpos : Pos} {e : Expr} {f1 : Fe Sl} (tk : Takes X W) (F : FnK X.prog X.w X.K X.mg X.base k x n [nm] m) (hr : Room k X.A) (he : SndG1 X W e f1) (hg : Gl X x := by rfl) (hdb : (x == ("__debug__" : Str)) = false := by rfl)
    (hall : (backToKw pos (keywordEach [⟨some nm, e, kpos⟩] X.env)).all (·.1.isSome) = true := by rfl) (hks : (backToKw pos (keywordEach [⟨some nm, e, kpos⟩] X.env)).filterMap (·.1) = [nm] := by rfl)
    (hpl : ((backTo pos (starEach [] X.env)).any (·.1) || (backToKw pos (keywordEach [⟨some nm, e, kpos⟩] X.env)).any (·.1.isNone)) = false := by rfl) : SndR X W (.Call (.Name x p) [] [⟨some nm, e, kpos⟩] pos) (ckS n m f1) := snd_callK tk F hr hg hdb he hall hks hpl
theorem w_get {k : Nat} {o e z : Expr} {apos cpos : Pos} {f g : Fe Pk} {h : Fe D} (hr : Room k X.A) (ho : SndP X W o f) (he : SndP X W e g) (hz : SndE X W z h) (m : M2 X o "get" apos e z cpos := by exact ⟨rfl, rfl, rfl, rfl⟩) : SndR X W (.Call (.Attribute o "get" apos) [e, z] [] cpos) (getE f g h) := snd_get (by have := hr.un; omega) ho he hz m
theorem w_join {o e : Expr} {apos pos : Pos} {f h : Fe Pk} (ho : SndP X W o f) (he : SndP X W e h) (hs : starEach [e] X.env = [(false, eval e X.env)] := by rfl) (hbase : attributeBase o "join" X.env (eval o X.env) = eval o X.env := by rfl)
    (hline : (apos.endLine == pos.line) = true := by rfl) : SndR X W (.Call (.Attribute o "join" apos) [e] [] pos) (strM joinD f h) := snd_join ho he hs hbase hline
theorem w_split {o e : Expr} {apos pos : Pos} {f h : Fe Pk} (ho : SndP X W o f) (he : SndP X W e h) (hs : starEach [e] X.env = [(false, eval e X.env)] := by rfl) (hbase : attributeBase o "split" X.env (eval o X.env) = eval o X.env := by rfl)
    (hline : (apos.endLine == pos.line) = true := by rfl) : SndR X W (.Call (.Attribute o "split" apos) [e] [] pos) (strM splitD f h) := snd_split ho he hs hbase hline
/-! ### walks, targets, comprehensions -/
theorem w_seq {tg e : Expr} {f : Fe Pk} (h : SndP X W e f) : SndI X W tg e (seqE f) := snd_seq h
theorem w_rg1 {tg a : Expr} {p pos : Pos} {f : Fe (List D)} (hm : X.mg "range" = none) (ha : SndA X W [a] f) (hg : Gl X "range" := by rfl) (hs : starEach [a] X.env = [(false, eval a X.env)] := by rfl) : SndI X W tg (.Call (.Name "range" p) [a] [] pos) (rng1E f) := snd_rng1 hg hm ha hs
theorem w_rg2 {tg a b : Expr} {p pos : Pos} {f : Fe (List D)} (hm : X.mg "range" = none) (ha : SndA X W [a, b] f) (hg : Gl X "range" := by rfl) (hs : starEach [a, b] X.env = [(false, eval a X.env), (false, eval b X.env)] := by rfl) (hs2 : starEach [b] X.env = [(false, eval b X.env)] := by rfl) :
    SndI X W tg (.Call (.Name "range" p) [a, b] [] pos) (rng2E f) := snd_rng2 hg hm ha hs hs2
theorem w_zip {elts : List Expr} {kk : Nat} {tpos p pos : Pos} {e e2 : Expr} {f : Fe (List Pk)} (hm : X.mg "zip" = none) (ha : SndPs X W [e, e2] f) (hg : Gl X "zip" := by rfl) (hs : starEach [e, e2] X.env = (false, eval e X.env) :: starEach [e2] X.env := by rfl) (hpl : (backTo pos (starEach [e2] X.env)).any (·.1) = false := by rfl) :
    SndI X W (.Tuple elts kk tpos) (.Call (.Name "zip" p) [e, e2] [] pos) (zipE f) := snd_zip hg hm ha hs hpl
theorem w_enum {elts : List Expr} {kk : Nat} {tpos p pos : Pos} {e : Expr} {f : Fe (List Pk)} (hm : X.mg "enumerate" = none) (ha : SndPs X W [e] f) (hg : Gl X "enumerate" := by rfl) (hs : starEach [e] X.env = [(false, eval e X.env)] := by rfl) :
    SndI X W (.Tuple elts kk tpos) (.Call (.Name "enumerate" p) [e] [] pos) (enumE f) := snd_enum hg hm ha hs
theorem w_tn (i : Nat) {x : Str} {pos : Pos} (hN : X.N.Nodup) (hi : X.N[i]? = some x := by rfl) (hx : Loc X.env.scope x := by first | exact .inl rfl | exact .inr rfl) (hf : X.fn x = true ∨ X.env.scope.names.lookup x = some .local := by first | exact .inl rfl | exact .inr rfl) :
    SndTg X (.Name x pos) [i] (tnS i) := sndt_name hN hi hx hf
theorem w_tln : SndTgs X [] [] tlN := sndts_nil
theorem w_tlc {e : Expr} {es : List Expr} {I J : List Nat} {f : D → List Sl → Option (List Sl)} {fs : List D → List Sl → Option (List Sl)} (h1 : SndTg X e I f) (h2 : SndTgs X es J fs) (hs : (assignEach (e :: es) X.env).map (·.2) = assign e X.env :: (assignEach es X.env).map (·.2) := by rfl) :
    SndTgs X (e :: es) (I ++ J) (tlC f fs) := sndts_cons h1 h2 hs
theorem w_tt {n : Nat} {es : List Expr} {k : Nat} {pos : Pos} {I : List Nat} {fs : List D → List Sl → Option (List Sl)} (hc : X.calm = true) (h : SndTgs X es I fs) (hl : es.length = n := by rfl) (hn : (assignEach es X.env).length = es.length := by rfl) (hst : (assignEach es X.env).findIdx? (·.1) = none := by rfl) :
    SndTg X (.Tuple es k pos) I (ttS n fs) := by subst hl; exact sndt_tup hc h hn hst
theorem w_y : SndTs X W [] yesS := sndts0
theorem w_y1 {c : Expr} {f : Fe Bool} (h : SndT X W c f) : SndTs X W [c] f := sndts1 h
theorem w_lc {I : List Nat} {own : List (Str × Nat)} {elt tg iter : Expr} {ifs : List Expr} {scope : Scope} {pos : Pos} {fi : Fe (Bool × List D)} {ft : D → List Sl → Option (List Sl)} {fT : Fe Bool} {fE : Fe D}
    (hc : X.calm = true) (hN : X.N.Nodup) (hi : SndI X W tg iter fi) (ok : BlkOk X.N X.env.scope scope own)
    (hg : ∀ (s : Shared) (H : Hp) (C : Addr) (cl : List (Str × Addr)) (fp : List Addr), SndTg (X.blk s H scope (compEnvC scope cl C X.env) fp) tg I ft)
    (ht : ∀ (s : Shared) (H : Hp) (C : Addr) (cl : List (Str × Addr)) (fp : List Addr), SndTs (X.blk s H scope (compEnvC scope cl C X.env) fp) W0 ifs fT)
    (he : ∀ (s : Shared) (H : Hp) (C : Addr) (cl : List (Str × Addr)) (fp : List Addr), SndE (X.blk s H scope (compEnvC scope cl C X.env) fp) W0 elt fE)
    (hI : ∀ i ∈ I, i ∈ own.map (·.2) := by decide) (hs : ∀ x, foldedSetIterable iter X.env x = pure x := by intro _; rfl) :
    SndR X W (.ListComp elt [⟨tg, iter, ifs, 0⟩] scope pos) (lcE (own.map (·.2)) fi ft fT fE) := snd_lc hc hN hi ok hI hg ht he hs
end
end PD

/-! PD21: the rules of statements as they are put together by the printer. -/
namespace PD
open PySem PySem.Spec PyProof.Rows L2

section
variable {X : Cx} {W : WX} {nf : Bool}
theorem s_nil : SndSs X W nf [] nilO := snds_nil0
theorem s_cons {s : Stmt} {ss : List Stmt} {f g : Fs} (h : SndS X W nf s f) (hs : SndSs X W nf ss g) : SndSs X W nf (s :: ss) (sqO f g) := snds_cons0 h hs
theorem s_one {s : Stmt} {f : Fs} (h : SndS X W nf s f) : SndSs X W nf [s] f := snds_one h
theorem s_pass {pos : Pos} : SndS X W nf (.Pass pos) nilO := sndx_pass
theorem s_brk {pos : Pos} : SndS X W nf (.Break pos) brkO := sndx_break
theorem s_ct {pos : Pos} : SndS X W nf (.Continue pos) ctO := sndx_cont
theorem s_ex {e : Expr} {pos : Pos} {f : Fe Sl} (h : SndR X W e f) (hs : swapsWith e none pos.line X.env = pure false := by rfl) : SndS X W nf (.Expr e pos) (exO f) := sndx_expr h hs
theorem s_re {e : Expr} {pos : Pos} {f : Fe Sl} (h : SndR X W e f) : SndS X W nf (.Return (some e) pos) (reO f) := sndx_ret h
theorem s_rn {pos : Pos} : SndS X W nf (.Return none pos) rnO := sndx_retN
theorem s_rv (i : Nat) {x : Str} {p pos : Pos} (hN : X.N[i]? = some x := by rfl) (hv : Vis X.env.scope x := by first | exact .inl rfl | exact .inr (.inl rfl) | exact .inr (.inr rfl)) (hd : (x == ("__debug__" : Str)) = false := by rfl) (hcd : (x == ("__classdict__" : Str)) = false := by rfl) :
    SndS X W nf (.Return (some (.Name x p)) pos) (rvO i) := sndx_retV hN hv hd hcd
theorem s_if {c : Expr} {p q : List Stmt} {pos : Pos} {fc : Fe Bool} {fp fq : Fs} (hc : SndT X W c fc) (hp : SndSs X W nf p fp) (hq : SndSs X W nf q fq) : SndS X W nf (.If c p q pos) (ifO fc fp fq) := sndx_if hc hp hq
theorem s_set (i : Nat) {x : Str} {e : Expr} {pos pos' : Pos} {f : Fe Sl} (hN : X.N.Nodup) (h : SndR X W e f) (hi : X.N[i]? = some x := by rfl) (hx : Loc X.env.scope x := by first | exact .inl rfl | exact .inr rfl)
    (hf : X.fn x = true ∨ X.env.scope.names.lookup x = some .local := by first | exact .inl rfl | exact .inr rfl) (hs : swapsWith e (some (.Name x pos')) pos.line X.env = pure false := by rfl) : SndS X W nf (.Assign [.Name x pos'] e pos) (setO i f) := sndx_set hN hi hx hf h hs
theorem s_fd (i : Nat) {x : Str} {e : Expr} {pos pos' : Pos} {f : Fe Sl} (hN : X.N.Nodup) (h : SndR X W e f) (hi : X.N[i]? = some x := by rfl) (hx : Loc X.env.scope x := by first | exact .inl rfl | exact .inr rfl)
    (hf : X.fn x = true ∨ X.env.scope.names.lookup x = some .local := by first | exact .inl rfl | exact .inr rfl) (hs : swapsWith e (some (.Name x pos')) pos.line X.env = pure false := by rfl) : SndS X W true (.Assign [.Name x pos'] e pos) (setFd i f) := sndx_setFd hN hi hx hf h hs
theorem s_lc {I : List Nat} {own : List (Str × Nat)} (i : Nat) {y : Str} {py : Pos} {elt tg iter : Expr} {ifs : List Expr} {scope : Scope} {pos spos : Pos} {fi : Fe (Bool × List D)} {ft : D → List Sl → Option (List Sl)} {fT : Fe Bool} {fE : Fe D}
    (hc : X.calm = true) (hN : X.N.Nodup) (hi : SndI X W tg iter fi) (ok : BlkOk X.N X.env.scope scope own)
    (hg : ∀ (s : Shared) (H : Hp) (C : Addr) (cl : List (Str × Addr)) (fp : List Addr), SndTg (X.blk s H scope (compEnvC scope cl C X.env) fp) tg I ft)
    (ht : ∀ (s : Shared) (H : Hp) (C : Addr) (cl : List (Str × Addr)) (fp : List Addr), SndTs (X.blk s H scope (compEnvC scope cl C X.env) fp) W0 ifs fT)
    (he : ∀ (s : Shared) (H : Hp) (C : Addr) (cl : List (Str × Addr)) (fp : List Addr), SndE (X.blk s H scope (compEnvC scope cl C X.env) fp) W0 elt fE)
    (hy : X.N[i]? = some y := by rfl) (hyl : X.env.scope.names.lookup y = some .local := by rfl) (hk : X.env.scope.kind = .function := by rfl) (hl : (py.line == pos.line) = true := by rfl)
    (ha : (scope.names.any fun (n, k) => n == y && (k == .local || k == .cell)) = false := by decide +kernel)
    (hI : ∀ i ∈ I, i ∈ own.map (·.2) := by decide) (hs : ∀ x, foldedSetIterable iter X.env x = pure x := by intro _; rfl) :
    SndS X W nf (.Assign [.Name y py] (.ListComp elt [⟨tg, iter, ifs, 0⟩] scope pos) spos) (setO i (lcE (own.map (·.2)) fi ft fT fE)) := (sndx_setLc hc hN hy hyl (sw_true hk hyl hl ha) hi ok hI hg ht he hs).1
theorem s_lcF {I : List Nat} {own : List (Str × Nat)} (i : Nat) {y : Str} {py : Pos} {elt tg iter : Expr} {ifs : List Expr} {scope : Scope} {pos spos : Pos} {fi : Fe (Bool × List D)} {ft : D → List Sl → Option (List Sl)} {fT : Fe Bool} {fE : Fe D}
    (hc : X.calm = true) (hN : X.N.Nodup) (hi : SndI X W tg iter fi) (ok : BlkOk X.N X.env.scope scope own)
    (hg : ∀ (s : Shared) (H : Hp) (C : Addr) (cl : List (Str × Addr)) (fp : List Addr), SndTg (X.blk s H scope (compEnvC scope cl C X.env) fp) tg I ft)
    (ht : ∀ (s : Shared) (H : Hp) (C : Addr) (cl : List (Str × Addr)) (fp : List Addr), SndTs (X.blk s H scope (compEnvC scope cl C X.env) fp) W0 ifs fT)
    (he : ∀ (s : Shared) (H : Hp) (C : Addr) (cl : List (Str × Addr)) (fp : List Addr), SndE (X.blk s H scope (compEnvC scope cl C X.env) fp) W0 elt fE)
    (hy : X.N[i]? = some y := by rfl) (hyl : X.env.scope.names.lookup y = some .local := by rfl) (hk : X.env.scope.kind = .function := by rfl) (hl : (py.line == pos.line) = true := by rfl)
    (ha : (scope.names.any fun (n, k) => n == y && (k == .local || k == .cell)) = false := by decide +kernel)
    (hI : ∀ i ∈ I, i ∈ own.map (·.2) := by decide) (hs : ∀ x, foldedSetIterable iter X.env x = pure x := by intro _; rfl) :
    SndS X W nf (.Assign [.Name y py] (.ListComp elt [⟨tg, iter, ifs, 0⟩] scope pos) spos) (setO i (frzS (lcE (own.map (·.2)) fi ft fT fE))) := (sndx_setLc hc hN hy hyl (sw_true hk hyl hl ha) hi ok hI hg ht he hs).2
theorem s_unp {tg e : Expr} {pos : Pos} {I : List Nat} {f : Fe D} {ft : D → List Sl → Option (List Sl)} (he : SndE X W e f) (hg : SndTg X tg I ft) (hs : swapsWithSole [tg] e pos.line X.env = pure false := by rfl) (hw : swappedStores [tg] e X.env = pure none := by rfl)
    (h1 : (assignEach [tg] X.env).map (·.2) = [assign tg X.env] := by rfl) : SndS X W nf (.Assign [tg] e pos) (tgO f ft) := sndx_unp he hg hs hw h1
theorem s_par (i j : Nat) {x y : Str} {a c : Expr} {px py pt pos : Pos} {kt k2 pt2} {f g : Fe Sl} (hc : X.calm = true) (hN : X.N.Nodup) (h1 : SndR X W a f) (h2 : SndR X W c g) (hi : X.N[i]? = some x := by rfl) (hj : X.N[j]? = some y := by rfl) (hij : i ≠ j := by decide)
    (hx : X.env.scope.names.lookup x = some .local := by rfl) (hy : X.env.scope.names.lookup y = some .local := by rfl)
    (hs1 : starEach [a, c] X.env = (false, eval a X.env) :: starEach [c] X.env := by rfl) (hs2 : starEach [c] X.env = (false, eval c X.env) :: starEach [] X.env := by rfl)
    (hw : swappedStores [.Tuple [.Name x px, .Name y py] kt pt] (.Tuple [a, c] k2 pt2) X.env = pure (some [x, y]) := by rfl)
    (hs : swapsWithSole [.Tuple [.Name x px, .Name y py] kt pt] (.Tuple [a, c] k2 pt2) pos.line X.env = pure false := by rfl) :
    SndS X W nf (.Assign [.Tuple [.Name x px, .Name y py] kt pt] (.Tuple [a, c] k2 pt2) pos) (parO i j f g) := sndx_par hc hN hi hj hij hx hy h1 h2 hs1 hs2 hw hs
theorem s_for {tg iter : Expr} {body : List Stmt} {pos : Pos} {I : List Nat} {fi : Fe (Bool × List D)} {ft : D → List Sl → Option (List Sl)} {fb : Fs} (tk : Takes X W) (hp : PassesOwn (model X.prog X.w) X.A X.env X.xe) (hc : X.calm = true) (hi : SndI X W tg iter fi) (hg : SndTg X tg I ft) (hb : SndSs X W nf body fb)
    (hs : ∀ x, foldedSetIterable iter X.env x = pure x := by intro _; rfl) : SndS X W nf (.For tg iter body [] pos) (forO fi ft fb) := sndx_for tk hp hc hi hg hb hs
theorem s_while {c : Expr} {body : List Stmt} {pos : Pos} {fc : Fe Bool} {fb : Fs} (N : List Sl → Fd → Nat) (hp : PassesOwn (model X.prog X.w) X.A X.env X.xe) (hc : SndT X W c fc) (hb : SndSs X W nf body fb) : SndS X W nf (.While c body [] pos) (whO fc fb N) := sndx_while hp hc hb
theorem s_app (i : Nat) {x : Str} {e : Expr} {p0 apos cpos pos : Pos} {f : Fe D} (h : SndE X W e f) (hN : X.N[i]? = some x := by rfl) (hv : Vis X.env.scope x := by first | exact .inl rfl | exact .inr (.inl rfl) | exact .inr (.inr rfl)) (hd : (x == ("__debug__" : Str)) = false := by rfl) (hcd : (x == ("__classdict__" : Str)) = false := by rfl)
    (m : MOk X (.Name x p0) "append" apos [e] cpos pos (.Call (.Attribute (.Name x p0) "append" apos) [e] [] cpos) := by exact ⟨rfl, rfl, rfl⟩)
    (hfew : ((backTo cpos (starEach [e] X.env)).all (fun x => !x.1) && (backToKw cpos (keywordEach [] X.env)).all (fun x => x.1.isSome) && decide ([e].length + ([] : List Keyword).length + (if ([] : List Keyword).isEmpty then 0 else 1) < 30)) = true := by rfl)
    (hs : starEach [e] X.env = (false, eval e X.env) :: starEach [] X.env := by rfl) (hplain : (backTo cpos (starEach [] X.env)).any (·.1) = false := by rfl) :
    SndS X W nf (.Expr (.Call (.Attribute (.Name x p0) "append" apos) [e] [] cpos) pos) (appO i f) := sndx_append hN hv hd hcd h m hfew hs hplain
theorem s_ext (i : Nat) {x : Str} {e : Expr} {p0 apos cpos pos : Pos} {f : Fe D} (h : SndE X W e f) (hN : X.N[i]? = some x := by rfl) (hv : Vis X.env.scope x := by first | exact .inl rfl | exact .inr (.inl rfl) | exact .inr (.inr rfl)) (hd : (x == ("__debug__" : Str)) = false := by rfl) (hcd : (x == ("__classdict__" : Str)) = false := by rfl)
    (m : MOk X (.Name x p0) "extend" apos [e] cpos pos (.Call (.Attribute (.Name x p0) "extend" apos) [e] [] cpos) := by exact ⟨rfl, rfl, rfl⟩)
    (hfew : ((backTo cpos (starEach [e] X.env)).all (fun x => !x.1) && (backToKw cpos (keywordEach [] X.env)).all (fun x => x.1.isSome) && decide ([e].length + ([] : List Keyword).length + (if ([] : List Keyword).isEmpty then 0 else 1) < 30)) = true := by rfl)
    (hs : starEach [e] X.env = (false, eval e X.env) :: starEach [] X.env := by rfl) (hplain : (backTo cpos (starEach [] X.env)).any (·.1) = false := by rfl) :
    SndS X W nf (.Expr (.Call (.Attribute (.Name x p0) "extend" apos) [e] [] cpos) pos) (extO i f) := sndx_extend hN hv hd hcd h m hfew hs hplain
theorem s_appM (i : Nat) {x : Str} {e : Expr} {p0 apos cpos pos : Pos} {f : List Sl → Fd → (D → List Sl → Fd → O) → O} (h : SndM X W nf e f) (hN : X.N[i]? = some x := by rfl) (hv : Vis X.env.scope x := by first | exact .inl rfl | exact .inr (.inl rfl) | exact .inr (.inr rfl)) (hd : (x == ("__debug__" : Str)) = false := by rfl) (hcd : (x == ("__classdict__" : Str)) = false := by rfl)
    (m : MOk X (.Name x p0) "append" apos [e] cpos pos (.Call (.Attribute (.Name x p0) "append" apos) [e] [] cpos) := by exact ⟨rfl, rfl, rfl⟩)
    (hfew : ((backTo cpos (starEach [e] X.env)).all (fun x => !x.1) && (backToKw cpos (keywordEach [] X.env)).all (fun x => x.1.isSome) && decide ([e].length + ([] : List Keyword).length + (if ([] : List Keyword).isEmpty then 0 else 1) < 30)) = true := by rfl)
    (hs : starEach [e] X.env = (false, eval e X.env) :: starEach [] X.env := by rfl) (hplain : (backTo cpos (starEach [] X.env)).any (·.1) = false := by rfl) :
    SndS X W nf (.Expr (.Call (.Attribute (.Name x p0) "append" apos) [e] [] cpos) pos) (appM i f) := sndx_appM hN hv hd hcd h m hfew hs hplain
theorem s_setM (i : Nat) {x : Str} {e : Expr} {pos pos' : Pos} {m : List Sl → Fd → (D → List Sl → Fd → O) → O} (hN : X.N.Nodup) (h : SndM X W nf e m) (hi : X.N[i]? = some x := by rfl) (hx : Loc X.env.scope x := by first | exact .inl rfl | exact .inr rfl)
    (hf : X.fn x = true ∨ X.env.scope.names.lookup x = some .local := by first | exact .inl rfl | exact .inr rfl) (hs : swapsWith e (some (.Name x pos')) pos.line X.env = pure false := by rfl) : SndS X W nf (.Assign [.Name x pos'] e pos) (setM i m) := sndx_setM hN hi hx hf h hs
theorem m_popAt (i : Nat) {x : Str} {e : Expr} {p0 apos cpos : Pos} {f : Fe D} (h : SndE X W e f) (hN : X.N[i]? = some x := by rfl) (hv : Vis X.env.scope x := by first | exact .inl rfl | exact .inr (.inl rfl) | exact .inr (.inr rfl)) (hd : (x == ("__debug__" : Str)) = false := by rfl) (hcd : (x == ("__classdict__" : Str)) = false := by rfl)
    (hbase : attributeBase (.Name x p0) "pop" X.env (eval (.Name x p0) X.env) = eval (.Name x p0) X.env := by rfl) (hline : (apos.endLine == cpos.line) = true := by rfl)
    (hfew : ((backTo cpos (starEach [e] X.env)).all (fun x => !x.1) && (backToKw cpos (keywordEach [] X.env)).all (fun x => x.1.isSome) && decide ([e].length + ([] : List Keyword).length + (if ([] : List Keyword).isEmpty then 0 else 1) < 30)) = true := by rfl)
    (hs : starEach [e] X.env = (false, eval e X.env) :: starEach [] X.env := by rfl) (hplain : (backTo cpos (starEach [] X.env)).any (·.1) = false := by rfl) :
    SndM X W nf (.Call (.Attribute (.Name x p0) "pop" apos) [e] [] cpos) (popM i f) := sndm_popAt hN hv hd hcd h hbase hline hfew hs hplain
theorem m_pop (i : Nat) {x : Str} {p0 apos cpos : Pos} (hN : X.N[i]? = some x := by rfl) (hv : Vis X.env.scope x := by first | exact .inl rfl | exact .inr (.inl rfl) | exact .inr (.inr rfl)) (hd : (x == ("__debug__" : Str)) = false := by rfl) (hcd : (x == ("__classdict__" : Str)) = false := by rfl)
    (hbase : attributeBase (.Name x p0) "pop" X.env (eval (.Name x p0) X.env) = eval (.Name x p0) X.env := by rfl) (hline : (apos.endLine == cpos.line) = true := by rfl) :
    SndM X W nf (.Call (.Attribute (.Name x p0) "pop" apos) [] [] cpos) (popL i) := sndm_pop hN hv hd hcd hbase hline
theorem s_store (i : Nat) {k : Nat} {x : Str} {ie e : Expr} {p0 pos' pos : Pos} {fv fk : Fe D} (hr : Room k X.A) (he : SndE X W e fv) (hk : SndE X W ie fk) (hN : X.N[i]? = some x := by rfl) (hv : Vis X.env.scope x := by first | exact .inl rfl | exact .inr (.inl rfl) | exact .inr (.inr rfl)) (hd : (x == ("__debug__" : Str)) = false := by rfl) (hcd : (x == ("__classdict__" : Str)) = false := by rfl)
    (ha : ∀ v, assign (.Subscript (.Name x p0) ie pos') X.env v = (do
      let ov ← holding [v] (eval (.Name x p0) X.env)
      let iv ← holding [v, ov] (eval ie X.env)
      standAt pos'
      holding [v, ov, iv] (setItem ov iv v)
      release [v, ov, iv] []) := by intro _; rfl)
    (hs : swapsWithSole [.Subscript (.Name x p0) ie pos'] e pos.line X.env = pure false := by rfl) (hw : swappedStores [.Subscript (.Name x p0) ie pos'] e X.env = pure none := by rfl)
    (h1 : (assignEach [.Subscript (.Name x p0) ie pos'] X.env).map (·.2) = [assign (.Subscript (.Name x p0) ie pos') X.env] := by rfl) :
    SndS X W nf (.Assign [.Subscript (.Name x p0) ie pos'] e pos) (stO i fv fk) := sndx_store (by have := hr.un; omega) hN hv hd hcd he hk ha hs hw h1
theorem s_augA (i : Nat) {x : Str} {e : Expr} {pos pos' : Pos} {f : Fe D} (hN : X.N.Nodup) (h : SndE X W e f) (hi : X.N[i]? = some x := by rfl) (hx : Loc X.env.scope x := by first | exact .inl rfl | exact .inr rfl) (hf : X.fn x = true ∨ X.env.scope.names.lookup x = some .local := by first | exact .inl rfl | exact .inr rfl) :
    SndS X W nf (.AugAssign (.Name x pos') .Add e pos) (augO (fun i j => i + j) i f) := sndx_aug ip_add hN hi hx hf h
theorem s_augS (i : Nat) {x : Str} {e : Expr} {pos pos' : Pos} {f : Fe D} (hN : X.N.Nodup) (h : SndE X W e f) (hi : X.N[i]? = some x := by rfl) (hx : Loc X.env.scope x := by first | exact .inl rfl | exact .inr rfl) (hf : X.fn x = true ∨ X.env.scope.names.lookup x = some .local := by first | exact .inl rfl | exact .inr rfl) :
    SndS X W nf (.AugAssign (.Name x pos') .Sub e pos) (augO (fun i j => i - j) i f) := sndx_aug ip_sub hN hi hx hf h
theorem s_raise {x m : Str} {j : Nat} {p p2 pos pos' : Pos} (hc : X.calm = true) (tk : Takes X W) (F : ClsF X.K X.mg x) (hg : Gl X x := by rfl) (hdb : (x == ("__debug__" : Str)) = false := by rfl) :
    SndS X W nf (.Raise (some (.Call (.Name x p) [.Constant (.str m) j p2] [] pos)) none pos') (raO x) := sndx_raise hc tk F hg hdb
theorem SndS.kl' {s : Stmt} {f : Fs} (I : List Nat) (h : SndS X W nf s f) : SndS X W nf s (klO I f) := h.kl I
theorem SndS.pkl' {s : Stmt} {f : Fs} (I : List Nat) (h : SndS X W nf s f) : SndS X W nf s (pkO I f) := h.pkl I
theorem SndS.pfz' {s : Stmt} {f : Fs} (i : Nat) (h : SndS X W nf s f) : SndS X W nf s (pfO i f) := h.pfz i
end
end PD

/-! PD22: defs that call themselves, keywords. -/
namespace PD
open PySem PySem.Spec PyProof.Rows L2
section
variable {P : Program} {w : World} {K : Frag} {mg : Str → Option Value} {base : Heap}
theorem fnF_bad {x : Str} {st : Stmt} {f : Addr} {fd0 : FuncData} {N ps : List Str} {k : Nat} (F : FnP K x st f fd0) (hm : mg x = some (.ref f)) (S : FnScope N ps (defScope st)) (hbd : Binds K fd0 ps []) : FnF P w K mg base k x ps.length (fun _ _ => .bad) :=
  ⟨f, fd0, ps, rfl, ⟨fun vs H Q E h => by obtain ⟨fa, G, as, fd, _, _, _, _, hl, _⟩ := h; exact hl,
    fun A outer s H args us vs Q E hr he hb hv hs => by obtain ⟨fa, G, as, fd, _, _, _, _, _, z⟩ := hs; exact z.elim⟩, hm, F.kp, hbd⟩
theorem FnK.mono {j k n : Nat} {x : Str} {ks : List Str} {m : Fm} (h : FnK P w K mg base j x n ks m) (hj : j ≤ k) : FnK P w K mg base k x n ks m := by
  obtain ⟨f, fd, ps, e, ok, r⟩ := h.ex
  exact ⟨f, fd, ps, e, ok.mono hj, r⟩
theorem kb_of {x : Str} {st : Stmt} {f : Addr} {fd0 : FuncData} {ps ks : List Str} (F : FnP K x st f fd0)
    (h : ∀ (kV doc pm : Value) (an : Option Addr) (cdv ct : Value) (us ws : List Value), (us ++ ws).length = ps.length → bindArgs (PySem.W.fnOf x x (defArgs st) (defBody st) (defScope st) .none kV doc pm an cdv ct) ⟨us, ks.zip ws⟩ = pure (ps.zip (us ++ ws))) :
    KBinds K fd0 ps ks (fun us ws => us ++ ws) (fun us ws => us ++ ws) := by
  obtain ⟨oc, od, dV, kV, doc, pm, an, cdv, ct, osl, rfl, lk, hcd, hD, hK⟩ := F.ex
  rcases hD with ⟨_, rfl⟩ | ⟨e, _⟩
  · exact ⟨fun s us ws _ hl => .of_eq (h kV doc pm an cdv ct us ws hl), fun r1 r2 => r1.append r2⟩
  · exact absurd rfl e
theorem fnK_of {x : Str} {st : Stmt} {f : Addr} {fd0 : FuncData} {ps ks : List Str} {k : Nat} {m : Fm} (F : FnP K x st f fd0) (hm : mg x = some (.ref f)) (FF : FnOk P w K mg base (L2.CX P w) k f fd0 ps (spD K mg ps.length m)) (hb : KBinds K fd0 ps ks (fun us ws => us ++ ws) (fun us ws => us ++ ws)) : FnK P w K mg base k x ps.length ks m :=
  ⟨f, fd0, ps, rfl, FF, hm, F.kp, hb⟩
/-- nothing leaves it -/
theorem fn_calm {f : Addr} {fd0 : FuncData} {ps : List Str} {k n : Nat} {m : Fm} (F : FnOk P w K mg base (L2.CX P w) k f fd0 ps (spD K mg n m)) : FnOk P w K mg base (fun _ _ _ _ _ _ => False) k f fd0 ps (fun vs H Q _ => spD K mg n m vs H Q fun _ _ _ => False) :=
  ⟨fun vs H Q E h => F.len vs H Q _ h, fun A outer s H args us vs Q E hr he hb hv hs => codeAny_mono (F.run A outer s H args us vs Q _ hr he hb hv hs) fun r s' h => by
    cases r with
    | error e =>
      obtain ⟨a, B, H', cls, d, e1, e2, e3, e4, e5, e6, e7, z⟩ := h
      exact z.elim
    | ok fl => cases fl <;> exact h⟩
theorem fnF_ok {x : Str} {st : Stmt} {f : Addr} {fd0 : FuncData} {ps : List Str} {k : Nat} {m : Fm} (F : FnP K x st f fd0) (hm : mg x = some (.ref f)) (FF : FnOk P w K mg base (L2.CX P w) k f fd0 ps (spD K mg ps.length m)) (hb : Binds K fd0 ps []) : FnF P w K mg base k x ps.length m :=
  ⟨f, fd0, ps, rfl, FF, hm, F.kp, hb⟩
end
section
variable {X : Cx} {W : WX} {nf : Bool}
/-- x, y = a, b where a comprehension sees x or y -/
theorem sndx_parC {i j : Nat} {x y : Str} {a c : Expr} {px py pt pos : Pos} {kt k2 pt2} {f g : Fe Sl} (hc : X.calm = true) (hN : X.N.Nodup) (hi : X.N[i]? = some x) (hj : X.N[j]? = some y)
    (hx : Loc X.env.scope x) (hy : Loc X.env.scope y) (hfx : X.fn x = true ∨ X.env.scope.names.lookup x = some .local) (hfy : X.fn y = true ∨ X.env.scope.names.lookup y = some .local) (h1 : SndR X W a f) (h2 : SndR X W c g)
    (hs1 : starEach [a, c] X.env = (false, eval a X.env) :: starEach [c] X.env) (hs2 : starEach [c] X.env = (false, eval c X.env) :: starEach [] X.env)
    (ht1 : (assignEach [Expr.Name x px, .Name y py] X.env).map (·.2) = assign (.Name x px) X.env :: (assignEach [.Name y py] X.env).map (·.2)) (ht2 : (assignEach [Expr.Name y py] X.env).map (·.2) = assign (.Name y py) X.env :: (assignEach [] X.env).map (·.2))
    (hn : (assignEach [Expr.Name x px, .Name y py] X.env).length = 2) (hst : (assignEach [Expr.Name x px, .Name y py] X.env).findIdx? (·.1) = none)
    (hw : swappedStores [.Tuple [.Name x px, .Name y py] kt pt] (.Tuple [a, c] k2 pt2) X.env = pure none)
    (hs : swapsWithSole [.Tuple [.Name x px, .Name y py] kt pt] (.Tuple [a, c] k2 pt2) pos.line X.env = pure false)
    (ha : (assignEach [.Tuple [.Name x px, .Name y py] kt pt] X.env).map (·.2) = [assign (.Tuple [.Name x px, .Name y py] kt pt) X.env]) :
    SndS X W nf (.Assign [.Tuple [.Name x px, .Name y py] kt pt] (.Tuple [a, c] k2 pt2) pos) (parO i j f g) := by
  obtain ⟨t1, p1, q1⟩ := h1.ex
  obtain ⟨t2, p2, q2⟩ := h2.ex
  refine ⟨_, ps_asg (pe_tup (pa_cons p1 (pa_cons p2 pa_nil hs2) hs1)) (pg_tup hc (pgs_cons (pg_name hN hi hx hfx) (pgs_cons (pg_name hN hj hy hfy) pgs_nil ht2) ht1) hn hst) hs hw ha, fun b fa σ H G sl fd D hnf E B k => ?_⟩
  refine q1 fa σ H G sl fd _ E (Post.st B k fun s1 fd1 v H1 G1 E1 S1 B1 r1 k1 => ?_)
  refine q2 fa σ H1 G1 sl fd1 _ E1 (Post.st B1 k1 fun s2 fd2 w H2 G2 E2 S2 B2 r2 k2 => ?_)
  refine ⟨(by show 2 ≤ sizeLine; decide), fun p hp => ?_⟩
  have S3 := Step.frz (fa := fa) (o := HO.tup [v, w]) E2.gh hp
  have E3 := E2.frz (o := .tup [v, w]) hp
  have B3 := B2.step S3
  refine ⟨p, [v, w], rfl, .of upd_same, rfl, v, [w], rfl, w, [], rfl, rfl, ?_⟩
  have r1' := ResOk.step E r1 (S2.trans S3)
  have r2' := ResOk.step E1 r2 S3
  obtain ⟨E4, B4⟩ := lay E E3 B B3 r1' i
  have nf : ∀ a, H1 a = none → fa ≠ some a := fun a hn z => by
    obtain ⟨_, ⟨o, h⟩, _⟩ := E1.fdis a z
    rw [hn] at h; cases h
  have nn : ∀ a, H1 a = none → ∀ k, ¬ OwnAt (σ.set i (some v)) (sl.set i s1) k a := fun a hn k h => by
    rcases ownAt_set h with ⟨_, o, e⟩ | ⟨_, o⟩
    · injection e with e; subst e
      have : ∃ o, H1 a = some o := by
        cases s1 with
        | lst xs => obtain ⟨c, e, _, _, oo⟩ := r1; injection e with e; subst e; exact oo.ex.1
        | dK xs => obtain ⟨c, e, _, _, oo⟩ := r1; injection e with e; subst e; exact oo.ex.1
        | dT xs => obtain ⟨c, e, _, _, oo⟩ := r1; injection e with e; subst e; exact oo.ex.1
        | _ => cases o
      obtain ⟨o, e⟩ := this
      rw [hn] at e; cases e
    · exact E1.nown hn k o
  have fin : EN X.K fa ((σ.set i (some v)).set j (some w)) (upd H2 p (.tup [v, w])) (upd G2 p (.tup [v, w])) ((sl.set i s1).set j s2) fd2 ∧ Bs b fa ((σ.set i (some v)).set j (some w)) (upd H2 p (.tup [v, w])) (upd G2 p (.tup [v, w])) ((sl.set i s1).set j s2) := by
    cases s2 with
    | val d => exact ⟨E4.setV j rfl ⟨w, rfl, r2'⟩, B4.setV j rfl⟩
    | no => obtain ⟨_, _, _, _, o⟩ := r2'; exact o.elim
    | fd => obtain ⟨_, _, _, _, o⟩ := r2'; exact o.elim
    | lst xs => obtain ⟨a, rfl, n, g, o⟩ := r2'; exact ⟨E4.setO j rfl g o (nf a n) (nn a n), B4.setO j (B1.new n)⟩
    | dK xs => obtain ⟨a, rfl, n, g, o⟩ := r2'; exact ⟨E4.setO j rfl g o (nf a n) (nn a n), B4.setO j (B1.new n)⟩
    | dT xs => obtain ⟨a, rfl, n, g, o⟩ := r2'; exact ⟨E4.setO j rfl g o (nf a n) (nn a n), B4.setO j (B1.new n)⟩
  exact k2 fa _ _ _ fin.1 fin.2
theorem s_parC (i j : Nat) {x y : Str} {a c : Expr} {px py pt pos : Pos} {kt k2 pt2} {f g : Fe Sl} (hc : X.calm = true) (hN : X.N.Nodup) (h1 : SndR X W a f) (h2 : SndR X W c g) (hi : X.N[i]? = some x := by rfl) (hj : X.N[j]? = some y := by rfl)
    (hx : Loc X.env.scope x := by first | exact .inl rfl | exact .inr rfl) (hy : Loc X.env.scope y := by first | exact .inl rfl | exact .inr rfl)
    (hfx : X.fn x = true ∨ X.env.scope.names.lookup x = some .local := by first | exact .inl rfl | exact .inr rfl) (hfy : X.fn y = true ∨ X.env.scope.names.lookup y = some .local := by first | exact .inl rfl | exact .inr rfl)
    (hs1 : starEach [a, c] X.env = (false, eval a X.env) :: starEach [c] X.env := by rfl) (hs2 : starEach [c] X.env = (false, eval c X.env) :: starEach [] X.env := by rfl)
    (ht1 : (assignEach [Expr.Name x px, .Name y py] X.env).map (·.2) = assign (.Name x px) X.env :: (assignEach [.Name y py] X.env).map (·.2) := by rfl) (ht2 : (assignEach [Expr.Name y py] X.env).map (·.2) = assign (.Name y py) X.env :: (assignEach [] X.env).map (·.2) := by rfl)
    (hn : (assignEach [Expr.Name x px, .Name y py] X.env).length = 2 := by rfl) (hst : (assignEach [Expr.Name x px, .Name y py] X.env).findIdx? (·.1) = none := by rfl)
    (hw : swappedStores [.Tuple [.Name x px, .Name y py] kt pt] (.Tuple [a, c] k2 pt2) X.env = pure none := by rfl)
    (hs : swapsWithSole [.Tuple [.Name x px, .Name y py] kt pt] (.Tuple [a, c] k2 pt2) pos.line X.env = pure false := by rfl)
    (ha : (assignEach [.Tuple [.Name x px, .Name y py] kt pt] X.env).map (·.2) = [assign (.Tuple [.Name x px, .Name y py] kt pt) X.env] := by rfl) :
    SndS X W nf (.Assign [.Tuple [.Name x px, .Name y py] kt pt] (.Tuple [a, c] k2 pt2) pos) (parO i j f g) := sndx_parC hc hN hi hj hx hy hfx hfy h1 h2 hs1 hs2 ht1 ht2 hn hst hw hs ha
end
end PD

namespace K73
open PySem PySem.Spec PyProof.Rows L2 PD
/-! ### the models of the defs -/
def b_is_integer : Fs :=
  (reO (rsS (andE (fzE (isS (isi1 "int") (pvS 0))) (andE (nvS (fzE (isS (isi1 "bool") (pvS 0)))) (blS (chnE leD leD (pvS 1) (pvS 0) (pvS 2)))))))
def m_is_integer : Fm := fnM false 3 b_is_integer
def b_are_ascending : Fs :=
  (reO (biS gAll (cnS (pkS (fzE (lcE [1, 2] (zipE (cnS (pvS 0) (cnS (pkS (fzE (slS (pvS 0) (some (cS (.int 1))) none))) nlS))) (ttS 2 (tlC (tnS 1) (tlC (tnS 2) tlN))) yesS (fzE (opS (bo ltD) (pvS 1) (pvS 2)))))) nlS)))
def m_are_ascending : Fm := fnM false 3 b_are_ascending
def b_is_wait : Fs :=
  (sqO (ifO (orT (ntS (trS (pkS (fzE (isS (isi1 "tuple") (pvS 1)))))) (cmS neD (pkS (fzE (biS gLen (cnS (pvS 1) nlS)))) (pkS (cS (.int 3))))) (reO (rsS (cS (.bool false)))) nilO)
  (sqO (klO [0] (ifO (orT (ntS (trS (pkS (fzE (caS 3 m_is_integer (cnS (rsS (fzE (ixS (pvS 1) (pkS (cS (.int 0)))))) (cnS (rsS (cS (.int 0))) (cnS (rsS (fzE (opS subD (pvS 0) (pkS (cS (.int 1)))))) nlS)))))))) (ntS (trS (pkS (fzE (caS 3 m_is_integer (cnS (rsS (fzE (ixS (pvS 1) (pkS (cS (.int 1)))))) (cnS (rsS (cS (.int 0))) (cnS (rsS (fzE (opS subD (pvS 0) (pkS (cS (.int 1)))))) nlS))))))))) (reO (rsS (cS (.bool false)))) nilO))
  (reO (rsS (andE (fzE (opS (bo neD) (pkS (fzE (ixS (pvS 1) (pkS (cS (.int 0)))))) (pkS (fzE (ixS (pvS 1) (pkS (cS (.int 1)))))))) (fzE (caS 3 m_is_integer (cnS (rsS (fzE (ixS (pvS 1) (pkS (cS (.int 2)))))) (cnS (rsS (neS (cS (.int (1000000))))) (cnS (rsS (cS (.int (1000000)))) nlS))))))))))
def m_is_wait : Fm := fnM false 2 b_is_wait
def b_is_work : Fs :=
  (sqO (ifO (orT (ntS (trS (pkS (fzE (isS (isi1 "tuple") (pvS 1)))))) (cmS neD (pkS (fzE (biS gLen (cnS (pvS 1) nlS)))) (pkS (cS (.int 2))))) (reO (rsS (cS (.bool false)))) nilO)
  (reO (rsS (andE (fzE (biS gAll (cnS (pkS (fzE (lcE [2] (seqE (pvS 1)) (tnS 2) yesS (fzE (caS 3 m_is_integer (cnS (gvS 2) (cnS (rsS (cS (.int 0))) (cnS (rsS (fzE (opS subD (pvS 0) (pkS (cS (.int 1)))))) nlS)))))))) nlS))) (fzE (opS (bo neD) (pkS (fzE (ixS (pvS 1) (pkS (cS (.int 0)))))) (pkS (fzE (ixS (pvS 1) (pkS (cS (.int 1))))))))))))
def m_is_work : Fm := fnM false 3 b_is_work
def b_is_plan_form : Fs :=
  (sqO (ifO (orT (ntS (trS (pkS (fzE (isS (isi1 "tuple") (pvS 0)))))) (orT (cmS neD (pkS (fzE (biS gLen (cnS (pvS 0) nlS)))) (pkS (cS (.int 3)))) (ntS (trS (pkS (fzE (caS 3 m_is_integer (cnS (rsS (fzE (ixS (pvS 0) (pkS (cS (.int 0)))))) (cnS (rsS (cS (.int 1))) (cnS (rsS (cS (.int (40)))) nlS)))))))))) (reO (rsS (cS (.bool false)))) nilO)
  (sqO (klO [0] (tgO (evS 0) (ttS 3 (tlC (tnS 1) (tlC (tnS 2) (tlC (tnS 3) tlN))))))
  (sqO (ifO (orT (ntS (trS (pkS (fzE (isS (isi1 "tuple") (pvS 2)))))) (orT (cmS gtD (pkS (fzE (biS gLen (cnS (pvS 2) nlS)))) (pkS (cS (.int (300))))) (ntS (trS (pkS (fzE (biS gAll (cnS (pkS (fzE (lcE [4] (seqE (pvS 2)) (tnS 4) yesS (fzE (caS 2 m_is_wait (cnS (gvS 1) (cnS (gvS 4) nlS))))))) nlS)))))))) (reO (rsS (cS (.bool false)))) nilO)
  (sqO (klO [2] (ifO (ntS (trS (pkS (fzE (caS 1 m_are_ascending (cnS (rsS (fzE (lcE [4] (seqE (pvS 2)) (tnS 4) yesS (fzE (slS (pvS 4) none (some (cS (.int 2)))))))) nlS)))))) (reO (rsS (cS (.bool false)))) nilO))
  (reO (rsS (andE (fzE (isS (isi1 "tuple") (pvS 3))) (andE (fzE (opS (bo leD) (pkS (fzE (biS gLen (cnS (pvS 3) nlS)))) (pkS (cS (.int (40)))))) (fzE (biS gAll (cnS (pkS (fzE (lcE [5] (seqE (pvS 3)) (tnS 5) yesS (fzE (caS 2 m_is_work (cnS (gvS 1) (cnS (gvS 5) nlS))))))) nlS)))))))))))
def m_is_plan_form : Fm := fnM false 6 b_is_plan_form
def b_need_plan_form : Fs :=
  (klO [0] (ifO (ntS (trS (pkS (fzE (caS 1 m_is_plan_form (cnS (gvS 0) nlS)))))) (raO "BadPlan") nilO))
def m_need_plan_form : Fm := fnM false 1 b_need_plan_form
def b_plan_text : Fs :=
  (sqO (exO (caS 1 m_need_plan_form (cnS (gvS 0) nlS)))
  (sqO (setO 1 (liS (cnS (fzE (opS addD (pkS (cS (.str "events "))) (pkS (fzE (biS gStr (cnS (pkS (fzE (ixS (pvS 0) (pkS (cS (.int 0)))))) nlS)))))) nlS)))
  (sqO (extO 1 (fzE (lcE [2, 3, 4] (seqE (pkS (fzE (ixS (pvS 0) (pkS (cS (.int 1))))))) (ttS 3 (tlC (tnS 2) (tlC (tnS 3) (tlC (tnS 4) tlN)))) yesS (fzE (opS addD (pkS (fzE (opS addD (pkS (fzE (opS addD (pkS (fzE (opS addD (pkS (fzE (opS addD (pkS (cS (.str "wait "))) (pkS (fzE (biS gStr (cnS (pvS 2) nlS))))))) (pkS (cS (.str " ")))))) (pkS (fzE (biS gStr (cnS (pvS 3) nlS))))))) (pkS (cS (.str " ")))))) (pkS (fzE (biS gStr (cnS (pvS 4) nlS)))))))))
  (sqO (klO [0] (extO 1 (fzE (lcE [5, 6] (seqE (pkS (fzE (ixS (pvS 0) (pkS (cS (.int 2))))))) (ttS 2 (tlC (tnS 5) (tlC (tnS 6) tlN))) yesS (fzE (opS addD (pkS (fzE (opS addD (pkS (fzE (opS addD (pkS (cS (.str "work "))) (pkS (fzE (biS gStr (cnS (pvS 5) nlS))))))) (pkS (cS (.str " ")))))) (pkS (fzE (biS gStr (cnS (pvS 6) nlS))))))))))
  (reO (strM joinD (pkS (cS (.str "\n"))) (pvS 1)))))))
def m_plan_text : Fm := fnM false 7 b_plan_text
def b_is_number_text : Fs :=
  (sqO (setO 1 (frzS (itS (cmS eqD (pkS (fzE (slS (pvS 0) none (some (cS (.int 1)))))) (pkS (cS (.str "-")))) (slS (pvS 0) (some (cS (.int 1))) none) (rsS (evS 0)))))
  (sqO (ifO (orT (ntS (chnE leD leD (pkS (cS (.int 1))) (pkS (fzE (biS gLen (cnS (pvS 1) nlS)))) (pkS (cS (.int 7))))) (ntS (trS (pkS (fzE (biS gAll (cnS (pkS (fzE (lcE [2] (seqE (pvS 1)) (tnS 2) yesS (fzE (opS (bo inD) (pvS 2) (pkS (cS (.str "0123456789")))))))) nlS))))))) (reO (rsS (cS (.bool false)))) nilO)
  (reO (rsS (orE (andE (fzE (opS (bo eqD) (pvS 1) (pkS (cS (.str "0"))))) (fzE (opS (bo eqD) (pvS 0) (pkS (cS (.str "0")))))) (fzE (opS (bo neD) (pkS (fzE (ixS (pvS 1) (pkS (cS (.int 0)))))) (pkS (cS (.str "0"))))))))))
def m_is_number_text : Fm := fnM false 3 b_is_number_text
def b_read_plan : Fs :=
  (sqO (ifO (orT (ntS (trS (pkS (fzE (isS (isi1 "str") (pvS 0)))))) (cmS gtD (pkS (fzE (biS gLen (cnS (pvS 0) nlS)))) (pkS (cS (.int (20000)))))) (raO "BadText") nilO)
  (sqO (klO [0] (setO 1 (frzS (lcE [8] (seqE (pkS (fzE (strM splitD (pvS 0) (pkS (cS (.str "\n"))))))) (tnS 8) yesS (fzE (strM splitD (pvS 8) (pkS (cS (.str " ")))))))))
  (sqO (setO 2 (frzS (dnS (.dK (mergeD [((.str "events"), (.int 2)), ((.str "wait"), (.int 4)), ((.str "work"), (.int 3))])))))
  (sqO (klO [2, 3] (forO (seqE (pvS 1)) (tnS 3)
  (klO [3] (ifO (orT (cmS neD (pkS (fzE (getE (pvS 2) (pkS (fzE (ixS (pvS 3) (pkS (cS (.int 0)))))) (cS (.int 0))))) (pkS (fzE (biS gLen (cnS (pvS 3) nlS))))) (ntS (trS (pkS (fzE (biS gAll (cnS (pkS (fzE (lcE [9] (seqE (pkS (fzE (slS (pvS 3) (some (cS (.int 1))) none)))) (tnS 9) yesS (fzE (caS 1 m_is_number_text (cnS (gvS 9) nlS)))))) nlS))))))) (raO "BadText") nilO))))
  (sqO (ifO (orT (cmS neD (pkS (fzE (ixS (pkS (fzE (ixS (pvS 1) (pkS (cS (.int 0)))))) (pkS (cS (.int 0)))))) (pkS (cS (.str "events")))) (cmS neD (pkS (fzE (lcE [3] (seqE (pkS (fzE (slS (pvS 1) (some (cS (.int 1))) none)))) (tnS 3) yesS (fzE (ixS (pvS 3) (pkS (cS (.int 0)))))))) (pkS (fzE (biS gSorted (cnS (pkS (fzE (lcE [3] (seqE (pkS (fzE (slS (pvS 1) (some (cS (.int 1))) none)))) (tnS 3) yesS (fzE (ixS (pvS 3) (pkS (cS (.int 0)))))))) nlS)))))) (raO "BadText") nilO)
  (sqO (setO 4 (frzS (lcE [3] (seqE (pvS 1)) (tnS 3) yesS (fzE (biS gTup (cnS (pkS (fzE (lcE [9] (seqE (pkS (fzE (slS (pvS 3) (some (cS (.int 1))) none)))) (tnS 9) yesS (fzE (biS gInt (cnS (pvS 9) nlS)))))) nlS))))))
  (sqO (setO 5 (frzS (biS gTup (cnS (pkS (fzE (lcE [3, 10] (zipE (cnS (pvS 1) (cnS (pvS 4) nlS))) (ttS 2 (tlC (tnS 3) (tlC (tnS 10) tlN))) (cmS eqD (pkS (fzE (ixS (pvS 3) (pkS (cS (.int 0)))))) (pkS (cS (.str "wait")))) (evS 10)))) nlS))))
  (sqO (setO 6 (frzS (biS gTup (cnS (pkS (fzE (lcE [3, 10] (zipE (cnS (pvS 1) (cnS (pvS 4) nlS))) (ttS 2 (tlC (tnS 3) (tlC (tnS 10) tlN))) (cmS eqD (pkS (fzE (ixS (pvS 3) (pkS (cS (.int 0)))))) (pkS (cS (.str "work")))) (evS 10)))) nlS))))
  (sqO (klO [4, 5, 6] (setO 7 (frzS (tuS (cnS (fzE (ixS (pkS (fzE (ixS (pvS 4) (pkS (cS (.int 0)))))) (pkS (cS (.int 0))))) (cnS (evS 5) (cnS (evS 6) nlS)))))))
  (sqO (klO [1] (ifO (orT (cmS inD (pkS (cS (.str "events"))) (pkS (fzE (lcE [3] (seqE (pkS (fzE (slS (pvS 1) (some (cS (.int 1))) none)))) (tnS 3) yesS (fzE (ixS (pvS 3) (pkS (cS (.int 0))))))))) (ntS (trS (pkS (fzE (caS 1 m_is_plan_form (cnS (gvS 7) nlS))))))) (raO "BadText") nilO))
  (rvO 7)))))))))))
def m_read_plan : Fm := fnM false 11 b_read_plan
def b_is_plan : Fs :=
  (reO (caS 1 m_is_plan_form (cnS (gvS 0) nlS)))
def m_is_plan : Fm := fnM false 1 b_is_plan
def b__law_feed : Fs :=
  (sqO (setO 2 (frzS (opS addD (pkS (fzE (opS mulD (pkS (cS (.int 8887))) (pvS 1)))) (pkS (fzE (opS mulD (pkS (cS (.int 333))) (pkS (fzE (biS gSum (cnS (pkS (fzE (slS (pvS 0) none (some (cS (.int 3)))))) nlS))))))))))
  (sqO (klO [0] (ifO (cmS ltD (pvS 1) (pkS (fzE (biS gLen (cnS (pvS 0) nlS))))) (klO [0] (setO 2 (frzS (ixS (pvS 0) (pvS 1))))) nilO))
  (reO (liS (cnS (fzE (biS gMax (cnS (pkS (cS (.int 0))) (cnS (pkS (fzE (opS subD (pvS 2) (pkS (fzE (opS powD (pkS (cS (.int 10))) (pkS (cS (.int 18))))))))) nlS)))) (cnS (fzE (opS modD (pkS (fzE (biS gInt (cnS (pkS (fzE (opS addD (pkS (fzE (opS addD (pkS (fzE (opS mulD (pvS 2) (pkS (cS (.int 1051)))))) (pkS (fzE (opS mulD (pkS (cS (.int 213))) (pvS 1))))))) (pkS (cS (.int 667)))))) nlS)))) (pkS (fzE (opS addD (pkS (fzE (opS powD (pkS (cS (.int 10))) (pkS (cS (.int 40)))))) (pkS (cS (.int 121)))))))) (cnS (cS (.int 0)) nlS)))))))
def m_law_feed : Fm := fnM false 3 b__law_feed
def b__law_draw : Fs :=
  (sqO (klO [2] (ifO (cmS gtD (pkS (fzE (ixS (pvS 0) (pkS (cS (.int 0)))))) (pkS (cS (.int 0)))) (sqO (setO 2 (frzS (opS modD (pkS (fzE (biS gInt (cnS (pkS (fzE (ixS (pvS 0) (pkS (cS (.int 0)))))) nlS)))) (pvS 1))))
  (sqO (klO [0, 1] (stO 0 (fzE (opS fdivD (pkS (fzE (ixS (pvS 0) (pkS (cS (.int 0)))))) (pvS 1))) (cS (.int 0))))
  (rvO 2))) nilO))
  (sqO (stO 0 (fzE (opS addD (pkS (fzE (ixS (pvS 0) (pkS (cS (.int 2)))))) (pkS (cS (.int 1))))) (cS (.int 2)))
  (sqO (setO 3 (frzS (opS addD (pkS (fzE (ixS (pvS 0) (pkS (cS (.int 1)))))) (pkS (fzE (opS mulD (pkS (cS (.int 75076463))) (pkS (fzE (ixS (pvS 0) (pkS (cS (.int 2))))))))))))
  (sqO (klO [0] (setO 3 (frzS (opS modD (pkS (fzE (biS gInt (cnS (pkS (fzE (opS addD (pkS (fzE (opS addD (pkS (fzE (opS mulD (pkS (fzE (opS mulD (pvS 3) (pvS 3)))) (pvS 3)))) (pkS (fzE (opS mulD (pkS (cS (.int 64998887))) (pkS (fzE (ixS (pvS 0) (pkS (cS (.int 2)))))))))))) (pkS (cS (.int 7)))))) nlS)))) (pkS (fzE (opS addD (pkS (fzE (opS powD (pkS (cS (.int 10))) (pkS (cS (.int 41)))))) (pkS (cS (.int 81))))))))))
  (sqO (setO 3 (frzS (opS modD (pkS (fzE (biS gInt (cnS (pkS (fzE (opS addD (pkS (fzE (opS mulD (pvS 3) (pvS 3)))) (pkS (cS (.int 882475957)))))) nlS)))) (pkS (fzE (opS addD (pkS (fzE (opS powD (pkS (cS (.int 10))) (pkS (cS (.int 38)))))) (pkS (cS (.int 133)))))))))
  (reO (opS modD (pkS (fzE (biS gInt (cnS (pkS (fzE (opS fdivD (pvS 3) (pkS (fzE (opS powD (pkS (cS (.int 10))) (pkS (cS (.int 9))))))))) nlS)))) (pvS 1))))))))
def m_law_draw : Fm := fnM false 4 b__law_draw
def b__law_one : Fs :=
  (reO (ixS (pvS 1) (pkS (fzE (caS 2 m_law_draw (cnS (gvS 0) (cnS (rsS (fzE (biS gLen (cnS (pvS 1) nlS)))) nlS)))))))
def m_law_one : Fm := fnM false 2 b__law_one
def b__law_same (self : Fm) : Fs :=
  (sqO (ifO (cmS isD (pvS 1) (pkS (cS .none))) (reO (opS (bo isD) (pvS 0) (pkS (cS .none)))) nilO)
  (sqO (ifO (trS (pkS (fzE (isS (isi1 "bool") (pvS 1))))) (reO (rsS (andE (fzE (isS (isi1 "bool") (pvS 0))) (fzE (opS (bo eqD) (pvS 0) (pvS 1)))))) nilO)
  (sqO (ifO (trS (pkS (fzE (isS (isi1 "int") (pvS 1))))) (reO (rsS (andE (fzE (isS (isi1 "int") (pvS 0))) (andE (nvS (fzE (isS (isi1 "bool") (pvS 0)))) (fzE (opS (bo eqD) (pvS 0) (pvS 1))))))) nilO)
  (sqO (ifO (trS (pkS (fzE (isS (isi1 "str") (pvS 1))))) (reO (rsS (andE (fzE (isS (isi1 "str") (pvS 0))) (fzE (opS (bo eqD) (pvS 0) (pvS 1)))))) nilO)
  (sqO (ifO (orT (cmS neD (pkS (fzE (isS (isi1 "list") (pvS 1)))) (pkS (fzE (isS (isi1 "list") (pvS 0))))) (orT (ntS (trS (pkS (fzE (isS (isi2 "list" "tuple") (pvS 0)))))) (cmS neD (pkS (fzE (biS gLen (cnS (pvS 0) nlS)))) (pkS (fzE (biS gLen (cnS (pvS 1) nlS))))))) (reO (rsS (cS (.bool false)))) nilO)
  (reO (opS (bo eqD) (pkS (fzE (lcE [2, 3] (zipE (cnS (pvS 0) (cnS (pvS 1) nlS))) (ttS 2 (tlC (tnS 2) (tlC (tnS 3) tlN))) (ntS (trS (pkS (fzE (caS 2 self (cnS (gvS 2) (cnS (gvS 3) nlS))))))) (cS (.int 1))))) (pkS (fzE (liS nlS))))))))))
def m_law_same : Nat → Fm
  | 0 => fun _ _ => .bad
  | d + 1 => fnM false 4 (b__law_same (m_law_same d))
def b__law_mixed : Fs :=
  (sqO (parO 2 3 (biS gList (cnS (pvS 1) nlS)) (liS nlS))
  (sqO (klO [0, 1, 2, 4] (forO (rng1E (cnS (fzE (biS gLen (cnS (pvS 1) nlS))) nlS)) (tnS 4)
  (klO [1, 4] (appM 3 (popM 2 (fzE (caS 2 m_law_draw (cnS (gvS 0) (cnS (rsS (fzE (biS gLen (cnS (pvS 2) nlS)))) nlS)))))))))
  (rvO 3)))
def m_law_mixed : Fm := fnM false 5 b__law_mixed
def b__law_any : Fs :=
  (sqO (setO 1 (frzS (caS 2 m_law_one (cnS (gvS 0) (cnS (rsS (fzE (liS (cnS (cS (.int 1)) (cnS (cS (.int 2)) (cnS (cS (.int 3)) (cnS (cS (.int 9)) (cnS (cS (.int 40)) (cnS (fzE (opS addD (pkS (cS (.int 1))) (pkS (fzE (caS 2 m_law_draw (cnS (gvS 0) (cnS (rsS (cS (.int 40))) nlS))))))) nlS))))))))) nlS)))))
  (sqO (parO 2 3 (dnS (.dT [])) (frzS (caS 2 m_law_one (cnS (gvS 0) (cnS (rsS (fzE (liS (cnS (cS (.int 0)) (cnS (cS (.int 1)) (cnS (cS (.int 9)) (cnS (fzE (opS powD (pkS (cS (.int 10))) (pkS (cS (.int 6))))) nlS))))))) nlS)))))
  (sqO (klO [3, 4] (forO (rng1E (cnS (fzE (caS 2 m_law_one (cnS (gvS 0) (cnS (rsS (fzE (liS (cnS (cS (.int 0)) (cnS (cS (.int 1)) (cnS (cS (.int 5)) (cnS (cS (.int 40)) (cnS (cS (.int 300)) (cnS (fzE (caS 2 m_law_draw (cnS (gvS 0) (cnS (rsS (cS (.int 301))) nlS)))) nlS))))))))) nlS)))) nlS)) (tnS 4)
  (sqO (klO [4] (parO 5 6 (frzS (caS 2 m_law_draw (cnS (gvS 0) (cnS (gvS 1) nlS)))) (frzS (caS 2 m_law_draw (cnS (gvS 0) (cnS (gvS 1) nlS))))))
  (klO [5, 6] (ifO (cmS neD (pvS 5) (pvS 6)) (klO [5, 6] (stO 2 (fzE (opS subD (pkS (fzE (caS 2 m_law_draw (cnS (gvS 0) (cnS (rsS (fzE (opS addD (pkS (fzE (opS mulD (pkS (cS (.int 2))) (pvS 3)))) (pkS (cS (.int 1)))))) nlS))))) (pvS 3))) (fzE (tuS (cnS (evS 5) (cnS (evS 6) nlS)))))) nilO)))))
  (sqO (setO 7 (liS nlS))
  (sqO (klO [0, 4] (forO (rng1E (cnS (fzE (itS (cmS gtD (pvS 1) (pkS (cS (.int 1)))) (caS 2 m_law_one (cnS (gvS 0) (cnS (rsS (fzE (liS (cnS (cS (.int 0)) (cnS (cS (.int 1)) (cnS (cS (.int 3)) (cnS (cS (.int 40)) (cnS (fzE (caS 2 m_law_draw (cnS (gvS 0) (cnS (rsS (cS (.int 41))) nlS)))) nlS)))))))) nlS))) (rsS (cS (.int 0))))) nlS)) (tnS 4)
  (klO [4] (appO 7 (fzE (biS gTup (cnS (pkS (fzE (slS (pkS (fzE (caS 2 m_law_mixed (cnS (gvS 0) (cnS (rsS (fzE (lrS (evS 1)))) nlS))))) none (some (cS (.int 2)))))) nlS)))))))
  (reO (tuS (cnS (evS 1) (cnS (fzE (biS gTup (cnS (pkS (fzE (lcE [8] (seqE (pkS (fzE (biS gSorted (cnS (pvS 2) nlS))))) (tnS 8) yesS (fzE (opS addD (pvS 8) (pkS (fzE (tuS (cnS (fzE (ixS (pvS 2) (pvS 8))) nlS))))))))) nlS))) (cnS (fzE (biS gTup (cnS (pvS 7) nlS))) nlS))))))))))
def m_law_any : Fm := fnM false 9 b__law_any
def b__law_text : Fs :=
  (sqO (klO [0] (setO 1 (frzS (opS addD (pkS (fzE (opS addD (pkS (fzE (liS (cnS (fzE (liS (cnS (cS (.str "events")) (cnS (fzE (ixS (pvS 0) (pkS (cS (.int 0))))) nlS)))) nlS)))) (pkS (fzE (lcE [2] (seqE (pkS (fzE (ixS (pvS 0) (pkS (cS (.int 1))))))) (tnS 2) yesS (fzE (opS addD (pkS (fzE (liS (cnS (cS (.str "wait")) nlS)))) (pkS (fzE (biS gList (cnS (pvS 2) nlS)))))))))))) (pkS (fzE (lcE [3] (seqE (pkS (fzE (ixS (pvS 0) (pkS (cS (.int 2))))))) (tnS 3) yesS (fzE (opS addD (pkS (fzE (liS (cnS (cS (.str "work")) nlS)))) (pkS (fzE (biS gList (cnS (pvS 3) nlS)))))))))))))
  (reO (strM joinD (pkS (cS (.str "\n"))) (pkS (fzE (lcE [4] (seqE (pvS 1)) (tnS 4) yesS (fzE (strM joinD (pkS (cS (.str " "))) (pkS (fzE (lcE [5] (seqE (pvS 4)) (tnS 5) yesS (fzE (biS gStr (cnS (pvS 5) nlS))))))))))))))
def m_law_text : Fm := fnM false 6 b__law_text
def b__law_right : Fs :=
  (sqO (klO [0] (parO 1 2 (frzS (caS 1 m_law_any (cnS (gvS 0) nlS))) (frzS (caS 1 m_law_any (cnS (gvS 0) nlS)))))
  (sqO (setO 3 (frzS (caS 1 m_law_text (cnS (gvS 1) nlS))))
  (sqO (ifO (orT (cmS isnD (pkS (fzE (caS 1 m_is_plan (cnS (gvS 1) nlS)))) (pkS (cS (.bool true)))) (ntS (trS (pkS (fzE (caS 2 (m_law_same 10) (cnS (rsS (fzE (liS (cnS (fzE (caS 1 m_plan_text (cnS (gvS 1) nlS))) (cnS (fzE (ckS 1 m_plan_text (gvS 1))) nlS))))) (cnS (rsS (fzE (liS (cnS (evS 3) (cnS (evS 3) nlS))))) nlS)))))))) (reO (rsS (cS (.bool false)))) nilO)
  (sqO (ifO (ntS (trS (pkS (fzE (caS 2 (m_law_same 10) (cnS (rsS (fzE (liS (cnS (fzE (caS 1 m_read_plan (cnS (gvS 3) nlS))) (cnS (fzE (ckS 1 m_read_plan (gvS 3))) nlS))))) (cnS (rsS (fzE (liS (cnS (evS 1) (cnS (evS 1) nlS))))) nlS))))))) (reO (rsS (cS (.bool false)))) nilO)
  (reO (opS (bo eqD) (pkS (fzE (opS (bo eqD) (pkS (fzE (caS 1 m_plan_text (cnS (gvS 2) nlS)))) (pvS 3)))) (pkS (fzE (opS (bo eqD) (pvS 1) (pvS 2))))))))))
def m_law_right : Fm := fnM false 4 b__law_right
def b_law : Fs :=
  (sqO (klO [0, 1] (forO (rng1E (cnS (fzE (biS gMax (cnS (pkS (cS (.int 1))) (cnS (pkS (fzE (biS gMin (cnS (pkS (fzE (biS gLen (cnS (pvS 0) nlS)))) (cnS (pkS (cS (.int 3))) nlS))))) nlS)))) nlS)) (tnS 1)
  (sqO (klO [1] (setFd 2 (caS 2 m_law_feed (cnS (gvS 0) (cnS (gvS 1) nlS)))))
  (klO [2, 3] (forO (rng1E (cnS (cS (.int 3)) nlS)) (tnS 3)
  (klO [3] (ifO (ntS (trS (pkS (fzE (caS 1 m_law_right (cnS (gvS 2) nlS)))))) (reO (rsS (cS (.bool false)))) nilO)))))))
  (sqO (setO 4 (frzS (liS (cnS (fzE (tuS (cnS (fzE (tuS (cnS (cS (.int 1)) (cnS (fzE (tuS nlS)) (cnS (fzE (tuS nlS)) nlS))))) (cnS (cS (.str "events 1")) nlS)))) (cnS (fzE (tuS (cnS (fzE (tuS (cnS (cS (.int 2)) (cnS (fzE (tuS (cnS (fzE (tuS (cnS (cS (.int 0)) (cnS (cS (.int 1)) (cnS (cS (.int 5)) nlS))))) (cnS (fzE (tuS (cnS (cS (.int 1)) (cnS (cS (.int 0)) (cnS (neS (cS (.int 3))) nlS))))) nlS)))) (cnS (fzE (tuS (cnS (fzE (tuS (cnS (cS (.int 0)) (cnS (cS (.int 1)) nlS)))) (cnS (fzE (tuS (cnS (cS (.int 0)) (cnS (cS (.int 1)) nlS)))) nlS)))) nlS))))) (cnS (cS (.str "events 2\nwait 0 1 5\nwait 1 0 -3\nwork 0 1\nwork 0 1")) nlS)))) (cnS (fzE (tuS (cnS (fzE (tuS (cnS (cS (.int 3)) (cnS (fzE (tuS nlS)) (cnS (fzE (tuS (cnS (fzE (tuS (cnS (cS (.int 2)) (cnS (cS (.int 0)) nlS)))) nlS))) nlS))))) (cnS (cS (.str "events 3\nwork 2 0")) nlS)))) nlS))))))
  (reO (opS (bo eqD) (pkS (fzE (lcE [5, 6] (seqE (pvS 4)) (ttS 2 (tlC (tnS 5) (tlC (tnS 6) tlN))) (ntS (trS (pkS (fzE (caS 2 (m_law_same 10) (cnS (rsS (fzE (liS (cnS (fzE (caS 1 m_plan_text (cnS (gvS 5) nlS))) (cnS (fzE (caS 1 m_read_plan (cnS (gvS 6) nlS))) nlS))))) (cnS (rsS (fzE (liS (cnS (evS 6) (cnS (evS 5) nlS))))) nlS))))))) (cS (.int 1))))) (pkS (fzE (liS nlS)))))))
def m_law : Fm := fnM true 7 b_law
end K73

namespace K73
open PySem PySem.Spec PyProof.Rows L2 PD
def top (i : Nat) : Stmt := PySem.Challenge.pw_relaysandrows_k73_whole_texts_of_plans.main.body.getD i (.Pass ⟨0, 0, 0, 0⟩)
abbrev N_is_integer : List Str := ["thing", "least", "most"]
abbrev N_are_ascending : List Str := ["thing", "one", "other"]
abbrev N_is_wait : List Str := ["events", "thing"]
abbrev N_is_work : List Str := ["events", "thing", "event"]
abbrev N_is_plan_form : List Str := ["thing", "events", "waits", "works", "wait", "work"]
abbrev N_need_plan_form : List Str := ["thing"]
abbrev N_plan_text : List Str := ["plan", "lines", "one", "other", "wait", "begin", "end"]
abbrev N_is_number_text : List Str := ["text", "figures", "sign"]
abbrev N_read_plan : List Str := ["text", "lines", "wanted", "words", "told", "waits", "works", "plan", "line", "word", "row"]
abbrev N_is_plan : List Str := ["thing"]
abbrev N__law_feed : List Str := ["script", "k", "cell"]
abbrev N__law_draw : List Str := ["feed", "many", "got", "stir"]
abbrev N__law_one : List Str := ["feed", "things"]
abbrev N__law_same : List Str := ["told", "due", "one", "other"]
abbrev N__law_mixed : List Str := ["feed", "things", "left", "found", "turn"]
abbrev N__law_any : List Str := ["feed", "events", "waits", "most", "turn", "one", "other", "works", "pair"]
abbrev N__law_text : List Str := ["plan", "lines", "wait", "work", "line", "part"]
abbrev N__law_right : List Str := ["feed", "plan", "other", "text"]
abbrev N_law : List Str := ["script", "k", "feed", "turn", "by_hand", "plan", "text"]
/-- what the walk takes of the text -/
structure Txt (K : Frag) (mg : Str → Option Value) : Prop where
  d_is_integer : ∃ f fd, FnP K "is_integer" (top 9) f fd ∧ mg "is_integer" = some (.ref f)
  d_are_ascending : ∃ f fd, FnP K "are_ascending" (top 10) f fd ∧ mg "are_ascending" = some (.ref f)
  d_is_wait : ∃ f fd, FnP K "is_wait" (top 11) f fd ∧ mg "is_wait" = some (.ref f)
  d_is_work : ∃ f fd, FnP K "is_work" (top 12) f fd ∧ mg "is_work" = some (.ref f)
  d_is_plan_form : ∃ f fd, FnP K "is_plan_form" (top 13) f fd ∧ mg "is_plan_form" = some (.ref f)
  d_need_plan_form : ∃ f fd, FnP K "need_plan_form" (top 14) f fd ∧ mg "need_plan_form" = some (.ref f)
  d_plan_text : ∃ f fd, FnP K "plan_text" (top 17) f fd ∧ mg "plan_text" = some (.ref f)
  d_is_number_text : ∃ f fd, FnP K "is_number_text" (top 18) f fd ∧ mg "is_number_text" = some (.ref f)
  d_read_plan : ∃ f fd, FnP K "read_plan" (top 19) f fd ∧ mg "read_plan" = some (.ref f)
  d_is_plan : ∃ f fd, FnP K "is_plan" (top 21) f fd ∧ mg "is_plan" = some (.ref f)
  d__law_feed : ∃ f fd, FnP K "_law_feed" (top 23) f fd ∧ mg "_law_feed" = some (.ref f)
  d__law_draw : ∃ f fd, FnP K "_law_draw" (top 24) f fd ∧ mg "_law_draw" = some (.ref f)
  d__law_one : ∃ f fd, FnP K "_law_one" (top 25) f fd ∧ mg "_law_one" = some (.ref f)
  d__law_same : ∃ f fd, FnP K "_law_same" (top 26) f fd ∧ mg "_law_same" = some (.ref f)
  d__law_mixed : ∃ f fd, FnP K "_law_mixed" (top 27) f fd ∧ mg "_law_mixed" = some (.ref f)
  d__law_any : ∃ f fd, FnP K "_law_any" (top 28) f fd ∧ mg "_law_any" = some (.ref f)
  d__law_text : ∃ f fd, FnP K "_law_text" (top 29) f fd ∧ mg "_law_text" = some (.ref f)
  d__law_right : ∃ f fd, FnP K "_law_right" (top 30) f fd ∧ mg "_law_right" = some (.ref f)
  d_law : ∃ f fd, FnP K "law" (top 31) f fd ∧ mg "law" = some (.ref f)
  b_all : mg "all" = none
  b_bool : mg "bool" = none
  b_int : mg "int" = none
  b_isinstance : mg "isinstance" = none
  b_len : mg "len" = none
  b_list : mg "list" = none
  b_max : mg "max" = none
  b_min : mg "min" = none
  b_range : mg "range" = none
  b_sorted : mg "sorted" = none
  b_str : mg "str" = none
  b_sum : mg "sum" = none
  b_tuple : mg "tuple" = none
  b_zip : mg "zip" = none
  g_MOST_EVENTS : ∃ t, mg "MOST_EVENTS" = some (.int (40) t)
  g_MOST_TEXT : ∃ t, mg "MOST_TEXT" = some (.int (20000) t)
  g_MOST_WAIT : ∃ t, mg "MOST_WAIT" = some (.int (1000000) t)
  g_MOST_WAITS : ∃ t, mg "MOST_WAITS" = some (.int (300) t)
  g_MOST_WORKS : ∃ t, mg "MOST_WORKS" = some (.int (40) t)
  c_BadPlan : ClsF K mg "BadPlan"
  c_BadText : ClsF K mg "BadText"
section
variable {P : Program} {w : World} {K : Frag} {mg : Str → Option Value} {base : Heap}
theorem sc_is_integer : FnScope N_is_integer ["thing", "least", "most"] (defScope (top 9)) := ⟨rfl, rfl, rfl, by decide +kernel, rfl, by decide +kernel, by decide +kernel⟩
theorem o_is_integer (T : Txt K mg) {f : Addr} {fd : FuncData} (F : FnP K "is_integer" (top 9) f fd) : FnOk P w K mg base (L2.CX P w) 1 f fd ["thing", "least", "most"] (spD K mg 3 m_is_integer) := by
  refine fn_ok (k := 0) F sc_is_integer (FunD.bindsN F fun _ _ _ _ _ _ us hl => match us, hl with | [_, _, _], _ => rfl) (fun cdv A outer s H E hr => ?_)
  have nd : (N_is_integer).Nodup := sc_is_integer.nd
  unfold b_is_integer
  exact (s_one (s_re (snd_and (w_isi (w_pv 0) T.b_isinstance T.b_int).E (snd_and (w_notE (w_isi (w_pv 0) T.b_isinstance T.b_bool).E) (snd_one (w_chn c_le c_le (w_pv 1) (w_pv 0) (w_pv 2))))).R))
theorem f_is_integer (T : Txt K mg) : FnF P w K mg base 1 "is_integer" 3 m_is_integer := by
  obtain ⟨f, fd, F, hm⟩ := T.d_is_integer
  exact fnF_ok F hm (o_is_integer T F) (FunD.bindsN F fun _ _ _ _ _ _ us hl => match us, hl with | [_, _, _], _ => rfl)
theorem sc_are_ascending : FnScope N_are_ascending ["thing"] (defScope (top 10)) := ⟨rfl, rfl, rfl, by decide +kernel, rfl, by decide +kernel, by decide +kernel⟩
theorem o_are_ascending (T : Txt K mg) {f : Addr} {fd : FuncData} (F : FnP K "are_ascending" (top 10) f fd) : FnOk P w K mg base (L2.CX P w) 1 f fd ["thing"] (spD K mg 1 m_are_ascending) := by
  refine fn_ok (k := 0) F sc_are_ascending (FunD.bindsN F fun _ _ _ _ _ _ us hl => match us, hl with | [_], _ => rfl) (fun cdv A outer s H E hr => ?_)
  have nd : (N_are_ascending).Nodup := sc_are_ascending.nd
  unfold b_are_ascending
  exact (s_one (s_re (w_bi (k_all rfl T.b_all) (w_pc (w_lc (I := [1, 2]) (own := [("one", 1), ("other", 2)]) rfl nd (w_zip T.b_zip (w_pc (w_pv 0) (w_pc (w_sli (w_pv 0) (sndo_some w_int) sndo_none).E.P w_pn))) (blkOk_by (N := N_are_ascending) (sc := defScope (top 10)) (by decide +kernel)) (fun _ _ _ _ _ => (w_tt rfl (w_tlc (w_tn 1 nd) (w_tlc (w_tn 2 nd) w_tln)))) (fun _ _ _ _ _ => w_y) (fun _ _ _ _ _ => (w_cmp (c_lt hr) (w_pv 1) (w_pv 2)).E)).E.P w_pn))))
theorem f_are_ascending (T : Txt K mg) : FnF P w K mg base 1 "are_ascending" 1 m_are_ascending := by
  obtain ⟨f, fd, F, hm⟩ := T.d_are_ascending
  exact fnF_ok F hm (o_are_ascending T F) (FunD.bindsN F fun _ _ _ _ _ _ us hl => match us, hl with | [_], _ => rfl)
theorem sc_is_wait : FnScope N_is_wait ["events", "thing"] (defScope (top 11)) := ⟨rfl, rfl, rfl, by decide +kernel, rfl, by decide +kernel, by decide +kernel⟩
theorem o_is_wait (T : Txt K mg) {f : Addr} {fd : FuncData} (F : FnP K "is_wait" (top 11) f fd) : FnOk P w K mg base (L2.CX P w) 2 f fd ["events", "thing"] (spD K mg 2 m_is_wait) := by
  have F_is_integer : FnF P w K mg base (1) "is_integer" 3 m_is_integer := FnF.mono (f_is_integer T) (by omega)
  refine fn_ok (k := 1) F sc_is_wait (FunD.bindsN F fun _ _ _ _ _ _ us hl => match us, hl with | [_, _], _ => rfl) (fun cdv A outer s H E hr => ?_)
  have nd : (N_is_wait).Nodup := sc_is_wait.nd
  unfold b_is_wait
  exact (s_cons (s_if (sndw_or (w_not (w_isi (w_pv 1) T.b_isinstance T.b_tuple).E.P.T) (sndw_or1 (w_cmpT (c_ne hr) (w_bi (k_len T.b_len) (w_pc (w_pv 1) w_pn)).E.P w_int.P))).t (s_one (s_re w_bl.R)) s_nil)
  (s_cons ((s_if (sndw_or (w_not (w_call tk0 F_is_integer hr (w_gc (w_idx hr (w_pv 1) w_int.P).E.G (w_gc w_int.G (w_gc (w_bin b_sub (w_pv 0) w_int.P).E.G w_gn)))).E.P.T) (sndw_or1 (w_not (w_call tk0 F_is_integer hr (w_gc (w_idx hr (w_pv 1) w_int.P).E.G (w_gc w_int.G (w_gc (w_bin b_sub (w_pv 0) w_int.P).E.G w_gn)))).E.P.T))).t (s_one (s_re w_bl.R)) s_nil).kl' [0])
  (s_one (s_re (snd_and (w_cmp (c_ne hr) (w_idx hr (w_pv 1) w_int.P).E.P (w_idx hr (w_pv 1) w_int.P).E.P).E (snd_one (w_call tk0 F_is_integer hr (w_gc (w_idx hr (w_pv 1) w_int.P).E.G (w_gc (w_neg (w_glob T.g_MOST_WAIT)).G (w_gc (w_glob T.g_MOST_WAIT).G w_gn)))).E)).R))))
theorem f_is_wait (T : Txt K mg) : FnF P w K mg base 2 "is_wait" 2 m_is_wait := by
  obtain ⟨f, fd, F, hm⟩ := T.d_is_wait
  exact fnF_ok F hm (o_is_wait T F) (FunD.bindsN F fun _ _ _ _ _ _ us hl => match us, hl with | [_, _], _ => rfl)
theorem sc_is_work : FnScope N_is_work ["events", "thing"] (defScope (top 12)) := ⟨rfl, rfl, rfl, by decide +kernel, rfl, by decide +kernel, by decide +kernel⟩
theorem o_is_work (T : Txt K mg) {f : Addr} {fd : FuncData} (F : FnP K "is_work" (top 12) f fd) : FnOk P w K mg base (L2.CX P w) 2 f fd ["events", "thing"] (spD K mg 2 m_is_work) := by
  have F_is_integer : FnF P w K mg base (1) "is_integer" 3 m_is_integer := FnF.mono (f_is_integer T) (by omega)
  refine fn_ok (k := 1) F sc_is_work (FunD.bindsN F fun _ _ _ _ _ _ us hl => match us, hl with | [_, _], _ => rfl) (fun cdv A outer s H E hr => ?_)
  have nd : (N_is_work).Nodup := sc_is_work.nd
  unfold b_is_work
  exact (s_cons (s_if (sndw_or (w_not (w_isi (w_pv 1) T.b_isinstance T.b_tuple).E.P.T) (sndw_or1 (w_cmpT (c_ne hr) (w_bi (k_len T.b_len) (w_pc (w_pv 1) w_pn)).E.P w_int.P))).t (s_one (s_re w_bl.R)) s_nil)
  (s_one (s_re (snd_and (w_bi (k_all rfl T.b_all) (w_pc (w_lc (I := [2]) (own := [("event", 2)]) rfl nd (w_seq (w_pv 1)) (blkOk_by (N := N_is_work) (sc := defScope (top 12)) (by decide +kernel)) (fun _ _ _ _ _ => (w_tn 2 nd)) (fun _ _ _ _ _ => w_y) (fun _ _ _ _ _ => (w_call tkW F_is_integer hr (w_gc (w_gv 2) (w_gc w_int.G (w_gc (w_bin b_sub (w_pv 0) w_int.P).E.G w_gn)))).E)).E.P w_pn)).E (snd_one (w_cmp (c_ne hr) (w_idx hr (w_pv 1) w_int.P).E.P (w_idx hr (w_pv 1) w_int.P).E.P).E)).R)))
theorem f_is_work (T : Txt K mg) : FnF P w K mg base 2 "is_work" 2 m_is_work := by
  obtain ⟨f, fd, F, hm⟩ := T.d_is_work
  exact fnF_ok F hm (o_is_work T F) (FunD.bindsN F fun _ _ _ _ _ _ us hl => match us, hl with | [_, _], _ => rfl)
theorem sc_is_plan_form : FnScope N_is_plan_form ["thing"] (defScope (top 13)) := ⟨rfl, rfl, rfl, by decide +kernel, rfl, by decide +kernel, by decide +kernel⟩
theorem o_is_plan_form (T : Txt K mg) {f : Addr} {fd : FuncData} (F : FnP K "is_plan_form" (top 13) f fd) : FnOk P w K mg base (L2.CX P w) 3 f fd ["thing"] (spD K mg 1 m_is_plan_form) := by
  have F_are_ascending : FnF P w K mg base (2) "are_ascending" 1 m_are_ascending := FnF.mono (f_are_ascending T) (by omega)
  have F_is_integer : FnF P w K mg base (2) "is_integer" 3 m_is_integer := FnF.mono (f_is_integer T) (by omega)
  have F_is_wait : FnF P w K mg base (2) "is_wait" 2 m_is_wait := FnF.mono (f_is_wait T) (by omega)
  have F_is_work : FnF P w K mg base (2) "is_work" 2 m_is_work := FnF.mono (f_is_work T) (by omega)
  refine fn_ok (k := 2) F sc_is_plan_form (FunD.bindsN F fun _ _ _ _ _ _ us hl => match us, hl with | [_], _ => rfl) (fun cdv A outer s H E hr => ?_)
  have nd : (N_is_plan_form).Nodup := sc_is_plan_form.nd
  unfold b_is_plan_form
  exact (s_cons (s_if (sndw_or (w_not (w_isi (w_pv 0) T.b_isinstance T.b_tuple).E.P.T) (sndw_or (w_cmpT (c_ne hr) (w_bi (k_len T.b_len) (w_pc (w_pv 0) w_pn)).E.P w_int.P) (sndw_or1 (w_not (w_call tk0 F_is_integer hr (w_gc (w_idx hr (w_pv 0) w_int.P).E.G (w_gc w_int.G (w_gc (w_glob T.g_MOST_EVENTS).G w_gn)))).E.P.T)))).t (s_one (s_re w_bl.R)) s_nil)
  (s_cons ((s_unp (w_ev 0) (w_tt rfl (w_tlc (w_tn 1 nd) (w_tlc (w_tn 2 nd) (w_tlc (w_tn 3 nd) w_tln))))).kl' [0])
  (s_cons (s_if (sndw_or (w_not (w_isi (w_pv 2) T.b_isinstance T.b_tuple).E.P.T) (sndw_or (w_cmpT c_gt (w_bi (k_len T.b_len) (w_pc (w_pv 2) w_pn)).E.P (w_glob T.g_MOST_WAITS).P) (sndw_or1 (w_not (w_bi (k_all rfl T.b_all) (w_pc (w_lc (I := [4]) (own := [("wait", 4)]) rfl nd (w_seq (w_pv 2)) (blkOk_by (N := N_is_plan_form) (sc := defScope (top 13)) (by decide +kernel)) (fun _ _ _ _ _ => (w_tn 4 nd)) (fun _ _ _ _ _ => w_y) (fun _ _ _ _ _ => (w_call tkW F_is_wait hr (w_gc (w_gv 1) (w_gc (w_gv 4) w_gn))).E)).E.P w_pn)).E.P.T)))).t (s_one (s_re w_bl.R)) s_nil)
  (s_cons ((s_if (w_not (w_call tk0 F_are_ascending hr (w_gc (w_lc (I := [4]) (own := [("wait", 4)]) rfl nd (w_seq (w_pv 2)) (blkOk_by (N := N_is_plan_form) (sc := defScope (top 13)) (by decide +kernel)) (fun _ _ _ _ _ => (w_tn 4 nd)) (fun _ _ _ _ _ => w_y) (fun _ _ _ _ _ => (w_sli (w_pv 4) sndo_none (sndo_some w_int)).E)).E.G w_gn)).E.P.T) (s_one (s_re w_bl.R)) s_nil).kl' [2])
  (s_one (s_re (snd_and (w_isi (w_pv 3) T.b_isinstance T.b_tuple).E (snd_and (w_cmp c_le (w_bi (k_len T.b_len) (w_pc (w_pv 3) w_pn)).E.P (w_glob T.g_MOST_WORKS).P).E (snd_one (w_bi (k_all rfl T.b_all) (w_pc (w_lc (I := [5]) (own := [("work", 5)]) rfl nd (w_seq (w_pv 3)) (blkOk_by (N := N_is_plan_form) (sc := defScope (top 13)) (by decide +kernel)) (fun _ _ _ _ _ => (w_tn 5 nd)) (fun _ _ _ _ _ => w_y) (fun _ _ _ _ _ => (w_call tkW F_is_work hr (w_gc (w_gv 1) (w_gc (w_gv 5) w_gn))).E)).E.P w_pn)).E))).R))))))
theorem f_is_plan_form (T : Txt K mg) : FnF P w K mg base 3 "is_plan_form" 1 m_is_plan_form := by
  obtain ⟨f, fd, F, hm⟩ := T.d_is_plan_form
  exact fnF_ok F hm (o_is_plan_form T F) (FunD.bindsN F fun _ _ _ _ _ _ us hl => match us, hl with | [_], _ => rfl)
theorem sc_need_plan_form : FnScope N_need_plan_form ["thing"] (defScope (top 14)) := ⟨rfl, rfl, rfl, by decide +kernel, rfl, by decide +kernel, by decide +kernel⟩
theorem o_need_plan_form (T : Txt K mg) {f : Addr} {fd : FuncData} (F : FnP K "need_plan_form" (top 14) f fd) : FnOk P w K mg base (L2.CX P w) 4 f fd ["thing"] (spD K mg 1 m_need_plan_form) := by
  have F_is_plan_form : FnF P w K mg base (3) "is_plan_form" 1 m_is_plan_form := FnF.mono (f_is_plan_form T) (by omega)
  refine fn_ok (k := 3) F sc_need_plan_form (FunD.bindsN F fun _ _ _ _ _ _ us hl => match us, hl with | [_], _ => rfl) (fun cdv A outer s H E hr => ?_)
  have nd : (N_need_plan_form).Nodup := sc_need_plan_form.nd
  unfold b_need_plan_form
  exact (s_one ((s_if (w_not (w_call tk0 F_is_plan_form hr (w_gc (w_gv 0) w_gn)).E.P.T) (s_one (s_raise rfl tk0 T.c_BadPlan)) s_nil).kl' [0]))
theorem f_need_plan_form (T : Txt K mg) : FnF P w K mg base 4 "need_plan_form" 1 m_need_plan_form := by
  obtain ⟨f, fd, F, hm⟩ := T.d_need_plan_form
  exact fnF_ok F hm (o_need_plan_form T F) (FunD.bindsN F fun _ _ _ _ _ _ us hl => match us, hl with | [_], _ => rfl)
theorem sc_plan_text : FnScope N_plan_text ["plan"] (defScope (top 17)) := ⟨rfl, rfl, rfl, by decide +kernel, rfl, by decide +kernel, by decide +kernel⟩
theorem o_plan_text (T : Txt K mg) {f : Addr} {fd : FuncData} (F : FnP K "plan_text" (top 17) f fd) : FnOk P w K mg base (L2.CX P w) 5 f fd ["plan"] (spD K mg 1 m_plan_text) := by
  have F_need_plan_form : FnF P w K mg base (4) "need_plan_form" 1 m_need_plan_form := FnF.mono (f_need_plan_form T) (by omega)
  refine fn_ok (k := 4) F sc_plan_text (FunD.bindsN F fun _ _ _ _ _ _ us hl => match us, hl with | [_], _ => rfl) (fun cdv A outer s H E hr => ?_)
  have nd : (N_plan_text).Nodup := sc_plan_text.nd
  unfold b_plan_text
  exact (s_cons (s_ex (w_call tk0 F_need_plan_form hr (w_gc (w_gv 0) w_gn)))
  (s_cons (s_set 1 nd (w_lst (w_ac (w_bin b_add w_str.P (w_bi (k_str T.b_str) (w_pc (w_idx hr (w_pv 0) w_int.P).E.P w_pn)).E.P).E w_an)))
  (s_cons (s_ext 1 (w_lc (I := [2, 3, 4]) (own := [("one", 2), ("other", 3), ("wait", 4)]) rfl nd (w_seq (w_idx hr (w_pv 0) w_int.P).E.P) (blkOk_by (N := N_plan_text) (sc := defScope (top 17)) (by decide +kernel)) (fun _ _ _ _ _ => (w_tt rfl (w_tlc (w_tn 2 nd) (w_tlc (w_tn 3 nd) (w_tlc (w_tn 4 nd) w_tln))))) (fun _ _ _ _ _ => w_y) (fun _ _ _ _ _ => (w_bin b_add (w_bin b_add (w_bin b_add (w_bin b_add (w_bin b_add w_str.P (w_bi (k_str T.b_str) (w_pc (w_pv 2) w_pn)).E.P).E.P w_str.P).E.P (w_bi (k_str T.b_str) (w_pc (w_pv 3) w_pn)).E.P).E.P w_str.P).E.P (w_bi (k_str T.b_str) (w_pc (w_pv 4) w_pn)).E.P).E)).E)
  (s_cons ((s_ext 1 (w_lc (I := [5, 6]) (own := [("begin", 5), ("end", 6)]) rfl nd (w_seq (w_idx hr (w_pv 0) w_int.P).E.P) (blkOk_by (N := N_plan_text) (sc := defScope (top 17)) (by decide +kernel)) (fun _ _ _ _ _ => (w_tt rfl (w_tlc (w_tn 5 nd) (w_tlc (w_tn 6 nd) w_tln)))) (fun _ _ _ _ _ => w_y) (fun _ _ _ _ _ => (w_bin b_add (w_bin b_add (w_bin b_add w_str.P (w_bi (k_str T.b_str) (w_pc (w_pv 5) w_pn)).E.P).E.P w_str.P).E.P (w_bi (k_str T.b_str) (w_pc (w_pv 6) w_pn)).E.P).E)).E).kl' [0])
  (s_one (s_re (w_join w_str.P (w_pv 1))))))))
theorem f_plan_text (T : Txt K mg) : FnF P w K mg base 5 "plan_text" 1 m_plan_text := by
  obtain ⟨f, fd, F, hm⟩ := T.d_plan_text
  exact fnF_ok F hm (o_plan_text T F) (FunD.bindsN F fun _ _ _ _ _ _ us hl => match us, hl with | [_], _ => rfl)
theorem k_plan_text (T : Txt K mg) : FnK P w K mg base 5 "plan_text" 1 ["plan"] m_plan_text := by
  obtain ⟨f, fd, F, hm⟩ := T.d_plan_text
  exact fnK_of F hm (o_plan_text T F) (kb_of F fun _ _ _ _ _ _ us ws hl => match us, ws, hl with | [], [_], _ => rfl | [_], [], _ => rfl)
theorem sc_is_number_text : FnScope N_is_number_text ["text"] (defScope (top 18)) := ⟨rfl, rfl, rfl, by decide +kernel, rfl, by decide +kernel, by decide +kernel⟩
theorem o_is_number_text (T : Txt K mg) {f : Addr} {fd : FuncData} (F : FnP K "is_number_text" (top 18) f fd) : FnOk P w K mg base (L2.CX P w) 1 f fd ["text"] (spD K mg 1 m_is_number_text) := by
  refine fn_ok (k := 0) F sc_is_number_text (FunD.bindsN F fun _ _ _ _ _ _ us hl => match us, hl with | [_], _ => rfl) (fun cdv A outer s H E hr => ?_)
  have nd : (N_is_number_text).Nodup := sc_is_number_text.nd
  unfold b_is_number_text
  exact (s_cons (s_set 1 nd (w_ite (w_cmpT (c_eq hr) (w_sli (w_pv 0) sndo_none (sndo_some w_int)).E.P w_str.P) (w_sli (w_pv 0) (sndo_some w_int) sndo_none) (w_ev 0).R).frzS)
  (s_cons (s_if (sndw_or (w_not (w_chnT c_le c_le w_int.P (w_bi (k_len T.b_len) (w_pc (w_pv 1) w_pn)).E.P w_int.P)) (sndw_or1 (w_not (w_bi (k_all rfl T.b_all) (w_pc (w_lc (I := [2]) (own := [("sign", 2)]) rfl nd (w_seq (w_pv 1)) (blkOk_by (N := N_is_number_text) (sc := defScope (top 18)) (by decide +kernel)) (fun _ _ _ _ _ => (w_tn 2 nd)) (fun _ _ _ _ _ => w_y) (fun _ _ _ _ _ => (w_cmp (c_in hr) (w_pv 2) w_str.P).E)).E.P w_pn)).E.P.T))).t (s_one (s_re w_bl.R)) s_nil)
  (s_one (s_re (snd_or (snd_and (w_cmp (c_eq hr) (w_pv 1) w_str.P).E (snd_one (w_cmp (c_eq hr) (w_pv 0) w_str.P).E)) (snd_one (w_cmp (c_ne hr) (w_idx hr (w_pv 1) w_int.P).E.P w_str.P).E)).R))))
theorem f_is_number_text (T : Txt K mg) : FnF P w K mg base 1 "is_number_text" 1 m_is_number_text := by
  obtain ⟨f, fd, F, hm⟩ := T.d_is_number_text
  exact fnF_ok F hm (o_is_number_text T F) (FunD.bindsN F fun _ _ _ _ _ _ us hl => match us, hl with | [_], _ => rfl)
theorem sc_read_plan : FnScope N_read_plan ["text"] (defScope (top 19)) := ⟨rfl, rfl, rfl, by decide +kernel, rfl, by decide +kernel, by decide +kernel⟩
theorem o_read_plan (T : Txt K mg) {f : Addr} {fd : FuncData} (F : FnP K "read_plan" (top 19) f fd) : FnOk P w K mg base (L2.CX P w) 4 f fd ["text"] (spD K mg 1 m_read_plan) := by
  have F_is_number_text : FnF P w K mg base (3) "is_number_text" 1 m_is_number_text := FnF.mono (f_is_number_text T) (by omega)
  have F_is_plan_form : FnF P w K mg base (3) "is_plan_form" 1 m_is_plan_form := FnF.mono (f_is_plan_form T) (by omega)
  refine fn_ok (k := 3) F sc_read_plan (FunD.bindsN F fun _ _ _ _ _ _ us hl => match us, hl with | [_], _ => rfl) (fun cdv A outer s H E hr => ?_)
  have nd : (N_read_plan).Nodup := sc_read_plan.nd
  unfold b_read_plan
  exact (s_cons (s_if (sndw_or (w_not (w_isi (w_pv 0) T.b_isinstance T.b_str).E.P.T) (sndw_or1 (w_cmpT c_gt (w_bi (k_len T.b_len) (w_pc (w_pv 0) w_pn)).E.P (w_glob T.g_MOST_TEXT).P))).t (s_one (s_raise rfl tk0 T.c_BadText)) s_nil)
  (s_cons ((s_lcF 1 (I := [8]) (own := [("line", 8)]) rfl nd (w_seq (w_split (w_pv 0) w_str.P).E.P) (blkOk_by (N := N_read_plan) (sc := defScope (top 19)) (by decide +kernel)) (fun _ _ _ _ _ => (w_tn 8 nd)) (fun _ _ _ _ _ => w_y) (fun _ _ _ _ _ => (w_split (w_pv 8) w_str.P).E)).kl' [0])
  (s_cons (s_set 2 nd (w_disp (CKs.cons (kk := .inr "events") pe_str pe_int (fun G => .int _) (CKs.cons (kk := .inr "wait") pe_str pe_int (fun G => .int _) (CKs.cons (kk := .inr "work") pe_str pe_int (fun G => .int _) CKs.nil)))).frzS)
  (s_cons ((s_for tk0 po0 rfl (w_seq (w_pv 1)) (w_tn 3 nd) (s_one ((s_if (sndw_or (w_cmpT (c_ne hr) (w_get hr (w_pv 2) (w_idx hr (w_pv 3) w_int.P).E.P w_int).E.P (w_bi (k_len T.b_len) (w_pc (w_pv 3) w_pn)).E.P) (sndw_or1 (w_not (w_bi (k_all rfl T.b_all) (w_pc (w_lc (I := [9]) (own := [("word", 9)]) rfl nd (w_seq (w_sli (w_pv 3) (sndo_some w_int) sndo_none).E.P) (blkOk_by (N := N_read_plan) (sc := defScope (top 19)) (by decide +kernel)) (fun _ _ _ _ _ => (w_tn 9 nd)) (fun _ _ _ _ _ => w_y) (fun _ _ _ _ _ => (w_call tkW F_is_number_text hr (w_gc (w_gv 9) w_gn)).E)).E.P w_pn)).E.P.T))).t (s_one (s_raise rfl tk0 T.c_BadText)) s_nil).kl' [3]))).kl' [2, 3])
  (s_cons (s_if (sndw_or (w_cmpT (c_ne hr) (w_idx hr (w_idx hr (w_pv 1) w_int.P).E.P w_int.P).E.P w_str.P) (sndw_or1 (w_cmpT (c_ne hr) (w_lc (I := [3]) (own := [("words", 3)]) rfl nd (w_seq (w_sli (w_pv 1) (sndo_some w_int) sndo_none).E.P) (blkOk_by (N := N_read_plan) (sc := defScope (top 19)) (by decide +kernel)) (fun _ _ _ _ _ => (w_tn 3 nd)) (fun _ _ _ _ _ => w_y) (fun _ _ _ _ _ => (w_idx hr (w_pv 3) w_int.P).E)).E.P (w_bi (k_sorted rfl hr T.b_sorted) (w_pc (w_lc (I := [3]) (own := [("words", 3)]) rfl nd (w_seq (w_sli (w_pv 1) (sndo_some w_int) sndo_none).E.P) (blkOk_by (N := N_read_plan) (sc := defScope (top 19)) (by decide +kernel)) (fun _ _ _ _ _ => (w_tn 3 nd)) (fun _ _ _ _ _ => w_y) (fun _ _ _ _ _ => (w_idx hr (w_pv 3) w_int.P).E)).E.P w_pn)).E.P))).t (s_one (s_raise rfl tk0 T.c_BadText)) s_nil)
  (s_cons (s_lcF 4 (I := [3]) (own := [("words", 3)]) rfl nd (w_seq (w_pv 1)) (blkOk_by (N := N_read_plan) (sc := defScope (top 19)) (by decide +kernel)) (fun _ _ _ _ _ => (w_tn 3 nd)) (fun _ _ _ _ _ => w_y) (fun _ _ _ _ _ => (w_bi (k_tuple T.b_tuple) (w_pc (w_lc (I := [9]) (own := [("word", 9)]) rfl nd (w_seq (w_sli (w_pv 3) (sndo_some w_int) sndo_none).E.P) (blkOk_by (by rfl)) (fun _ _ _ _ _ => (w_tn 9 nd)) (fun _ _ _ _ _ => w_y) (fun _ _ _ _ _ => (w_bi (k_int T.b_int) (w_pc (w_pv 9) w_pn)).E)).E.P w_pn)).E))
  (s_cons (s_set 5 nd (w_bi (k_tuple T.b_tuple) (w_pc (w_lc (I := [3, 10]) (own := [("words", 3), ("row", 10)]) rfl nd (w_zip T.b_zip (w_pc (w_pv 1) (w_pc (w_pv 4) w_pn))) (blkOk_by (N := N_read_plan) (sc := defScope (top 19)) (by decide +kernel)) (fun _ _ _ _ _ => (w_tt rfl (w_tlc (w_tn 3 nd) (w_tlc (w_tn 10 nd) w_tln)))) (fun _ _ _ _ _ => (w_y1 (w_cmpT (c_eq hr) (w_idx hr (w_pv 3) w_int.P).E.P w_str.P))) (fun _ _ _ _ _ => (w_ev 10))).E.P w_pn)).frzS)
  (s_cons (s_set 6 nd (w_bi (k_tuple T.b_tuple) (w_pc (w_lc (I := [3, 10]) (own := [("words", 3), ("row", 10)]) rfl nd (w_zip T.b_zip (w_pc (w_pv 1) (w_pc (w_pv 4) w_pn))) (blkOk_by (N := N_read_plan) (sc := defScope (top 19)) (by decide +kernel)) (fun _ _ _ _ _ => (w_tt rfl (w_tlc (w_tn 3 nd) (w_tlc (w_tn 10 nd) w_tln)))) (fun _ _ _ _ _ => (w_y1 (w_cmpT (c_eq hr) (w_idx hr (w_pv 3) w_int.P).E.P w_str.P))) (fun _ _ _ _ _ => (w_ev 10))).E.P w_pn)).frzS)
  (s_cons ((s_set 7 nd (w_tup (w_ac (w_idx hr (w_idx hr (w_pv 4) w_int.P).E.P w_int.P).E (w_ac (w_ev 5) (w_ac (w_ev 6) w_an)))).frzS).kl' [4, 5, 6])
  (s_cons ((s_if (sndw_or (w_cmpT (c_in hr) w_str.P (w_lc (I := [3]) (own := [("words", 3)]) rfl nd (w_seq (w_sli (w_pv 1) (sndo_some w_int) sndo_none).E.P) (blkOk_by (N := N_read_plan) (sc := defScope (top 19)) (by decide +kernel)) (fun _ _ _ _ _ => (w_tn 3 nd)) (fun _ _ _ _ _ => w_y) (fun _ _ _ _ _ => (w_idx hr (w_pv 3) w_int.P).E)).E.P) (sndw_or1 (w_not (w_call tk0 F_is_plan_form hr (w_gc (w_gv 7) w_gn)).E.P.T))).t (s_one (s_raise rfl tk0 T.c_BadText)) s_nil).kl' [1])
  (s_one (s_rv 7))))))))))))
theorem f_read_plan (T : Txt K mg) : FnF P w K mg base 4 "read_plan" 1 m_read_plan := by
  obtain ⟨f, fd, F, hm⟩ := T.d_read_plan
  exact fnF_ok F hm (o_read_plan T F) (FunD.bindsN F fun _ _ _ _ _ _ us hl => match us, hl with | [_], _ => rfl)
theorem k_read_plan (T : Txt K mg) : FnK P w K mg base 4 "read_plan" 1 ["text"] m_read_plan := by
  obtain ⟨f, fd, F, hm⟩ := T.d_read_plan
  exact fnK_of F hm (o_read_plan T F) (kb_of F fun _ _ _ _ _ _ us ws hl => match us, ws, hl with | [], [_], _ => rfl | [_], [], _ => rfl)
theorem sc_is_plan : FnScope N_is_plan ["thing"] (defScope (top 21)) := ⟨rfl, rfl, rfl, by decide +kernel, rfl, by decide +kernel, by decide +kernel⟩
theorem o_is_plan (T : Txt K mg) {f : Addr} {fd : FuncData} (F : FnP K "is_plan" (top 21) f fd) : FnOk P w K mg base (L2.CX P w) 4 f fd ["thing"] (spD K mg 1 m_is_plan) := by
  have F_is_plan_form : FnF P w K mg base (3) "is_plan_form" 1 m_is_plan_form := FnF.mono (f_is_plan_form T) (by omega)
  refine fn_ok (k := 3) F sc_is_plan (FunD.bindsN F fun _ _ _ _ _ _ us hl => match us, hl with | [_], _ => rfl) (fun cdv A outer s H E hr => ?_)
  have nd : (N_is_plan).Nodup := sc_is_plan.nd
  unfold b_is_plan
  exact (s_one (s_re (w_call tk0 F_is_plan_form hr (w_gc (w_gv 0) w_gn))))
theorem f_is_plan (T : Txt K mg) : FnF P w K mg base 4 "is_plan" 1 m_is_plan := by
  obtain ⟨f, fd, F, hm⟩ := T.d_is_plan
  exact fnF_ok F hm (o_is_plan T F) (FunD.bindsN F fun _ _ _ _ _ _ us hl => match us, hl with | [_], _ => rfl)
theorem sc__law_feed : FnScope N__law_feed ["script", "k"] (defScope (top 23)) := ⟨rfl, rfl, rfl, by decide +kernel, rfl, by decide +kernel, by decide +kernel⟩
theorem o__law_feed (T : Txt K mg) {f : Addr} {fd : FuncData} (F : FnP K "_law_feed" (top 23) f fd) : FnOk P w K mg base (L2.CX P w) 1 f fd ["script", "k"] (spD K mg 2 m_law_feed) := by
  refine fn_ok (k := 0) F sc__law_feed (FunD.bindsN F fun _ _ _ _ _ _ us hl => match us, hl with | [_, _], _ => rfl) (fun cdv A outer s H E hr => ?_)
  have nd : (N__law_feed).Nodup := sc__law_feed.nd
  unfold b__law_feed
  exact (s_cons (s_set 2 nd (w_bin b_add (w_bin b_mul w_int.P (w_pv 1)).E.P (w_bin b_mul w_int.P (w_bi (k_sum rfl T.b_sum) (w_pc (w_sli (w_pv 0) sndo_none (sndo_some w_int)).E.P w_pn)).E.P).E.P).frzS)
  (s_cons ((s_if (w_cmpT (c_lt hr) (w_pv 1) (w_bi (k_len T.b_len) (w_pc (w_pv 0) w_pn)).E.P) (s_one ((s_set 2 nd (w_idx hr (w_pv 0) (w_pv 1)).frzS).kl' [0])) s_nil).kl' [0])
  (s_one (s_re (w_lst (w_ac (w_bi (k_max rfl T.b_max) (w_pc w_int.P (w_pc (w_bin b_sub (w_pv 2) (w_bin b_pow w_int.P w_int.P).E.P).E.P w_pn))).E (w_ac (w_bin b_mod (w_bi (k_int T.b_int) (w_pc (w_bin b_add (w_bin b_add (w_bin b_mul (w_pv 2) w_int.P).E.P (w_bin b_mul w_int.P (w_pv 1)).E.P).E.P w_int.P).E.P w_pn)).E.P (w_bin b_add (w_bin b_pow w_int.P w_int.P).E.P w_int.P).E.P).E (w_ac w_int w_an))))))))
theorem f__law_feed (T : Txt K mg) : FnF P w K mg base 1 "_law_feed" 2 m_law_feed := by
  obtain ⟨f, fd, F, hm⟩ := T.d__law_feed
  exact fnF_ok F hm (o__law_feed T F) (FunD.bindsN F fun _ _ _ _ _ _ us hl => match us, hl with | [_, _], _ => rfl)
theorem sc__law_draw : FnScope N__law_draw ["feed", "many"] (defScope (top 24)) := ⟨rfl, rfl, rfl, by decide +kernel, rfl, by decide +kernel, by decide +kernel⟩
theorem o__law_draw (T : Txt K mg) {f : Addr} {fd : FuncData} (F : FnP K "_law_draw" (top 24) f fd) : FnOk P w K mg base (L2.CX P w) 1 f fd ["feed", "many"] (spD K mg 2 m_law_draw) := by
  refine fn_ok (k := 0) F sc__law_draw (FunD.bindsN F fun _ _ _ _ _ _ us hl => match us, hl with | [_, _], _ => rfl) (fun cdv A outer s H E hr => ?_)
  have nd : (N__law_draw).Nodup := sc__law_draw.nd
  unfold b__law_draw
  exact (s_cons ((s_if (w_cmpT c_gt (w_idx hr (w_pv 0) w_int.P).E.P w_int.P) (s_cons (s_set 2 nd (w_bin b_mod (w_bi (k_int T.b_int) (w_pc (w_idx hr (w_pv 0) w_int.P).E.P w_pn)).E.P (w_pv 1)).frzS)
  (s_cons ((s_store 0 hr (w_bin b_fdiv (w_idx hr (w_pv 0) w_int.P).E.P (w_pv 1)).E w_int).kl' [0, 1])
  (s_one (s_rv 2)))) s_nil).kl' [2])
  (s_cons (s_store 0 hr (w_bin b_add (w_idx hr (w_pv 0) w_int.P).E.P w_int.P).E w_int)
  (s_cons (s_set 3 nd (w_bin b_add (w_idx hr (w_pv 0) w_int.P).E.P (w_bin b_mul w_int.P (w_idx hr (w_pv 0) w_int.P).E.P).E.P).frzS)
  (s_cons ((s_set 3 nd (w_bin b_mod (w_bi (k_int T.b_int) (w_pc (w_bin b_add (w_bin b_add (w_bin b_mul (w_bin b_mul (w_pv 3) (w_pv 3)).E.P (w_pv 3)).E.P (w_bin b_mul w_int.P (w_idx hr (w_pv 0) w_int.P).E.P).E.P).E.P w_int.P).E.P w_pn)).E.P (w_bin b_add (w_bin b_pow w_int.P w_int.P).E.P w_int.P).E.P).frzS).kl' [0])
  (s_cons (s_set 3 nd (w_bin b_mod (w_bi (k_int T.b_int) (w_pc (w_bin b_add (w_bin b_mul (w_pv 3) (w_pv 3)).E.P w_int.P).E.P w_pn)).E.P (w_bin b_add (w_bin b_pow w_int.P w_int.P).E.P w_int.P).E.P).frzS)
  (s_one (s_re (w_bin b_mod (w_bi (k_int T.b_int) (w_pc (w_bin b_fdiv (w_pv 3) (w_bin b_pow w_int.P w_int.P).E.P).E.P w_pn)).E.P (w_pv 1)))))))))
theorem f__law_draw (T : Txt K mg) : FnF P w K mg base 1 "_law_draw" 2 m_law_draw := by
  obtain ⟨f, fd, F, hm⟩ := T.d__law_draw
  exact fnF_ok F hm (o__law_draw T F) (FunD.bindsN F fun _ _ _ _ _ _ us hl => match us, hl with | [_, _], _ => rfl)
theorem sc__law_one : FnScope N__law_one ["feed", "things"] (defScope (top 25)) := ⟨rfl, rfl, rfl, by decide +kernel, rfl, by decide +kernel, by decide +kernel⟩
theorem o__law_one (T : Txt K mg) {f : Addr} {fd : FuncData} (F : FnP K "_law_one" (top 25) f fd) : FnOk P w K mg base (L2.CX P w) 2 f fd ["feed", "things"] (spD K mg 2 m_law_one) := by
  have F__law_draw : FnF P w K mg base (1) "_law_draw" 2 m_law_draw := FnF.mono (f__law_draw T) (by omega)
  refine fn_ok (k := 1) F sc__law_one (FunD.bindsN F fun _ _ _ _ _ _ us hl => match us, hl with | [_, _], _ => rfl) (fun cdv A outer s H E hr => ?_)
  have nd : (N__law_one).Nodup := sc__law_one.nd
  unfold b__law_one
  exact (s_one (s_re (w_idx hr (w_pv 1) (w_call tk0 F__law_draw hr (w_gc (w_gv 0) (w_gc (w_bi (k_len T.b_len) (w_pc (w_pv 1) w_pn)).E.G w_gn))).E.P)))
theorem f__law_one (T : Txt K mg) : FnF P w K mg base 2 "_law_one" 2 m_law_one := by
  obtain ⟨f, fd, F, hm⟩ := T.d__law_one
  exact fnF_ok F hm (o__law_one T F) (FunD.bindsN F fun _ _ _ _ _ _ us hl => match us, hl with | [_, _], _ => rfl)
theorem sc__law_same : FnScope N__law_same ["told", "due"] (defScope (top 26)) := ⟨rfl, rfl, rfl, by decide +kernel, rfl, by decide +kernel, by decide +kernel⟩
theorem f__law_same_d (T : Txt K mg) : ∀ e : Nat, FnF P w K mg base (1 + e) "_law_same" 2 (m_law_same e)
  | 0 => by
    obtain ⟨f, fd, F, hm⟩ := T.d__law_same
    exact fnF_bad F hm sc__law_same (FunD.bindsN F fun _ _ _ _ _ _ us hl => match us, hl with | [_, _], _ => rfl)
  | e + 1 => by
    have F__law_same : FnF P w K mg base (1 + e) "_law_same" 2 (m_law_same e) := f__law_same_d T e
    obtain ⟨f, fd, F, hm⟩ := T.d__law_same
    refine fnF_of (k := 1 + e) F hm sc__law_same (FunD.bindsN F fun _ _ _ _ _ _ us hl => match us, hl with | [_, _], _ => rfl) (fun cdv A outer s H E hr => ?_)
    have nd : (N__law_same).Nodup := sc__law_same.nd
    unfold b__law_same
    exact (s_cons (s_if (w_cmpT c_is (w_pv 1) w_non.P) (s_one (s_re (w_cmp c_is (w_pv 0) w_non.P))) s_nil)
  (s_cons (s_if (w_isi (w_pv 1) T.b_isinstance T.b_bool).E.P.T (s_one (s_re (snd_and (w_isi (w_pv 0) T.b_isinstance T.b_bool).E (snd_one (w_cmp (c_eq hr) (w_pv 0) (w_pv 1)).E)).R)) s_nil)
  (s_cons (s_if (w_isi (w_pv 1) T.b_isinstance T.b_int).E.P.T (s_one (s_re (snd_and (w_isi (w_pv 0) T.b_isinstance T.b_int).E (snd_and (w_notE (w_isi (w_pv 0) T.b_isinstance T.b_bool).E) (snd_one (w_cmp (c_eq hr) (w_pv 0) (w_pv 1)).E))).R)) s_nil)
  (s_cons (s_if (w_isi (w_pv 1) T.b_isinstance T.b_str).E.P.T (s_one (s_re (snd_and (w_isi (w_pv 0) T.b_isinstance T.b_str).E (snd_one (w_cmp (c_eq hr) (w_pv 0) (w_pv 1)).E)).R)) s_nil)
  (s_cons (s_if (sndw_or (w_cmpT (c_ne hr) (w_isi (w_pv 1) T.b_isinstance T.b_list).E.P (w_isi (w_pv 0) T.b_isinstance T.b_list).E.P) (sndw_or (w_not (w_isi2 (w_pv 0) T.b_isinstance T.b_list T.b_tuple).E.P.T) (sndw_or1 (w_cmpT (c_ne hr) (w_bi (k_len T.b_len) (w_pc (w_pv 0) w_pn)).E.P (w_bi (k_len T.b_len) (w_pc (w_pv 1) w_pn)).E.P)))).t (s_one (s_re w_bl.R)) s_nil)
  (s_one (s_re (w_cmp (c_eq hr) (w_lc (I := [2, 3]) (own := [("one", 2), ("other", 3)]) rfl nd (w_zip T.b_zip (w_pc (w_pv 0) (w_pc (w_pv 1) w_pn))) (blkOk_by (N := N__law_same) (sc := defScope (top 26)) (by decide +kernel)) (fun _ _ _ _ _ => (w_tt rfl (w_tlc (w_tn 2 nd) (w_tlc (w_tn 3 nd) w_tln)))) (fun _ _ _ _ _ => (w_y1 (w_not (w_call tkW F__law_same hr (w_gc (w_gv 2) (w_gc (w_gv 3) w_gn))).E.P.T))) (fun _ _ _ _ _ => w_int)).E.P (w_lst w_an).E.P))))))))
theorem f__law_same (T : Txt K mg) : FnF P w K mg base 11 "_law_same" 2 (m_law_same 10) := f__law_same_d T 10
theorem sc__law_mixed : FnScope N__law_mixed ["feed", "things"] (defScope (top 27)) := ⟨rfl, rfl, rfl, by decide +kernel, rfl, by decide +kernel, by decide +kernel⟩
theorem o__law_mixed (T : Txt K mg) {f : Addr} {fd : FuncData} (F : FnP K "_law_mixed" (top 27) f fd) : FnOk P w K mg base (L2.CX P w) 2 f fd ["feed", "things"] (spD K mg 2 m_law_mixed) := by
  have F__law_draw : FnF P w K mg base (1) "_law_draw" 2 m_law_draw := FnF.mono (f__law_draw T) (by omega)
  refine fn_ok (k := 1) F sc__law_mixed (FunD.bindsN F fun _ _ _ _ _ _ us hl => match us, hl with | [_, _], _ => rfl) (fun cdv A outer s H E hr => ?_)
  have nd : (N__law_mixed).Nodup := sc__law_mixed.nd
  unfold b__law_mixed
  exact (s_cons (s_par 2 3 rfl nd (w_bi (k_list T.b_list) (w_pc (w_pv 1) w_pn)) (w_lst w_an))
  (s_cons ((s_for tk0 po0 rfl (w_rg1 T.b_range (w_ac (w_bi (k_len T.b_len) (w_pc (w_pv 1) w_pn)).E w_an)) (w_tn 4 nd) (s_one ((s_appM 3 (m_popAt 2 (w_call tk0 F__law_draw hr (w_gc (w_gv 0) (w_gc (w_bi (k_len T.b_len) (w_pc (w_pv 2) w_pn)).E.G w_gn))).E)).kl' [1, 4]))).kl' [0, 1, 2, 4])
  (s_one (s_rv 3))))
theorem f__law_mixed (T : Txt K mg) : FnF P w K mg base 2 "_law_mixed" 2 m_law_mixed := by
  obtain ⟨f, fd, F, hm⟩ := T.d__law_mixed
  exact fnF_ok F hm (o__law_mixed T F) (FunD.bindsN F fun _ _ _ _ _ _ us hl => match us, hl with | [_, _], _ => rfl)
theorem sc__law_any : FnScope N__law_any ["feed"] (defScope (top 28)) := ⟨rfl, rfl, rfl, by decide +kernel, rfl, by decide +kernel, by decide +kernel⟩
theorem o__law_any (T : Txt K mg) {f : Addr} {fd : FuncData} (F : FnP K "_law_any" (top 28) f fd) : FnOk P w K mg base (L2.CX P w) 3 f fd ["feed"] (spD K mg 1 m_law_any) := by
  have F__law_draw : FnF P w K mg base (2) "_law_draw" 2 m_law_draw := FnF.mono (f__law_draw T) (by omega)
  have F__law_mixed : FnF P w K mg base (2) "_law_mixed" 2 m_law_mixed := FnF.mono (f__law_mixed T) (by omega)
  have F__law_one : FnF P w K mg base (2) "_law_one" 2 m_law_one := FnF.mono (f__law_one T) (by omega)
  refine fn_ok (k := 2) F sc__law_any (FunD.bindsN F fun _ _ _ _ _ _ us hl => match us, hl with | [_], _ => rfl) (fun cdv A outer s H E hr => ?_)
  have nd : (N__law_any).Nodup := sc__law_any.nd
  unfold b__law_any
  exact (s_cons (s_set 1 nd (w_call tk0 F__law_one hr (w_gc (w_gv 0) (w_gc (w_lst (w_ac w_int (w_ac w_int (w_ac w_int (w_ac w_int (w_ac w_int (w_ac (w_bin b_add w_int.P (w_call tk0 F__law_draw hr (w_gc (w_gv 0) (w_gc w_int.G w_gn))).E.P).E w_an))))))).E.G w_gn))).frzS)
  (s_cons (s_parC 2 3 rfl nd w_dT (w_call tk0 F__law_one hr (w_gc (w_gv 0) (w_gc (w_lst (w_ac w_int (w_ac w_int (w_ac w_int (w_ac (w_bin b_pow w_int.P w_int.P).E w_an))))).E.G w_gn))).frzS)
  (s_cons ((s_for tk0 po0 rfl (w_rg1 T.b_range (w_ac (w_call tk0 F__law_one hr (w_gc (w_gv 0) (w_gc (w_lst (w_ac w_int (w_ac w_int (w_ac w_int (w_ac w_int (w_ac w_int (w_ac (w_call tk0 F__law_draw hr (w_gc (w_gv 0) (w_gc w_int.G w_gn))).E w_an))))))).E.G w_gn))).E w_an)) (w_tn 4 nd) (s_cons ((s_par 5 6 rfl nd (w_call tk0 F__law_draw hr (w_gc (w_gv 0) (w_gc (w_gv 1) w_gn))).frzS (w_call tk0 F__law_draw hr (w_gc (w_gv 0) (w_gc (w_gv 1) w_gn))).frzS).kl' [4])
  (s_one ((s_if (w_cmpT (c_ne hr) (w_pv 5) (w_pv 6)) (s_one ((s_store 2 hr (w_bin b_sub (w_call tk0 F__law_draw hr (w_gc (w_gv 0) (w_gc (w_bin b_add (w_bin b_mul w_int.P (w_pv 3)).E.P w_int.P).E.G w_gn))).E.P (w_pv 3)).E (w_tup (w_ac (w_ev 5) (w_ac (w_ev 6) w_an))).E).kl' [5, 6])) s_nil).kl' [5, 6])))).kl' [3, 4])
  (s_cons (s_set 7 nd (w_lst w_an))
  (s_cons ((s_for tk0 po0 rfl (w_rg1 T.b_range (w_ac (w_ite (w_cmpT c_gt (w_pv 1) w_int.P) (w_call tk0 F__law_one hr (w_gc (w_gv 0) (w_gc (w_lst (w_ac w_int (w_ac w_int (w_ac w_int (w_ac w_int (w_ac (w_call tk0 F__law_draw hr (w_gc (w_gv 0) (w_gc w_int.G w_gn))).E w_an)))))).E.G w_gn))) w_int.R).E w_an)) (w_tn 4 nd) (s_one ((s_app 7 (w_bi (k_tuple T.b_tuple) (w_pc (w_sli (w_call tk0 F__law_mixed hr (w_gc (w_gv 0) (w_gc (w_lrg rfl T.b_list T.b_range (w_ev 1)).E.G w_gn))).E.P sndo_none (sndo_some w_int)).E.P w_pn)).E).kl' [4]))).kl' [0, 4])
  (s_one (s_re (w_tup (w_ac (w_ev 1) (w_ac (w_bi (k_tuple T.b_tuple) (w_pc (w_lc (I := [8]) (own := [("pair", 8)]) rfl nd (w_seq (w_bi (k_sorted rfl hr T.b_sorted) (w_pc (w_pv 2) w_pn)).E.P) (blkOk_by (N := N__law_any) (sc := defScope (top 28)) (by decide +kernel)) (fun _ _ _ _ _ => (w_tn 8 nd)) (fun _ _ _ _ _ => w_y) (fun _ _ _ _ _ => (w_bin b_add (w_pv 8) (w_tup (w_ac (w_idx hr (w_pv 2) (w_pv 8)).E w_an)).E.P).E)).E.P w_pn)).E (w_ac (w_bi (k_tuple T.b_tuple) (w_pc (w_pv 7) w_pn)).E w_an)))))))))))
theorem f__law_any (T : Txt K mg) : FnF P w K mg base 3 "_law_any" 1 m_law_any := by
  obtain ⟨f, fd, F, hm⟩ := T.d__law_any
  exact fnF_ok F hm (o__law_any T F) (FunD.bindsN F fun _ _ _ _ _ _ us hl => match us, hl with | [_], _ => rfl)
theorem sc__law_text : FnScope N__law_text ["plan"] (defScope (top 29)) := ⟨rfl, rfl, rfl, by decide +kernel, rfl, by decide +kernel, by decide +kernel⟩
theorem o__law_text (T : Txt K mg) {f : Addr} {fd : FuncData} (F : FnP K "_law_text" (top 29) f fd) : FnOk P w K mg base (L2.CX P w) 1 f fd ["plan"] (spD K mg 1 m_law_text) := by
  refine fn_ok (k := 0) F sc__law_text (FunD.bindsN F fun _ _ _ _ _ _ us hl => match us, hl with | [_], _ => rfl) (fun cdv A outer s H E hr => ?_)
  have nd : (N__law_text).Nodup := sc__law_text.nd
  unfold b__law_text
  exact (s_cons ((s_set 1 nd (w_bin b_add (w_bin b_add (w_lst (w_ac (w_lst (w_ac w_str (w_ac (w_idx hr (w_pv 0) w_int.P).E w_an))).E w_an)).E.P (w_lc (I := [2]) (own := [("wait", 2)]) rfl nd (w_seq (w_idx hr (w_pv 0) w_int.P).E.P) (blkOk_by (N := N__law_text) (sc := defScope (top 29)) (by decide +kernel)) (fun _ _ _ _ _ => (w_tn 2 nd)) (fun _ _ _ _ _ => w_y) (fun _ _ _ _ _ => (w_bin b_add (w_lst (w_ac w_str w_an)).E.P (w_bi (k_list T.b_list) (w_pc (w_pv 2) w_pn)).E.P).E)).E.P).E.P (w_lc (I := [3]) (own := [("work", 3)]) rfl nd (w_seq (w_idx hr (w_pv 0) w_int.P).E.P) (blkOk_by (N := N__law_text) (sc := defScope (top 29)) (by decide +kernel)) (fun _ _ _ _ _ => (w_tn 3 nd)) (fun _ _ _ _ _ => w_y) (fun _ _ _ _ _ => (w_bin b_add (w_lst (w_ac w_str w_an)).E.P (w_bi (k_list T.b_list) (w_pc (w_pv 3) w_pn)).E.P).E)).E.P).frzS).kl' [0])
  (s_one (s_re (w_join w_str.P (w_lc (I := [4]) (own := [("line", 4)]) rfl nd (w_seq (w_pv 1)) (blkOk_by (N := N__law_text) (sc := defScope (top 29)) (by decide +kernel)) (fun _ _ _ _ _ => (w_tn 4 nd)) (fun _ _ _ _ _ => w_y) (fun _ _ _ _ _ => (w_join w_str.P (w_lc (I := [5]) (own := [("part", 5)]) rfl nd (w_seq (w_pv 4)) (blkOk_by (by rfl)) (fun _ _ _ _ _ => (w_tn 5 nd)) (fun _ _ _ _ _ => w_y) (fun _ _ _ _ _ => (w_bi (k_str T.b_str) (w_pc (w_pv 5) w_pn)).E)).E.P).E)).E.P))))
theorem f__law_text (T : Txt K mg) : FnF P w K mg base 1 "_law_text" 1 m_law_text := by
  obtain ⟨f, fd, F, hm⟩ := T.d__law_text
  exact fnF_ok F hm (o__law_text T F) (FunD.bindsN F fun _ _ _ _ _ _ us hl => match us, hl with | [_], _ => rfl)
theorem sc__law_right : FnScope N__law_right ["feed"] (defScope (top 30)) := ⟨rfl, rfl, rfl, by decide +kernel, rfl, by decide +kernel, by decide +kernel⟩
theorem o__law_right (T : Txt K mg) {f : Addr} {fd : FuncData} (F : FnP K "_law_right" (top 30) f fd) : FnOk P w K mg base (L2.CX P w) 12 f fd ["feed"] (spD K mg 1 m_law_right) := by
  have F__law_any : FnF P w K mg base (11) "_law_any" 1 m_law_any := FnF.mono (f__law_any T) (by omega)
  have F__law_same : FnF P w K mg base (11) "_law_same" 2 (m_law_same 10) := FnF.mono (f__law_same T) (by omega)
  have F__law_text : FnF P w K mg base (11) "_law_text" 1 m_law_text := FnF.mono (f__law_text T) (by omega)
  have F_is_plan : FnF P w K mg base (11) "is_plan" 1 m_is_plan := FnF.mono (f_is_plan T) (by omega)
  have F_plan_text : FnF P w K mg base (11) "plan_text" 1 m_plan_text := FnF.mono (f_plan_text T) (by omega)
  have F_read_plan : FnF P w K mg base (11) "read_plan" 1 m_read_plan := FnF.mono (f_read_plan T) (by omega)
  have K_plan_text : FnK P w K mg base 11 "plan_text" 1 ["plan"] m_plan_text := FnK.mono (k_plan_text T) (by omega)
  have K_read_plan : FnK P w K mg base 11 "read_plan" 1 ["text"] m_read_plan := FnK.mono (k_read_plan T) (by omega)
  refine fn_ok (k := 11) F sc__law_right (FunD.bindsN F fun _ _ _ _ _ _ us hl => match us, hl with | [_], _ => rfl) (fun cdv A outer s H E hr => ?_)
  have nd : (N__law_right).Nodup := sc__law_right.nd
  unfold b__law_right
  exact (s_cons ((s_par 1 2 rfl nd (w_call tk0 F__law_any hr (w_gc (w_gv 0) w_gn)).frzS (w_call tk0 F__law_any hr (w_gc (w_gv 0) w_gn)).frzS).kl' [0])
  (s_cons (s_set 3 nd (w_call tk0 F__law_text hr (w_gc (w_gv 1) w_gn)).frzS)
  (s_cons (s_if (sndw_or (w_cmpT c_isn (w_call tk0 F_is_plan hr (w_gc (w_gv 1) w_gn)).E.P w_bl.P) (sndw_or1 (w_not (w_call tk0 F__law_same hr (w_gc (w_lst (w_ac (w_call tk0 F_plan_text hr (w_gc (w_gv 1) w_gn)).E (w_ac (w_callK tk0 K_plan_text hr (w_gv 1)).E w_an))).E.G (w_gc (w_lst (w_ac (w_ev 3) (w_ac (w_ev 3) w_an))).E.G w_gn))).E.P.T))).t (s_one (s_re w_bl.R)) s_nil)
  (s_cons (s_if (w_not (w_call tk0 F__law_same hr (w_gc (w_lst (w_ac (w_call tk0 F_read_plan hr (w_gc (w_gv 3) w_gn)).E (w_ac (w_callK tk0 K_read_plan hr (w_gv 3)).E w_an))).E.G (w_gc (w_lst (w_ac (w_ev 1) (w_ac (w_ev 1) w_an))).E.G w_gn))).E.P.T) (s_one (s_re w_bl.R)) s_nil)
  (s_one (s_re (w_cmp (c_eq hr) (w_cmp (c_eq hr) (w_call tk0 F_plan_text hr (w_gc (w_gv 2) w_gn)).E.P (w_pv 3)).E.P (w_cmp (c_eq hr) (w_pv 1) (w_pv 2)).E.P)))))))
theorem f__law_right (T : Txt K mg) : FnF P w K mg base 12 "_law_right" 1 m_law_right := by
  obtain ⟨f, fd, F, hm⟩ := T.d__law_right
  exact fnF_ok F hm (o__law_right T F) (FunD.bindsN F fun _ _ _ _ _ _ us hl => match us, hl with | [_], _ => rfl)
theorem sc_law : FnScope N_law ["script"] (defScope (top 31)) := ⟨rfl, rfl, rfl, by decide +kernel, rfl, by decide +kernel, by decide +kernel⟩
theorem o_law (T : Txt K mg) {f : Addr} {fd : FuncData} (F : FnP K "law" (top 31) f fd) : FnOk P w K mg base (L2.CX P w) 13 f fd ["script"] (spD K mg 1 m_law) := by
  have F__law_feed : FnF P w K mg base (12) "_law_feed" 2 m_law_feed := FnF.mono (f__law_feed T) (by omega)
  have F__law_right : FnF P w K mg base (12) "_law_right" 1 m_law_right := FnF.mono (f__law_right T) (by omega)
  have F__law_same : FnF P w K mg base (12) "_law_same" 2 (m_law_same 10) := FnF.mono (f__law_same T) (by omega)
  have F_plan_text : FnF P w K mg base (12) "plan_text" 1 m_plan_text := FnF.mono (f_plan_text T) (by omega)
  have F_read_plan : FnF P w K mg base (12) "read_plan" 1 m_read_plan := FnF.mono (f_read_plan T) (by omega)
  refine fn_ok (k := 12) F sc_law (FunD.bindsN F fun _ _ _ _ _ _ us hl => match us, hl with | [_], _ => rfl) (fun cdv A outer s H E hr => ?_)
  have nd : (N_law).Nodup := sc_law.nd
  unfold b_law
  exact (s_cons ((s_for tk0 po0 rfl (w_rg1 T.b_range (w_ac (w_bi (k_max rfl T.b_max) (w_pc w_int.P (w_pc (w_bi (k_min rfl T.b_min) (w_pc (w_bi (k_len T.b_len) (w_pc (w_pv 0) w_pn)).E.P (w_pc w_int.P w_pn))).E.P w_pn))).E w_an)) (w_tn 1 nd) (s_cons ((s_fd 2 nd (w_call tk0 F__law_feed hr (w_gc (w_gv 0) (w_gc (w_gv 1) w_gn)))).kl' [1])
  (s_one ((s_for tk0 po0 rfl (w_rg1 T.b_range (w_ac w_int w_an)) (w_tn 3 nd) (s_one ((s_if (w_not (w_call tk0 F__law_right hr (w_gc (w_gv 2) w_gn)).E.P.T) (s_one (s_re w_bl.R)) s_nil).kl' [3]))).kl' [2, 3])))).kl' [0, 1])
  (s_cons (s_set 4 nd (w_lst (w_ac (w_tup (w_ac (w_tup (w_ac w_int (w_ac (w_tup w_an).E (w_ac (w_tup w_an).E w_an)))).E (w_ac w_str w_an))).E (w_ac (w_tup (w_ac (w_tup (w_ac w_int (w_ac (w_tup (w_ac (w_tup (w_ac w_int (w_ac w_int (w_ac w_int w_an)))).E (w_ac (w_tup (w_ac w_int (w_ac w_int (w_ac (w_neg w_int) w_an)))).E w_an))).E (w_ac (w_tup (w_ac (w_tup (w_ac w_int (w_ac w_int w_an))).E (w_ac (w_tup (w_ac w_int (w_ac w_int w_an))).E w_an))).E w_an)))).E (w_ac w_str w_an))).E (w_ac (w_tup (w_ac (w_tup (w_ac w_int (w_ac (w_tup w_an).E (w_ac (w_tup (w_ac (w_tup (w_ac w_int (w_ac w_int w_an))).E w_an)).E w_an)))).E (w_ac w_str w_an))).E w_an)))).frzS)
  (s_one (s_re (w_cmp (c_eq hr) (w_lc (I := [5, 6]) (own := [("plan", 5), ("text", 6)]) rfl nd (w_seq (w_pv 4)) (blkOk_by (N := N_law) (sc := defScope (top 31)) (by decide +kernel)) (fun _ _ _ _ _ => (w_tt rfl (w_tlc (w_tn 5 nd) (w_tlc (w_tn 6 nd) w_tln)))) (fun _ _ _ _ _ => (w_y1 (w_not (w_call tkW F__law_same hr (w_gc (w_lst (w_ac (w_call tkW F_plan_text hr (w_gc (w_gv 5) w_gn)).E (w_ac (w_call tkW F_read_plan hr (w_gc (w_gv 6) w_gn)).E w_an))).E.G (w_gc (w_lst (w_ac (w_ev 6) (w_ac (w_ev 5) w_an))).E.G w_gn))).E.P.T))) (fun _ _ _ _ _ => w_int)).E.P (w_lst w_an).E.P)))))
theorem f_law (T : Txt K mg) : FnF P w K mg base 13 "law" 1 m_law := by
  obtain ⟨f, fd, F, hm⟩ := T.d_law
  exact fnF_ok F hm (o_law T F) (FunD.bindsN F fun _ _ _ _ _ _ us hl => match us, hl with | [_], _ => rfl)
end
end K73

namespace K73
open PySem PySem.Spec PyProof.Rows L2 PD
/-! draws -/
theorem log2_lt {i : Int} {k : Nat} (h : i.natAbs < 2 ^ k) (hk : 0 < k) : i.natAbs.log2 < k := by
  by_cases z : i.natAbs = 0
  · rw [z]; simpa using hk
  · exact (Nat.log2_lt z).mpr h
theorem mulOk_of {i j : Int} {k l : Nat} (h : i.natAbs < 2 ^ k) (g : j.natAbs < 2 ^ l) (hk : 0 < k) (hl : 0 < l) (hh : k + l ≤ 1000000) : mulOk i j = true := by
  have := log2_lt h hk
  have := log2_lt g hl
  simp [mulOk]; omega
theorem divOk_of {j : Int} {l : Nat} (h0 : 0 < j) (g : j.natAbs < 2 ^ l) (hl : 0 < l) (hh : l ≤ 9000) : divOk j = true := by
  have := log2_lt g hl
  simp [divOk, h0]; omega
def stir (b c : Int) : Int :=
  let s := b + 75076463 * (c + 1)
  let t := (s * s * s + 64998887 * (c + 1) + 7) % 100000000000000000000000000000000000000081
  let u := (t * t + 882475957) % 100000000000000000000000000000000000133
  u / 1000000000
theorem draw_a (p : Bool) (a b c many : Int) (h : 0 < many) (hm : divOk many = true) (ha : 0 < a) : m_law_draw [.fd, .val (.int many)] (some (p, [.int a, .int b, .int c])) = .ok (.val (.int (a % many))) (some (p, [.int (a / many), .int b, .int c])) := by
  simp [m_law_draw, b__law_draw, fnM, outFd, O.sq, O.kl, kill, sqO, klO, pkO, nilO, ifO, reO, rvO, rnO, exO, raO, setO, parO, tgO, forO, stO, putO, appO, extO, appM, popM, R.st, R.bind, R.opt, R.frz, PD.frz, frzS, pvS, evS, gvS, cS, pkS, rsS, fzE, opS, cmS, blS, biS, nlS, cnS, trS, ntS, nvS, neS, itS, tuS, liS, ixS, slS, isS, lrS, caS, ckS, dnS, yesS, tnS, tlN, tlC, ttS, andE, orE, andT, orT, chnE, chnK, lookP, lookPs, callE, strM, getE, partE, bo, blO, setFd, unfd, addD, subD, mulD, fdivD, modD, powD, leD, gtD, geD, cmpI, neD, isnD, ninD, truthD, gInt, gLen, gStr, PD.gTup, gList, gMax, gMin, isi1, isi2, isiD, isiS, tyN, noScr, idxD, atI, ixN, List.getElem?_cons_zero, List.getElem?_cons_succ, List.set_cons_zero, List.set_cons_succ, List.cons_append, List.nil_append, List.length_cons, List.length_nil, List.replicate_succ, List.replicate_zero, Option.map_some, Option.map_none, Option.bind_some, Option.bind_none, Bool.false_eq_true, if_true, if_false, true_and, and_true, and_false, false_and, Option.isSome_some, Option.isSome_none, List.any_cons, List.any_nil, Bool.or_true, Bool.or_false, Bool.true_or, Bool.false_or, Bool.not_true, Bool.not_false, Bool.and_true, Bool.true_and, Bool.and_false, Bool.false_and, decide_true, decide_false, eq_self, reduceIte, reduceCtorEq, ha, h, hm]
theorem draw_b (p : Bool) (b c many : Int) (h : 0 < many) (hb : 0 ≤ b) (hb2 : b < 2 ^ 140) (hc : 0 ≤ c) (hc2 : c < 2 ^ 62) : m_law_draw [.fd, .val (.int many)] (some (p, [.int 0, .int b, .int c])) = .ok (.val (.int (stir b c % many))) (some (p, [.int 0, .int b, .int (c + 1)])) := by
  have e140 : (2 : Int) ^ 140 = 1393796574908163946345982392040522594123776 := by decide
  have e62 : (2 : Int) ^ 62 = 4611686018427387904 := by decide
  rw [e140] at hb2; rw [e62] at hc2
  generalize hs : b + 75076463 * (c + 1) = s
  have s0 : s.natAbs < 2 ^ 141 := by
    have : (2 : Nat) ^ 141 = 2787593149816327892691964784081045188247552 := by decide
    omega
  have m1 : mulOk s s = true := mulOk_of s0 s0 (by decide) (by decide) (by decide)
  have m2 : mulOk (s * s) s = true := by
    refine mulOk_of (k := 282) ?_ s0 (by decide) (by decide) (by decide)
    rw [Int.natAbs_mul, show (2 : Nat) ^ 282 = 2 ^ 141 * 2 ^ 141 by rw [← Nat.pow_add]]
    exact Nat.mul_lt_mul'' s0 s0
  generalize ht : (s * s * s + 64998887 * (c + 1) + 7) % 100000000000000000000000000000000000000081 = t
  have t0 : t.natAbs < 2 ^ 140 := by
    have : (2 : Nat) ^ 140 = 1393796574908163946345982392040522594123776 := by decide
    omega
  have m3 : mulOk t t = true := mulOk_of t0 t0 (by decide) (by decide) (by decide)
  have d1 : divOk 1000000000 = true := by decide
  have st : stir b c = (t * t + 882475957) % 100000000000000000000000000000000000133 / 1000000000 := by
    unfold stir; simp only [hs, ht]
  rw [st]
  simp [m_law_draw, b__law_draw, fnM, outFd, O.sq, O.kl, kill, sqO, klO, pkO, nilO, ifO, reO, rvO, rnO, exO, raO, setO, parO, tgO, forO, stO, putO, appO, extO, appM, popM, R.st, R.bind, R.opt, R.frz, PD.frz, frzS, pvS, evS, gvS, cS, pkS, rsS, fzE, opS, cmS, blS, biS, nlS, cnS, trS, ntS, nvS, neS, itS, tuS, liS, ixS, slS, isS, lrS, caS, ckS, dnS, yesS, tnS, tlN, tlC, ttS, andE, orE, andT, orT, chnE, chnK, lookP, lookPs, callE, strM, getE, partE, bo, blO, setFd, unfd, addD, subD, mulD, fdivD, modD, powD, leD, gtD, geD, cmpI, neD, isnD, ninD, truthD, gInt, gLen, gStr, PD.gTup, gList, gMax, gMin, isi1, isi2, isiD, isiS, tyN, noScr, idxD, atI, ixN, List.getElem?_cons_zero, List.getElem?_cons_succ, List.set_cons_zero, List.set_cons_succ, List.cons_append, List.nil_append, List.length_cons, List.length_nil, List.replicate_succ, List.replicate_zero, Option.map_some, Option.map_none, Option.bind_some, Option.bind_none, Bool.false_eq_true, if_true, if_false, true_and, and_true, and_false, false_and, Option.isSome_some, Option.isSome_none, List.any_cons, List.any_nil, Bool.or_true, Bool.or_false, Bool.true_or, Bool.false_or, Bool.not_true, Bool.not_false, Bool.and_true, Bool.true_and, Bool.and_false, Bool.false_and, decide_true, decide_false, eq_self, reduceIte, reduceCtorEq, h, powOk, hs, m1, m2, ht, m3, d1]
def FeedOk (B : Nat) (xs : List D) : Prop := ∃ a b c : Int, xs = [.int a, .int b, .int c] ∧ 0 ≤ a ∧ 0 ≤ b ∧ b < 2 ^ 140 ∧ 0 ≤ c ∧ c ≤ B
theorem FeedOk.mono {B B' : Nat} {xs : List D} (h : FeedOk B xs) (hb : B ≤ B') : FeedOk B' xs := by
  obtain ⟨a, b, c, e, h1, h2, h3, h4, h5⟩ := h
  exact ⟨a, b, c, e, h1, h2, h3, h4, by omega⟩
theorem draw_ok {B : Nat} {xs : List D} (p : Bool) {many : Int} (F : FeedOk B xs) (hB : B < 2 ^ 60) (h : 0 < many) (hm : many < 2 ^ 64) :
    ∃ g ys, m_law_draw [.fd, .val (.int many)] (some (p, xs)) = .ok (.val (.int g)) (some (p, ys)) ∧ FeedOk (B + 1) ys ∧ 0 ≤ g ∧ g < many := by
  obtain ⟨a, b, c, rfl, h1, h2, h3, h4, h5⟩ := F
  have e64 : (2 : Int) ^ 64 = 18446744073709551616 := by decide
  rw [e64] at hm
  have hd : divOk many = true := divOk_of (l := 64) h (by have : (2 : Nat) ^ 64 = 18446744073709551616 := by decide
                                                          omega) (by decide) (by decide)
  by_cases z : 0 < a
  · refine ⟨_, _, draw_a p a b c many h hd z, ⟨_, _, _, rfl, ?_, h2, h3, h4, by omega⟩, Int.emod_nonneg _ (by omega), Int.emod_lt_of_pos _ h⟩
    exact Int.ediv_nonneg (by omega) (by omega)
  · have : a = 0 := by omega
    subst this
    have e60 : (2 : Nat) ^ 60 = 1152921504606846976 := by decide
    have e62 : (2 : Int) ^ 62 = 4611686018427387904 := by decide
    refine ⟨_, _, draw_b p b c many h h2 h3 h4 (by omega), ⟨0, b, c + 1, rfl, by omega, h2, h3, by omega, by omega⟩, Int.emod_nonneg _ (by omega), Int.emod_lt_of_pos _ h⟩
theorem one_ok {B : Nat} {xs ds : List D} (p : Bool) (F : FeedOk B xs) (hB : B < 2 ^ 60) (h : ds ≠ []) (hl : ds.length < 2 ^ 62) :
    ∃ d ys, m_law_one [.fd, .val (.list ds)] (some (p, xs)) = .ok (.val d) (some (p, ys)) ∧ FeedOk (B + 1) ys ∧ d ∈ ds := by
  have hp : 0 < ds.length := List.length_pos_iff.mpr h
  have e62 : (2 : Nat) ^ 62 = 4611686018427387904 := by decide
  have e64 : (2 : Int) ^ 64 = 18446744073709551616 := by decide
  obtain ⟨g, ys, e, F', g0, g1⟩ := draw_ok true (many := (ds.length : Int)) F hB (by omega) (by omega)
  have hg : g.toNat < ds.length := by omega
  refine ⟨ds[g.toNat], ys, ?_, F', List.getElem_mem hg⟩
  have eg : ds[g.toNat]? = some ds[g.toNat] := List.getElem?_eq_getElem hg
  simp [m_law_one, b__law_one, fnM, outFd, O.sq, O.kl, kill, sqO, klO, pkO, nilO, ifO, reO, rvO, rnO, exO, raO, setO, parO, tgO, forO, stO, putO, appO, extO, appM, popM, R.st, R.bind, R.opt, R.frz, PD.frz, frzS, pvS, evS, gvS, cS, pkS, rsS, fzE, opS, cmS, blS, biS, nlS, cnS, trS, ntS, nvS, neS, itS, tuS, liS, ixS, slS, isS, lrS, caS, ckS, dnS, yesS, tnS, tlN, tlC, ttS, andE, orE, andT, orT, chnE, chnK, lookP, lookPs, callE, strM, getE, partE, bo, blO, setFd, unfd, addD, subD, mulD, fdivD, modD, powD, leD, gtD, geD, cmpI, neD, isnD, ninD, truthD, gInt, gLen, gStr, PD.gTup, gList, gMax, gMin, isi1, isi2, isiD, isiS, tyN, noScr, idxD, atI, ixN, List.getElem?_cons_zero, List.getElem?_cons_succ, List.set_cons_zero, List.set_cons_succ, List.cons_append, List.nil_append, List.length_cons, List.length_nil, List.replicate_succ, List.replicate_zero, Option.map_some, Option.map_none, Option.bind_some, Option.bind_none, Bool.false_eq_true, if_true, if_false, true_and, and_true, and_false, false_and, Option.isSome_some, Option.isSome_none, List.any_cons, List.any_nil, Bool.or_true, Bool.or_false, Bool.true_or, Bool.false_or, Bool.not_true, Bool.not_false, Bool.and_true, Bool.true_and, Bool.and_false, Bool.false_and, decide_true, decide_false, eq_self, reduceIte, reduceCtorEq, lenD, e, g0, g1, eg]
theorem sizeLine_big : 16777216 ≤ sizeLine := by rw [sizeLine_eq]; omega
theorem perm_pop {α : Type} {left : List α} {j : Nat} (h : j < left.length) (found : List α) : (found ++ [left[j]] ++ left.eraseIdx j).Perm (found ++ left) := by
  rw [List.append_assoc]
  refine List.Perm.append_left _ ?_
  show (left[j] :: left.eraseIdx j).Perm left
  induction left generalizing j with
  | nil => simp at h
  | cons x l ih =>
    cases j with
    | zero => exact .refl _
    | succ j =>
      have h' : j < l.length := by simpa using h
      show (l[j] :: x :: l.eraseIdx j).Perm (x :: l)
      exact (List.Perm.swap _ _ _).trans ((ih h').cons x)
/-- a loop that ends -/
theorem forGo_inv {ft : D → List Sl → Option (List Sl)} {fb : Fs} (Q : List D → List Sl → Fd → Prop)
    (step : ∀ d ds sl fd, Q (d :: ds) sl fd → ∃ sl1, ft d sl = some sl1 ∧ ∃ sl2 fd2, fb sl1 fd = .nx sl2 fd2 ∧ Q ds sl2 fd2) :
    ∀ items sl fd, Q items sl fd → ∃ sl' fd', forGo ft fb items sl fd = .nx sl' fd' ∧ Q [] sl' fd'
  | [], sl, fd, h => ⟨sl, fd, rfl, h⟩
  | d :: ds, sl, fd, h => by
    obtain ⟨sl1, e1, sl2, fd2, e2, h2⟩ := step d ds sl fd h
    obtain ⟨sl', fd', e3, h3⟩ := forGo_inv Q step ds sl2 fd2 h2
    refine ⟨sl', fd', ?_, h3⟩
    unfold forGo
    simp only [e1, e2]
    exact e3
theorem rangeD_len (n : Nat) : (rangeD 0 (n : Int)).length = n := by unfold rangeD; simp
abbrev mixBody : Fs := klO [1, 4] (appM 3 (popM 2 (fzE (caS 2 m_law_draw (cnS (gvS 0) (cnS (rsS (fzE (biS gLen (cnS (pvS 2) nlS)))) nlS))))))
theorem mix_turn {B : Nat} {xs left found : List D} (p : Bool) (s1 : Sl) (d : D) (F : FeedOk B xs) (hB : B < 2 ^ 60) (h : 0 < left.length) (hl : left.length < 2 ^ 60) (hf : found.length < 1000000) :
    ∃ ys j, ∃ hj : j < left.length, mixBody [.fd, s1, .lst left, .lst found, .val d] (some (p, xs)) = .nx [.fd, .no, .lst (left.eraseIdx j), .lst (found ++ [left[j]]), .no] (some (p, ys)) ∧ FeedOk (B + 1) ys := by
  have e60 : (2 : Nat) ^ 60 = 1152921504606846976 := by decide
  have e64 : (2 : Int) ^ 64 = 18446744073709551616 := by decide
  have e63 : (2 : Int) ^ 63 = 9223372036854775808 := by decide
  obtain ⟨g, ys, e, F', g0, g1⟩ := draw_ok true (many := (left.length : Int)) F hB (by omega) (by omega)
  have hg : g.toNat < left.length := by omega
  have eg : left[g.toNat]? = some left[g.toNat] := List.getElem?_eq_getElem hg
  have b1 : -9223372036854775808 ≤ g ∧ g < 9223372036854775808 := by omega
  have hs : found.length < sizeLine := Nat.lt_of_lt_of_le (by omega) sizeLine_big
  have ea : atPop left g = some (left[g.toNat], left.eraseIdx g.toNat) := by
    unfold atPop
    rw [e63, if_pos b1]
    simp [ixN, g0, g1, eg]
  refine ⟨ys, g.toNat, hg, ?_, F'⟩
  simp [fnM, outFd, O.sq, O.kl, kill, sqO, klO, pkO, nilO, ifO, reO, rvO, rnO, exO, raO, setO, parO, tgO, forO, stO, putO, appO, extO, appM, popM, R.st, R.bind, R.opt, R.frz, PD.frz, frzS, pvS, evS, gvS, cS, pkS, rsS, fzE, opS, cmS, blS, biS, nlS, cnS, trS, ntS, nvS, neS, itS, tuS, liS, ixS, slS, isS, lrS, caS, ckS, dnS, yesS, tnS, tlN, tlC, ttS, andE, orE, andT, orT, chnE, chnK, lookP, lookPs, callE, strM, getE, partE, bo, blO, setFd, unfd, addD, subD, mulD, fdivD, modD, powD, leD, gtD, geD, cmpI, neD, isnD, ninD, truthD, gInt, gLen, gStr, PD.gTup, gList, gMax, gMin, isi1, isi2, isiD, isiS, tyN, noScr, idxD, atI, ixN, List.getElem?_cons_zero, List.getElem?_cons_succ, List.set_cons_zero, List.set_cons_succ, List.cons_append, List.nil_append, List.length_cons, List.length_nil, List.replicate_succ, List.replicate_zero, Option.map_some, Option.map_none, Option.bind_some, Option.bind_none, Bool.false_eq_true, if_true, if_false, true_and, and_true, and_false, false_and, Option.isSome_some, Option.isSome_none, List.any_cons, List.any_nil, Bool.or_true, Bool.or_false, Bool.true_or, Bool.false_or, Bool.not_true, Bool.not_false, Bool.and_true, Bool.true_and, Bool.and_false, Bool.false_and, decide_true, decide_false, eq_self, reduceIte, reduceCtorEq, lenD, e, ea, hs]
theorem mixed_loop {B : Nat} {xs things : List D} (p : Bool) (F : FeedOk B xs) (hB : B + things.length < 500000000000000000) (hl : things.length ≤ 1000) :
    ∃ out ys s1 s4, forGo (tnS 4) mixBody (rangeD 0 (things.length : Int)) [.fd, .val (.list things), .lst things, .lst [], .no] (some (p, xs)) = .nx [.fd, s1, .lst [], .lst out, s4] (some (p, ys)) ∧ FeedOk (B + things.length) ys ∧ out.Perm things := by
  have loop := forGo_inv (ft := tnS 4) (fb := mixBody) (fun items sl fd => ∃ s1 s4 left found ys, sl = [.fd, s1, .lst left, .lst found, s4] ∧ fd = some (p, ys) ∧ left.length = items.length ∧ FeedOk (B + (things.length - items.length)) ys ∧ items.length ≤ things.length ∧ (found ++ left).Perm things)
    (fun d ds sl fd ⟨s1, s4, left, found, ys, e1, e2, hlen, F1, hi, pm⟩ => by
      subst e1; subst e2
      have hlen : left.length = ds.length + 1 := hlen
      have hi : ds.length + 1 ≤ things.length := hi
      have F1 : FeedOk (B + (things.length - (ds.length + 1))) ys := F1
      have pl : found.length + left.length = things.length := by have := pm.length_eq; rw [List.length_append] at this; exact this
      have q1 : B + (things.length - (ds.length + 1)) < 500000000000000000 := by omega
      have q2 : left.length < 500000000000000000 := by omega
      have q3 : found.length < 1000000 := by omega
      obtain ⟨zs, j, hj, e3, F2⟩ := mix_turn p s1 d F1 (Nat.lt_trans q1 (by decide)) (by omega) (Nat.lt_trans q2 (by decide)) q3
      refine ⟨_, rfl, _, _, e3, .no, .no, left.eraseIdx j, found ++ [left[j]'hj], zs, rfl, rfl, ?_, F2.mono (by omega), by omega, (perm_pop hj found).trans pm⟩
      rw [List.length_eraseIdx, if_pos hj]; omega)
    (rangeD 0 (things.length : Int)) [.fd, .val (.list things), .lst things, .lst [], .no] (some (p, xs))
    ⟨_, _, things, [], xs, rfl, rfl, (rangeD_len _).symm, by rw [rangeD_len]; simpa using F, by rw [rangeD_len]; exact Nat.le_refl _, .refl _⟩
  obtain ⟨sl', fd', e, s1, s4, left, found, ys, rfl, rfl, hlen, F1, _, pm⟩ := loop
  have : left = [] := List.length_eq_zero_iff.mp hlen
  subst this
  exact ⟨found, ys, s1, s4, e, by simpa using F1, by simpa using pm⟩
theorem sm_len {n : Nat} (h : n ≤ 1000000) : smallI (n : Int) = true := by simp [smallI]; omega
theorem liS_nil : liS nlS = fun _ fd => .ok (.lst []) fd := by
  funext sl fd
  exact if_pos (e := R.bad) (Nat.zero_le sizeLine)
theorem mix_key {p : Bool} {things xs ys out : List D} {s1 s4 : Sl} (sm : smallI (things.length : Int) = true) (mb : Fs) (tt : D → List Sl → Option (List Sl)) (e : forGo tt mb (rangeD 0 (things.length : Int)) [.fd, .val (.list things), .lst things, .lst [], .no] (some (p, xs)) = .nx [.fd, s1, .lst [], .lst out, s4] (some (p, ys))) :
      fnM false 5 (sqO (parO 2 3 (biS gList (cnS (pvS 1) nlS)) (liS nlS)) (sqO (klO [0, 1, 2, 4] (forO (rng1E (cnS (fzE (biS gLen (cnS (pvS 1) nlS))) nlS)) tt mb)) (rvO 3))) [.fd, .val (.list things)] (some (p, xs)) = .ok (.lst out) (some (p, ys)) := by
  simp [liS_nil, fnM, outFd, O.sq, O.kl, kill, sqO, klO, pkO, nilO, ifO, reO, rvO, rnO, exO, raO, setO, parO, tgO, forO, stO, putO, appO, extO, appM, popM, R.st, R.bind, R.opt, R.frz, PD.frz, frzS, pvS, evS, gvS, cS, pkS, rsS, fzE, opS, cmS, blS, biS, nlS, cnS, trS, ntS, nvS, neS, itS, tuS, liS, ixS, slS, isS, lrS, caS, ckS, dnS, yesS, tnS, tlN, tlC, ttS, andE, orE, andT, orT, chnE, chnK, lookP, lookPs, callE, strM, getE, partE, bo, blO, setFd, unfd, addD, subD, mulD, fdivD, modD, powD, leD, gtD, geD, cmpI, neD, isnD, ninD, truthD, gInt, gLen, gStr, PD.gTup, gList, gMax, gMin, isi1, isi2, isiD, isiS, tyN, noScr, idxD, atI, ixN, List.getElem?_cons_zero, List.getElem?_cons_succ, List.set_cons_zero, List.set_cons_succ, List.cons_append, List.nil_append, List.length_cons, List.length_nil, List.replicate_succ, List.replicate_zero, Option.map_some, Option.map_none, Option.bind_some, Option.bind_none, Bool.false_eq_true, if_true, if_false, true_and, and_true, and_false, false_and, Option.isSome_some, Option.isSome_none, List.any_cons, List.any_nil, Bool.or_true, Bool.or_false, Bool.true_or, Bool.false_or, Bool.not_true, Bool.not_false, Bool.and_true, Bool.true_and, Bool.and_false, Bool.false_and, decide_true, decide_false, eq_self, reduceIte, reduceCtorEq, lenD, rng1E, sm, e]
theorem mixed_ok {B : Nat} {xs things : List D} (p : Bool) (F : FeedOk B xs) (hB : B + things.length < 500000000000000000) (hl : things.length ≤ 1000) :
    ∃ out ys, m_law_mixed [.fd, .val (.list things)] (some (p, xs)) = .ok (.lst out) (some (p, ys)) ∧ FeedOk (B + things.length) ys ∧ out.Perm things := by
  obtain ⟨out, ys, s1, s4, e', F', pm⟩ := mixed_loop p F hB hl
  exact ⟨out, ys, mix_key (sm_len (by omega)) mixBody (tnS 4) e', F', pm⟩
end K73

namespace K73
open PySem PySem.Spec PyProof.Rows L2 PD
/-! comprehensions -/
theorem lcGo_map {ft : D → List Sl → Option (List Sl)} {fT : Fe Bool} {fE : Fe D} {sl : List Sl} {fd : Fd} (q : D → Bool) (g : D → D) :
    ∀ items : List D, (∀ d ∈ items, ∃ sl1, ft d sl = some sl1 ∧ fT sl1 fd = .ok (q d) fd ∧ (q d = true → fE sl1 fd = .ok (g d) fd)) → lcGo ft fT fE sl items fd = .ok ((items.filter q).map g) fd
  | [], _ => rfl
  | d :: ds, h => by
    obtain ⟨sl1, e1, e2, e3⟩ := h d (by simp)
    have ih := lcGo_map q g ds fun x hx => h x (by simp [hx])
    unfold lcGo
    simp only [e1, e2]
    cases hq : q d with
    | false => simp [ih, hq]
    | true => simp [e3 hq, ih, hq, R.bind]
theorem lcE_ok {own : List Nat} {fi : Fe (Bool × List D)} {ft : D → List Sl → Option (List Sl)} {fT : Fe Bool} {fE : Fe D} {sl : List Sl} {fd fd1 fd2 : Fd} {fz : Bool} {items ds : List D} (h1 : fi sl fd = .ok (fz, items) fd1) (hl : items.length ≤ 16777216)
    (h2 : lcGo ft fT fE (wipeS sl own) items fd1 = .ok ds fd2) : lcE own fi ft fT fE sl fd = .ok (.lst ds) fd2 := by
  have hz : items.length ≤ sizeLine := Nat.le_trans hl sizeLine_big
  unfold lcE
  rw [h1]
  simp [R.bind, hz, h2]
theorem zip_self : ∀ ds : List D, zipT ds ds = ds.map fun d => .tuple [d, d]
  | [] => rfl
  | d :: ds => by
    have := zip_self ds
    unfold zipT at this ⊢
    simp [this]
theorem eqD_int (i j : Int) : eqD (.int i) (.int j) = some (decide (i = j)) := by simp [eqD, scalD, PyData.eqv]; rfl
theorem eqD_str (i j : Str) : eqD (.str i) (.str j) = some (decide (i = j)) := by simp [eqD, scalD, PyData.eqv]; rfl
theorem eqD_nil : eqD (.list []) (.list []) = some true := by decide +kernel
theorem neD_b (i j : Bool) : neD (.bool i) (.bool j) = some (!(i == j)) := by cases i <;> cases j <;> decide +kernel
theorem neD_i (i j : Int) : neD (.int i) (.int j) = some (!decide (i = j)) := by unfold neD; rw [eqD_int]; rfl
/-! told and due the same -/
def okD : Nat → D → Bool
  | 0, _ => false
  | k + 1, d => match d with
    | .int _ => true
    | .str _ => true
    | .list ds => ds.all (okD k) && decide (ds.length ≤ 16777216)
    | .tuple ds => ds.all (okD k) && decide (ds.length ≤ 16777216)
    | _ => false
theorem same_ok : ∀ (k : Nat) (d : D), okD k d = true → m_law_same k [.val d, .val d] none = .ok (.val (.bool true)) none
  | 0, _, h => by cases h
  | k + 1, d, h => by
    have nil0 := liS_nil
    cases d with
    | int i => simp [m_law_same, b__law_same, nil0, fnM, outFd, O.sq, O.kl, kill, sqO, klO, pkO, nilO, ifO, reO, rvO, rnO, exO, raO, setO, parO, tgO, forO, stO, putO, appO, extO, appM, popM, R.st, R.bind, R.opt, R.frz, PD.frz, frzS, pvS, evS, gvS, cS, pkS, rsS, fzE, opS, cmS, blS, biS, nlS, cnS, trS, ntS, nvS, neS, itS, tuS, liS, ixS, slS, isS, lrS, caS, ckS, dnS, yesS, tnS, tlN, tlC, ttS, andE, orE, andT, orT, chnE, chnK, lookP, lookPs, callE, strM, getE, partE, bo, blO, setFd, unfd, addD, subD, mulD, fdivD, modD, powD, leD, gtD, geD, cmpI, isnD, ninD, truthD, gInt, gLen, gStr, PD.gTup, gList, gMax, gMin, isi1, isi2, isiD, isiS, tyN, noScr, idxD, atI, ixN, List.getElem?_cons_zero, List.getElem?_cons_succ, List.set_cons_zero, List.set_cons_succ, List.cons_append, List.nil_append, List.length_cons, List.length_nil, List.replicate_succ, List.replicate_zero, Option.map_some, Option.map_none, Option.bind_some, Option.bind_none, Bool.false_eq_true, if_true, if_false, true_and, and_true, and_false, false_and, Option.isSome_some, Option.isSome_none, List.any_cons, List.any_nil, Bool.or_true, Bool.or_false, Bool.true_or, Bool.false_or, Bool.not_true, Bool.not_false, Bool.and_true, Bool.true_and, Bool.and_false, Bool.false_and, decide_true, decide_false, eq_self, reduceIte, reduceCtorEq, isD, eqD_int, eqD_str]
    | str i => simp [m_law_same, b__law_same, nil0, fnM, outFd, O.sq, O.kl, kill, sqO, klO, pkO, nilO, ifO, reO, rvO, rnO, exO, raO, setO, parO, tgO, forO, stO, putO, appO, extO, appM, popM, R.st, R.bind, R.opt, R.frz, PD.frz, frzS, pvS, evS, gvS, cS, pkS, rsS, fzE, opS, cmS, blS, biS, nlS, cnS, trS, ntS, nvS, neS, itS, tuS, liS, ixS, slS, isS, lrS, caS, ckS, dnS, yesS, tnS, tlN, tlC, ttS, andE, orE, andT, orT, chnE, chnK, lookP, lookPs, callE, strM, getE, partE, bo, blO, setFd, unfd, addD, subD, mulD, fdivD, modD, powD, leD, gtD, geD, cmpI, isnD, ninD, truthD, gInt, gLen, gStr, PD.gTup, gList, gMax, gMin, isi1, isi2, isiD, isiS, tyN, noScr, idxD, atI, ixN, List.getElem?_cons_zero, List.getElem?_cons_succ, List.set_cons_zero, List.set_cons_succ, List.cons_append, List.nil_append, List.length_cons, List.length_nil, List.replicate_succ, List.replicate_zero, Option.map_some, Option.map_none, Option.bind_some, Option.bind_none, Bool.false_eq_true, if_true, if_false, true_and, and_true, and_false, false_and, Option.isSome_some, Option.isSome_none, List.any_cons, List.any_nil, Bool.or_true, Bool.or_false, Bool.true_or, Bool.false_or, Bool.not_true, Bool.not_false, Bool.and_true, Bool.true_and, Bool.and_false, Bool.false_and, decide_true, decide_false, eq_self, reduceIte, reduceCtorEq, isD, eqD_int, eqD_str]
    | list ds =>
      simp only [okD, Bool.and_eq_true, List.all_eq_true, decide_eq_true_eq] at h
      have go := lcGo_map (ft := ttS 2 (tlC (tnS 2) (tlC (tnS 3) tlN))) (fT := ntS (trS (pkS (fzE (caS 2 (m_law_same k) (cnS (gvS 2) (cnS (gvS 3) nlS))))))) (fE := cS (.int 1)) (sl := [.val (.list ds), .val (.list ds), .no, .no]) (fd := none) (fun _ => false) id (zipT ds ds) (fun x hx => by
        rw [zip_self] at hx
        obtain ⟨d, hd, rfl⟩ := List.mem_map.mp hx
        have := same_ok k d (h.1 d hd)
        refine ⟨_, rfl, ?_, fun z => by cases z⟩
        simp [fnM, outFd, O.sq, O.kl, kill, sqO, klO, pkO, nilO, ifO, reO, rvO, rnO, exO, raO, setO, parO, tgO, forO, stO, putO, appO, extO, appM, popM, R.st, R.bind, R.opt, R.frz, PD.frz, frzS, pvS, evS, gvS, cS, pkS, rsS, fzE, opS, cmS, blS, biS, nlS, cnS, trS, ntS, nvS, neS, itS, tuS, liS, ixS, slS, isS, lrS, caS, ckS, dnS, yesS, tnS, tlN, tlC, ttS, andE, orE, andT, orT, chnE, chnK, lookP, lookPs, callE, strM, getE, partE, bo, blO, setFd, unfd, addD, subD, mulD, fdivD, modD, powD, leD, gtD, geD, cmpI, neD, isnD, ninD, truthD, gInt, gLen, gStr, PD.gTup, gList, gMax, gMin, isi1, isi2, isiD, isiS, tyN, noScr, idxD, atI, ixN, List.getElem?_cons_zero, List.getElem?_cons_succ, List.set_cons_zero, List.set_cons_succ, List.cons_append, List.nil_append, List.length_cons, List.length_nil, List.replicate_succ, List.replicate_zero, Option.map_some, Option.map_none, Option.bind_some, Option.bind_none, Bool.false_eq_true, if_true, if_false, true_and, and_true, and_false, false_and, Option.isSome_some, Option.isSome_none, List.any_cons, List.any_nil, Bool.or_true, Bool.or_false, Bool.true_or, Bool.false_or, Bool.not_true, Bool.not_false, Bool.and_true, Bool.true_and, Bool.and_false, Bool.false_and, decide_true, decide_false, eq_self, reduceIte, reduceCtorEq, this])
      have lc := lcE_ok (own := [2, 3]) (fi := zipE (cnS (pvS 0) (cnS (pvS 1) nlS))) (sl := [.val (.list ds), .val (.list ds), .no, .no]) (fd := none) (fz := true) (items := zipT ds ds) rfl (by rw [zip_self, List.length_map]; exact h.2) (by rw [show (zipT ds ds).filter (fun _ => false) = [] by simp] at go; exact go)
      simp [m_law_same, b__law_same, nil0, fnM, outFd, O.sq, O.kl, kill, sqO, klO, pkO, nilO, ifO, reO, rvO, rnO, exO, raO, setO, parO, tgO, forO, stO, putO, appO, extO, appM, popM, R.st, R.bind, R.opt, R.frz, PD.frz, frzS, pvS, evS, gvS, cS, pkS, rsS, fzE, opS, cmS, blS, biS, nlS, cnS, trS, ntS, nvS, neS, itS, tuS, liS, ixS, slS, isS, lrS, caS, ckS, dnS, yesS, tnS, tlN, tlC, ttS, andE, orE, andT, orT, chnE, chnK, lookP, lookPs, callE, strM, getE, partE, bo, blO, setFd, unfd, addD, subD, mulD, fdivD, modD, powD, leD, gtD, geD, cmpI, isnD, ninD, truthD, gInt, gLen, gStr, PD.gTup, gList, gMax, gMin, isi1, isi2, isiD, isiS, tyN, noScr, idxD, atI, ixN, List.getElem?_cons_zero, List.getElem?_cons_succ, List.set_cons_zero, List.set_cons_succ, List.cons_append, List.nil_append, List.length_cons, List.length_nil, List.replicate_succ, List.replicate_zero, Option.map_some, Option.map_none, Option.bind_some, Option.bind_none, Bool.false_eq_true, if_true, if_false, true_and, and_true, and_false, false_and, Option.isSome_some, Option.isSome_none, List.any_cons, List.any_nil, Bool.or_true, Bool.or_false, Bool.true_or, Bool.false_or, Bool.not_true, Bool.not_false, Bool.and_true, Bool.true_and, Bool.and_false, Bool.false_and, decide_true, decide_false, eq_self, reduceIte, reduceCtorEq, isD, eqD_nil, neD_b, neD_i, lenD, lc]
    | tuple ds =>
      simp only [okD, Bool.and_eq_true, List.all_eq_true, decide_eq_true_eq] at h
      have go := lcGo_map (ft := ttS 2 (tlC (tnS 2) (tlC (tnS 3) tlN))) (fT := ntS (trS (pkS (fzE (caS 2 (m_law_same k) (cnS (gvS 2) (cnS (gvS 3) nlS))))))) (fE := cS (.int 1)) (sl := [.val (.tuple ds), .val (.tuple ds), .no, .no]) (fd := none) (fun _ => false) id (zipT ds ds) (fun x hx => by
        rw [zip_self] at hx
        obtain ⟨d, hd, rfl⟩ := List.mem_map.mp hx
        have := same_ok k d (h.1 d hd)
        refine ⟨_, rfl, ?_, fun z => by cases z⟩
        simp [fnM, outFd, O.sq, O.kl, kill, sqO, klO, pkO, nilO, ifO, reO, rvO, rnO, exO, raO, setO, parO, tgO, forO, stO, putO, appO, extO, appM, popM, R.st, R.bind, R.opt, R.frz, PD.frz, frzS, pvS, evS, gvS, cS, pkS, rsS, fzE, opS, cmS, blS, biS, nlS, cnS, trS, ntS, nvS, neS, itS, tuS, liS, ixS, slS, isS, lrS, caS, ckS, dnS, yesS, tnS, tlN, tlC, ttS, andE, orE, andT, orT, chnE, chnK, lookP, lookPs, callE, strM, getE, partE, bo, blO, setFd, unfd, addD, subD, mulD, fdivD, modD, powD, leD, gtD, geD, cmpI, neD, isnD, ninD, truthD, gInt, gLen, gStr, PD.gTup, gList, gMax, gMin, isi1, isi2, isiD, isiS, tyN, noScr, idxD, atI, ixN, List.getElem?_cons_zero, List.getElem?_cons_succ, List.set_cons_zero, List.set_cons_succ, List.cons_append, List.nil_append, List.length_cons, List.length_nil, List.replicate_succ, List.replicate_zero, Option.map_some, Option.map_none, Option.bind_some, Option.bind_none, Bool.false_eq_true, if_true, if_false, true_and, and_true, and_false, false_and, Option.isSome_some, Option.isSome_none, List.any_cons, List.any_nil, Bool.or_true, Bool.or_false, Bool.true_or, Bool.false_or, Bool.not_true, Bool.not_false, Bool.and_true, Bool.true_and, Bool.and_false, Bool.false_and, decide_true, decide_false, eq_self, reduceIte, reduceCtorEq, this])
      have lc := lcE_ok (own := [2, 3]) (fi := zipE (cnS (pvS 0) (cnS (pvS 1) nlS))) (sl := [.val (.tuple ds), .val (.tuple ds), .no, .no]) (fd := none) (fz := true) (items := zipT ds ds) rfl (by rw [zip_self, List.length_map]; exact h.2) (by rw [show (zipT ds ds).filter (fun _ => false) = [] by simp] at go; exact go)
      simp [m_law_same, b__law_same, nil0, fnM, outFd, O.sq, O.kl, kill, sqO, klO, pkO, nilO, ifO, reO, rvO, rnO, exO, raO, setO, parO, tgO, forO, stO, putO, appO, extO, appM, popM, R.st, R.bind, R.opt, R.frz, PD.frz, frzS, pvS, evS, gvS, cS, pkS, rsS, fzE, opS, cmS, blS, biS, nlS, cnS, trS, ntS, nvS, neS, itS, tuS, liS, ixS, slS, isS, lrS, caS, ckS, dnS, yesS, tnS, tlN, tlC, ttS, andE, orE, andT, orT, chnE, chnK, lookP, lookPs, callE, strM, getE, partE, bo, blO, setFd, unfd, addD, subD, mulD, fdivD, modD, powD, leD, gtD, geD, cmpI, isnD, ninD, truthD, gInt, gLen, gStr, PD.gTup, gList, gMax, gMin, isi1, isi2, isiD, isiS, tyN, noScr, idxD, atI, ixN, List.getElem?_cons_zero, List.getElem?_cons_succ, List.set_cons_zero, List.set_cons_succ, List.cons_append, List.nil_append, List.length_cons, List.length_nil, List.replicate_succ, List.replicate_zero, Option.map_some, Option.map_none, Option.bind_some, Option.bind_none, Bool.false_eq_true, if_true, if_false, true_and, and_true, and_false, false_and, Option.isSome_some, Option.isSome_none, List.any_cons, List.any_nil, Bool.or_true, Bool.or_false, Bool.true_or, Bool.false_or, Bool.not_true, Bool.not_false, Bool.and_true, Bool.true_and, Bool.and_false, Bool.false_and, decide_true, decide_false, eq_self, reduceIte, reduceCtorEq, isD, eqD_nil, neD_b, neD_i, lenD, lc]
    | none => cases h
    | bool b => cases h
    | dict es => cases h
end K73

namespace K73
open PySem PySem.Spec PyProof.Rows L2 PD
abbrev Wt := Int × Int × Int
abbrev Wk := Int × Int
def wD (w : Wt) : D := .tuple [.int w.1, .int w.2.1, .int w.2.2]
def kkD (k : Wk) : D := .tuple [.int k.1, .int k.2]
def planD (n : Int) (ws : List Wt) (ks : List Wk) : D := .tuple [.int n, .tuple (ws.map wD), .tuple (ks.map kkD)]
def wLt (x y : Wt) : Bool := decide (x.1 < y.1 ∨ (x.1 = y.1 ∧ x.2.1 < y.2.1))
structure PlanOk (n : Int) (ws : List Wt) (ks : List Wk) : Prop where
  n1 : 1 ≤ n
  n2 : n ≤ 40
  wl : ws.length ≤ 300
  w : ∀ w ∈ ws, 0 ≤ w.1 ∧ w.1 < n ∧ 0 ≤ w.2.1 ∧ w.2.1 < n ∧ w.1 ≠ w.2.1 ∧ -1000000 ≤ w.2.2 ∧ w.2.2 ≤ 1000000
  asc : ∀ p ∈ ws.zip (ws.drop 1), wLt p.1 p.2 = true
  kl : ks.length ≤ 40
  k : ∀ k ∈ ks, 0 ≤ k.1 ∧ k.1 < n ∧ 0 ≤ k.2 ∧ k.2 < n ∧ k.1 ≠ k.2
theorem isint_ok (x lo hi : Int) (h1 : lo ≤ x) (h2 : x ≤ hi) : m_is_integer [.val (.int x), .val (.int lo), .val (.int hi)] none = .ok (.val (.bool true)) none := by
  simp [m_is_integer, b_is_integer, fnM, outFd, O.sq, O.kl, kill, sqO, klO, pkO, nilO, ifO, reO, rvO, rnO, exO, raO, setO, parO, tgO, forO, stO, putO, appO, extO, appM, popM, R.st, R.bind, R.opt, R.frz, PD.frz, frzS, pvS, evS, gvS, cS, pkS, rsS, fzE, opS, cmS, blS, biS, nlS, cnS, trS, ntS, nvS, neS, itS, tuS, liS, ixS, slS, isS, lrS, caS, ckS, dnS, yesS, tnS, tlN, tlC, ttS, andE, orE, andT, orT, chnE, chnK, lookP, lookPs, callE, strM, getE, partE, bo, blO, setFd, unfd, addD, subD, mulD, fdivD, modD, powD, leD, gtD, geD, cmpI, neD, isnD, ninD, truthD, gInt, gLen, gStr, PD.gTup, gList, gMax, gMin, isi1, isi2, isiD, isiS, tyN, noScr, idxD, atI, ixN, List.getElem?_cons_zero, List.getElem?_cons_succ, List.set_cons_zero, List.set_cons_succ, List.cons_append, List.nil_append, List.length_cons, List.length_nil, List.replicate_succ, List.replicate_zero, Option.map_some, Option.map_none, Option.bind_some, Option.bind_none, Bool.false_eq_true, if_true, if_false, true_and, and_true, and_false, false_and, Option.isSome_some, Option.isSome_none, List.any_cons, List.any_nil, Bool.or_true, Bool.or_false, Bool.true_or, Bool.false_or, Bool.not_true, Bool.not_false, Bool.and_true, Bool.true_and, Bool.and_false, Bool.false_and, decide_true, decide_false, eq_self, reduceIte, reduceCtorEq, h1, h2]
theorem isW_ok {n : Int} {w : Wt} (h : 0 ≤ w.1 ∧ w.1 < n ∧ 0 ≤ w.2.1 ∧ w.2.1 < n ∧ w.1 ≠ w.2.1 ∧ -1000000 ≤ w.2.2 ∧ w.2.2 ≤ 1000000) : m_is_wait [.val (.int n), .val (wD w)] none = .ok (.val (.bool true)) none := by
  obtain ⟨h1, h2, h3, h4, h5, h6, h7⟩ := h
  have i1 := isint_ok w.1 0 (n - 1) h1 (by omega)
  have i2 := isint_ok w.2.1 0 (n - 1) h3 (by omega)
  have i3 := isint_ok w.2.2 (-1000000) 1000000 h6 h7
  simp [m_is_wait, b_is_wait, wD, fnM, outFd, O.sq, O.kl, kill, sqO, klO, pkO, nilO, ifO, reO, rvO, rnO, exO, raO, setO, parO, tgO, forO, stO, putO, appO, extO, appM, popM, R.st, R.bind, R.opt, R.frz, PD.frz, frzS, pvS, evS, gvS, cS, pkS, rsS, fzE, opS, cmS, blS, biS, nlS, cnS, trS, ntS, nvS, neS, itS, tuS, liS, ixS, slS, isS, lrS, caS, ckS, dnS, yesS, tnS, tlN, tlC, ttS, andE, orE, andT, orT, chnE, chnK, lookP, lookPs, callE, strM, getE, partE, bo, blO, setFd, unfd, addD, subD, mulD, fdivD, modD, powD, leD, gtD, geD, cmpI, isnD, ninD, truthD, gInt, gLen, gStr, PD.gTup, gList, gMax, gMin, isi1, isi2, isiD, isiS, tyN, noScr, idxD, atI, ixN, List.getElem?_cons_zero, List.getElem?_cons_succ, List.set_cons_zero, List.set_cons_succ, List.cons_append, List.nil_append, List.length_cons, List.length_nil, List.replicate_succ, List.replicate_zero, Option.map_some, Option.map_none, Option.bind_some, Option.bind_none, Bool.false_eq_true, if_true, if_false, true_and, and_true, and_false, false_and, Option.isSome_some, Option.isSome_none, List.any_cons, List.any_nil, Bool.or_true, Bool.or_false, Bool.true_or, Bool.false_or, Bool.not_true, Bool.not_false, Bool.and_true, Bool.true_and, Bool.and_false, Bool.false_and, decide_true, decide_false, eq_self, reduceIte, reduceCtorEq, lenD, neD_i, i1, i2, i3, h5]
theorem isK_ok {n : Int} {w : Wk} (h : 0 ≤ w.1 ∧ w.1 < n ∧ 0 ≤ w.2 ∧ w.2 < n ∧ w.1 ≠ w.2) : m_is_work [.val (.int n), .val (kkD w)] none = .ok (.val (.bool true)) none := by
  obtain ⟨h1, h2, h3, h4, h5⟩ := h
  have i1 := isint_ok w.1 0 (n - 1) h1 (by omega)
  have i2 := isint_ok w.2 0 (n - 1) h3 (by omega)
  simp [m_is_work, b_is_work, kkD, fnM, outFd, O.sq, O.kl, kill, sqO, klO, pkO, nilO, ifO, reO, rvO, rnO, exO, raO, setO, parO, tgO, forO, stO, putO, appO, extO, appM, popM, R.st, R.bind, R.opt, R.frz, PD.frz, frzS, pvS, evS, gvS, cS, pkS, rsS, fzE, opS, cmS, blS, biS, nlS, cnS, trS, ntS, nvS, neS, itS, tuS, liS, ixS, slS, isS, lrS, caS, ckS, dnS, yesS, tnS, tlN, tlC, ttS, andE, orE, andT, orT, chnE, chnK, lookP, lookPs, callE, strM, getE, partE, bo, blO, setFd, unfd, addD, subD, mulD, fdivD, modD, powD, leD, gtD, geD, cmpI, isnD, ninD, truthD, gInt, gLen, gStr, PD.gTup, gList, gMax, gMin, isi1, isi2, isiD, isiS, tyN, noScr, idxD, atI, ixN, List.getElem?_cons_zero, List.getElem?_cons_succ, List.set_cons_zero, List.set_cons_succ, List.cons_append, List.nil_append, List.length_cons, List.length_nil, List.replicate_succ, List.replicate_zero, Option.map_some, Option.map_none, Option.bind_some, Option.bind_none, Bool.false_eq_true, if_true, if_false, true_and, and_true, and_false, false_and, Option.isSome_some, Option.isSome_none, List.any_cons, List.any_nil, Bool.or_true, Bool.or_false, Bool.true_or, Bool.false_or, Bool.not_true, Bool.not_false, Bool.and_true, Bool.true_and, Bool.and_false, Bool.false_and, decide_true, decide_false, eq_self, reduceIte, reduceCtorEq, lenD, neD_i, i1, i2, h5, lcE, seqE, itemsD, notFd, fzP, wipeS, lcGo, gAll, bls?, sizeLine_eq]
def keyD (w : Wt) : D := .tuple [.int w.1, .int w.2.1]
theorem ltD_key (x y : Wt) : ltD (keyD x) (keyD y) = some (wLt x y) := by
  unfold ltD keyD
  simp only [nnD]
  simp [W.alike, W.alikeAll, PyData.depth, PyData.depthAll, W.dataLt_ii, wLt]
theorem zip_map2 {α : Type} (f : α → D) : ∀ (xs ys : List α), zipT (xs.map f) (ys.map f) = (xs.zip ys).map fun p => .tuple [f p.1, f p.2]
  | [], _ => rfl
  | _ :: _, [] => rfl
  | x :: xs, y :: ys => by
    have := zip_map2 f xs ys
    unfold zipT at this ⊢
    simp [this]
theorem cut_from {ds : List D} (k : Nat) : cutL ds (some (k : Int)) none = ds.drop k := by
  unfold cutL
  rw [HT.sIx_nat, HT.sIx_none]
  by_cases h : k ≤ ds.length
  · rw [Nat.min_eq_left h, List.take_of_length_le (by rw [List.length_drop]; exact Nat.le_refl _)]
  · rw [Nat.min_eq_right (by omega), List.drop_of_length_le (Nat.le_refl _), List.drop_of_length_le (by omega)]; simp
theorem cut_to {ds : List D} (k : Nat) : cutL ds none (some (k : Int)) = ds.take k := by
  unfold cutL
  rw [HT.sIx_nat, HT.sIx_none, List.drop_zero, Nat.sub_zero]
  by_cases h : k ≤ ds.length
  · rw [Nat.min_eq_left h]
  · rw [Nat.min_eq_right (by omega), List.take_of_length_le (Nat.le_refl _), List.take_of_length_le (by omega)]
theorem cut1 {ds : List D} : cutL ds (some 1) none = ds.drop 1 := cut_from 1
theorem cut2 {ds : List D} : cutL ds none (some 2) = ds.take 2 := cut_to 2
theorem gAll_true {α : Type} (l : List α) : gAll [.list (l.map fun _ => PyData.bool true)] = some (.val (.bool true)) := by
  have : bls? (l.map fun _ => PyData.bool true) = some (l.map fun _ => true) := by
    induction l with
    | nil => rfl
    | cons x l ih => simp [bls?, ih]
  simp [gAll, this]
theorem asc_ok {ws : List Wt} (hl : ws.length ≤ 1000) (h : ∀ p ∈ ws.zip (ws.drop 1), wLt p.1 p.2 = true) : m_are_ascending [.val (.list (ws.map keyD))] none = .ok (.val (.bool true)) none := by
  have go := lcGo_map (ft := ttS 2 (tlC (tnS 1) (tlC (tnS 2) tlN))) (fT := yesS) (fE := fzE (opS (bo ltD) (pvS 1) (pvS 2))) (sl := [.val (.list (ws.map keyD)), .no, .no]) (fd := none) (fun _ => true) (fun _ => .bool true) (zipT (ws.map keyD) ((ws.drop 1).map keyD)) (fun x hx => by
    rw [zip_map2] at hx
    obtain ⟨p, hp, rfl⟩ := List.mem_map.mp hx
    have lt := h p hp
    refine ⟨_, rfl, rfl, fun _ => ?_⟩
    simp [fnM, outFd, O.sq, O.kl, kill, sqO, klO, pkO, nilO, ifO, reO, rvO, rnO, exO, raO, setO, parO, tgO, forO, stO, putO, appO, extO, appM, popM, R.st, R.bind, R.opt, R.frz, PD.frz, frzS, pvS, evS, gvS, cS, pkS, rsS, fzE, opS, cmS, blS, biS, nlS, cnS, trS, ntS, nvS, neS, itS, tuS, liS, ixS, slS, isS, lrS, caS, ckS, dnS, yesS, tnS, tlN, tlC, ttS, andE, orE, andT, orT, chnE, chnK, lookP, lookPs, callE, strM, getE, partE, bo, blO, setFd, unfd, addD, subD, mulD, fdivD, modD, powD, leD, gtD, geD, cmpI, neD, isnD, ninD, truthD, gInt, gLen, gStr, PD.gTup, gList, gMax, gMin, isi1, isi2, isiD, isiS, tyN, noScr, idxD, atI, ixN, List.getElem?_cons_zero, List.getElem?_cons_succ, List.set_cons_zero, List.set_cons_succ, List.cons_append, List.nil_append, List.length_cons, List.length_nil, List.replicate_succ, List.replicate_zero, Option.map_some, Option.map_none, Option.bind_some, Option.bind_none, Bool.false_eq_true, if_true, if_false, true_and, and_true, and_false, false_and, Option.isSome_some, Option.isSome_none, List.any_cons, List.any_nil, Bool.or_true, Bool.or_false, Bool.true_or, Bool.false_or, Bool.not_true, Bool.not_false, Bool.and_true, Bool.true_and, Bool.and_false, Bool.false_and, decide_true, decide_false, eq_self, reduceIte, reduceCtorEq, ltD_key, lt])
  have lc := lcE_ok (own := [1, 2]) (fi := zipE (cnS (pvS 0) (cnS (pkS (fzE (slS (pvS 0) (some (cS (.int 1))) none))) nlS))) (sl := [.val (.list (ws.map keyD)), .no, .no]) (fd := none) (fd1 := none) (fz := true) (items := zipT (ws.map keyD) ((ws.drop 1).map keyD))
    (by simp [zipE, fnM, outFd, O.sq, O.kl, kill, sqO, klO, pkO, nilO, ifO, reO, rvO, rnO, exO, raO, setO, parO, tgO, forO, stO, putO, appO, extO, appM, popM, R.st, R.bind, R.opt, R.frz, PD.frz, frzS, pvS, evS, gvS, cS, pkS, rsS, fzE, opS, cmS, blS, biS, nlS, cnS, trS, ntS, nvS, neS, itS, tuS, liS, ixS, slS, isS, lrS, caS, ckS, dnS, yesS, tnS, tlN, tlC, ttS, andE, orE, andT, orT, chnE, chnK, lookP, lookPs, callE, strM, getE, partE, bo, blO, setFd, unfd, addD, subD, mulD, fdivD, modD, powD, leD, gtD, geD, cmpI, neD, isnD, ninD, truthD, gInt, gLen, gStr, PD.gTup, gList, gMax, gMin, isi1, isi2, isiD, isiS, tyN, noScr, idxD, atI, ixN, List.getElem?_cons_zero, List.getElem?_cons_succ, List.set_cons_zero, List.set_cons_succ, List.cons_append, List.nil_append, List.length_cons, List.length_nil, List.replicate_succ, List.replicate_zero, Option.map_some, Option.map_none, Option.bind_some, Option.bind_none, Bool.false_eq_true, if_true, if_false, true_and, and_true, and_false, false_and, Option.isSome_some, Option.isSome_none, List.any_cons, List.any_nil, Bool.or_true, Bool.or_false, Bool.true_or, Bool.false_or, Bool.not_true, Bool.not_false, Bool.and_true, Bool.true_and, Bool.and_false, Bool.false_and, decide_true, decide_false, eq_self, reduceIte, reduceCtorEq, sliD, cut1, notFd, fzP, List.map_drop]) (by rw [zip_map2, List.length_map, List.length_zip]; omega) go
  simp [m_are_ascending, b_are_ascending, fnM, outFd, O.sq, O.kl, kill, sqO, klO, pkO, nilO, ifO, reO, rvO, rnO, exO, raO, setO, parO, tgO, forO, stO, putO, appO, extO, appM, popM, R.st, R.bind, R.opt, R.frz, PD.frz, frzS, pvS, evS, gvS, cS, pkS, rsS, fzE, opS, cmS, blS, biS, nlS, cnS, trS, ntS, nvS, neS, itS, tuS, liS, ixS, slS, isS, lrS, caS, ckS, dnS, yesS, tnS, tlN, tlC, ttS, andE, orE, andT, orT, chnE, chnK, lookP, lookPs, callE, strM, getE, partE, bo, blO, setFd, unfd, addD, subD, mulD, fdivD, modD, powD, leD, gtD, geD, cmpI, neD, isnD, ninD, truthD, gInt, gLen, gStr, PD.gTup, gList, gMax, gMin, isi1, isi2, isiD, isiS, tyN, noScr, idxD, atI, ixN, List.getElem?_cons_zero, List.getElem?_cons_succ, List.set_cons_zero, List.set_cons_succ, List.cons_append, List.nil_append, List.length_cons, List.length_nil, List.replicate_succ, List.replicate_zero, Option.map_some, Option.map_none, Option.bind_some, Option.bind_none, Bool.false_eq_true, if_true, if_false, true_and, and_true, and_false, false_and, Option.isSome_some, Option.isSome_none, List.any_cons, List.any_nil, Bool.or_true, Bool.or_false, Bool.true_or, Bool.false_or, Bool.not_true, Bool.not_false, Bool.and_true, Bool.true_and, Bool.and_false, Bool.false_and, decide_true, decide_false, eq_self, reduceIte, reduceCtorEq, lc, gAll_true]
theorem filt_true {α : Type} (l : List α) : l.filter (fun _ => true) = l := List.filter_eq_self.mpr fun _ _ => rfl
theorem form_ok {n : Int} {ws : List Wt} {ks : List Wk} (P : PlanOk n ws ks) : m_is_plan_form [.val (planD n ws ks)] none = .ok (.val (.bool true)) none := by
  have wl := P.wl
  have kl := P.kl
  have i1 := isint_ok n 1 40 P.n1 P.n2
  have go1 := lcGo_map (ft := tnS 4) (fT := yesS) (fE := fzE (caS 2 m_is_wait (cnS (gvS 1) (cnS (gvS 4) nlS)))) (sl := [.no, .val (.int n), .val (.tuple (ws.map wD)), .val (.tuple (ks.map kkD)), .no, .no]) (fd := none) (fun _ => true) (fun _ => .bool true) (ws.map wD) (fun x hx => by
    obtain ⟨w, hw, rfl⟩ := List.mem_map.mp hx
    have e := isW_ok (P.w w hw)
    refine ⟨_, rfl, rfl, fun _ => ?_⟩
    simp [fnM, outFd, O.sq, O.kl, kill, sqO, klO, pkO, nilO, ifO, reO, rvO, rnO, exO, raO, setO, parO, tgO, forO, stO, putO, appO, extO, appM, popM, R.st, R.bind, R.opt, R.frz, PD.frz, frzS, pvS, evS, gvS, cS, pkS, rsS, fzE, opS, cmS, blS, biS, nlS, cnS, trS, ntS, nvS, neS, itS, tuS, liS, ixS, slS, isS, lrS, caS, ckS, dnS, yesS, tnS, tlN, tlC, ttS, andE, orE, andT, orT, chnE, chnK, lookP, lookPs, callE, strM, getE, partE, bo, blO, setFd, unfd, addD, subD, mulD, fdivD, modD, powD, leD, gtD, geD, cmpI, neD, isnD, ninD, truthD, gInt, gLen, gStr, PD.gTup, gList, gMax, gMin, isi1, isi2, isiD, isiS, tyN, noScr, idxD, atI, ixN, List.getElem?_cons_zero, List.getElem?_cons_succ, List.set_cons_zero, List.set_cons_succ, List.cons_append, List.nil_append, List.length_cons, List.length_nil, List.replicate_succ, List.replicate_zero, Option.map_some, Option.map_none, Option.bind_some, Option.bind_none, Bool.false_eq_true, if_true, if_false, true_and, and_true, and_false, false_and, Option.isSome_some, Option.isSome_none, List.any_cons, List.any_nil, Bool.or_true, Bool.or_false, Bool.true_or, Bool.false_or, Bool.not_true, Bool.not_false, Bool.and_true, Bool.true_and, Bool.and_false, Bool.false_and, decide_true, decide_false, eq_self, reduceIte, reduceCtorEq, e])
  have lc1 := lcE_ok (own := [4]) (fi := seqE (pvS 2)) (sl := [.no, .val (.int n), .val (.tuple (ws.map wD)), .val (.tuple (ks.map kkD)), .no, .no]) (fd := none) (fd1 := none) (fz := true) (items := ws.map wD) rfl (by rw [List.length_map]; omega) go1
  have go2 := lcGo_map (ft := tnS 4) (fT := yesS) (fE := fzE (slS (pvS 4) none (some (cS (.int 2))))) (sl := [.no, .val (.int n), .val (.tuple (ws.map wD)), .val (.tuple (ks.map kkD)), .no, .no]) (fd := none) (fun _ => true) (fun d => match d with
      | .tuple xs => .tuple (xs.take 2)
      | d => d) (ws.map wD) (fun x hx => by
    obtain ⟨w, hw, rfl⟩ := List.mem_map.mp hx
    refine ⟨_, rfl, rfl, fun _ => ?_⟩
    simp [fnM, outFd, O.sq, O.kl, kill, sqO, klO, pkO, nilO, ifO, reO, rvO, rnO, exO, raO, setO, parO, tgO, forO, stO, putO, appO, extO, appM, popM, R.st, R.bind, R.opt, R.frz, PD.frz, frzS, pvS, evS, gvS, cS, pkS, rsS, fzE, opS, cmS, blS, biS, nlS, cnS, trS, ntS, nvS, neS, itS, tuS, liS, ixS, slS, isS, lrS, caS, ckS, dnS, yesS, tnS, tlN, tlC, ttS, andE, orE, andT, orT, chnE, chnK, lookP, lookPs, callE, strM, getE, partE, bo, blO, setFd, unfd, addD, subD, mulD, fdivD, modD, powD, leD, gtD, geD, cmpI, neD, isnD, ninD, truthD, gInt, gLen, gStr, PD.gTup, gList, gMax, gMin, isi1, isi2, isiD, isiS, tyN, noScr, idxD, atI, ixN, List.getElem?_cons_zero, List.getElem?_cons_succ, List.set_cons_zero, List.set_cons_succ, List.cons_append, List.nil_append, List.length_cons, List.length_nil, List.replicate_succ, List.replicate_zero, Option.map_some, Option.map_none, Option.bind_some, Option.bind_none, Bool.false_eq_true, if_true, if_false, true_and, and_true, and_false, false_and, Option.isSome_some, Option.isSome_none, List.any_cons, List.any_nil, Bool.or_true, Bool.or_false, Bool.true_or, Bool.false_or, Bool.not_true, Bool.not_false, Bool.and_true, Bool.true_and, Bool.and_false, Bool.false_and, decide_true, decide_false, eq_self, reduceIte, reduceCtorEq, sliD, cut2, wD])
  have lc2 := lcE_ok (own := [4]) (fi := seqE (pvS 2)) (sl := [.no, .val (.int n), .val (.tuple (ws.map wD)), .val (.tuple (ks.map kkD)), .no, .no]) (fd := none) (fd1 := none) (fz := true) (items := ws.map wD) rfl (by rw [List.length_map]; omega) go2
  have e2 : ((ws.map wD).filter (fun _ => true)).map (fun d => match d with
      | .tuple xs => PyData.tuple (xs.take 2)
      | d => d) = ws.map keyD := by rw [filt_true, List.map_map]; rfl
  rw [e2] at lc2
  have as := asc_ok (ws := ws) (by omega) P.asc
  have go3 := lcGo_map (ft := tnS 5) (fT := yesS) (fE := fzE (caS 2 m_is_work (cnS (gvS 1) (cnS (gvS 5) nlS)))) (sl := [.no, .val (.int n), .no, .val (.tuple (ks.map kkD)), .no, .no]) (fd := none) (fun _ => true) (fun _ => .bool true) (ks.map kkD) (fun x hx => by
    obtain ⟨w, hw, rfl⟩ := List.mem_map.mp hx
    have e := isK_ok (P.k w hw)
    refine ⟨_, rfl, rfl, fun _ => ?_⟩
    simp [fnM, outFd, O.sq, O.kl, kill, sqO, klO, pkO, nilO, ifO, reO, rvO, rnO, exO, raO, setO, parO, tgO, forO, stO, putO, appO, extO, appM, popM, R.st, R.bind, R.opt, R.frz, PD.frz, frzS, pvS, evS, gvS, cS, pkS, rsS, fzE, opS, cmS, blS, biS, nlS, cnS, trS, ntS, nvS, neS, itS, tuS, liS, ixS, slS, isS, lrS, caS, ckS, dnS, yesS, tnS, tlN, tlC, ttS, andE, orE, andT, orT, chnE, chnK, lookP, lookPs, callE, strM, getE, partE, bo, blO, setFd, unfd, addD, subD, mulD, fdivD, modD, powD, leD, gtD, geD, cmpI, neD, isnD, ninD, truthD, gInt, gLen, gStr, PD.gTup, gList, gMax, gMin, isi1, isi2, isiD, isiS, tyN, noScr, idxD, atI, ixN, List.getElem?_cons_zero, List.getElem?_cons_succ, List.set_cons_zero, List.set_cons_succ, List.cons_append, List.nil_append, List.length_cons, List.length_nil, List.replicate_succ, List.replicate_zero, Option.map_some, Option.map_none, Option.bind_some, Option.bind_none, Bool.false_eq_true, if_true, if_false, true_and, and_true, and_false, false_and, Option.isSome_some, Option.isSome_none, List.any_cons, List.any_nil, Bool.or_true, Bool.or_false, Bool.true_or, Bool.false_or, Bool.not_true, Bool.not_false, Bool.and_true, Bool.true_and, Bool.and_false, Bool.false_and, decide_true, decide_false, eq_self, reduceIte, reduceCtorEq, e])
  have lc3 := lcE_ok (own := [5]) (fi := seqE (pvS 3)) (sl := [.no, .val (.int n), .no, .val (.tuple (ks.map kkD)), .no, .no]) (fd := none) (fd1 := none) (fz := true) (items := ks.map kkD) rfl (by rw [List.length_map]; omega) go3
  have h1 : ¬ (300 < (ws.length : Int)) := by omega
  have h2 : (ks.length : Int) ≤ 40 := by omega
  simp [m_is_plan_form, b_is_plan_form, planD, fnM, outFd, O.sq, O.kl, kill, sqO, klO, pkO, nilO, ifO, reO, rvO, rnO, exO, raO, setO, parO, tgO, forO, stO, putO, appO, extO, appM, popM, R.st, R.bind, R.opt, R.frz, PD.frz, frzS, pvS, evS, gvS, cS, pkS, rsS, fzE, opS, cmS, blS, biS, nlS, cnS, trS, ntS, nvS, neS, itS, tuS, liS, ixS, slS, isS, lrS, caS, ckS, dnS, yesS, tnS, tlN, tlC, ttS, andE, orE, andT, orT, chnE, chnK, lookP, lookPs, callE, strM, getE, partE, bo, blO, setFd, unfd, addD, subD, mulD, fdivD, modD, powD, leD, gtD, geD, cmpI, isnD, ninD, truthD, gInt, gLen, gStr, PD.gTup, gList, gMax, gMin, isi1, isi2, isiD, isiS, tyN, noScr, idxD, atI, ixN, List.getElem?_cons_zero, List.getElem?_cons_succ, List.set_cons_zero, List.set_cons_succ, List.cons_append, List.nil_append, List.length_cons, List.length_nil, List.replicate_succ, List.replicate_zero, Option.map_some, Option.map_none, Option.bind_some, Option.bind_none, Bool.false_eq_true, if_true, if_false, true_and, and_true, and_false, false_and, Option.isSome_some, Option.isSome_none, List.any_cons, List.any_nil, Bool.or_true, Bool.or_false, Bool.true_or, Bool.false_or, Bool.not_true, Bool.not_false, Bool.and_true, Bool.true_and, Bool.and_false, Bool.false_and, decide_true, decide_false, eq_self, reduceIte, reduceCtorEq, lenD, neD_i, i1, lc1, lc2, lc3, gAll_true, as, h1, h2]
theorem need_ok {n : Int} {ws : List Wt} {ks : List Wk} (P : PlanOk n ws ks) : m_need_plan_form [.val (planD n ws ks)] none = .ok (.val .none) none := by
  simp [m_need_plan_form, b_need_plan_form, fnM, outFd, O.sq, O.kl, kill, sqO, klO, pkO, nilO, ifO, reO, rvO, rnO, exO, raO, setO, parO, tgO, forO, stO, putO, appO, extO, appM, popM, R.st, R.bind, R.opt, R.frz, PD.frz, frzS, pvS, evS, gvS, cS, pkS, rsS, fzE, opS, cmS, blS, biS, nlS, cnS, trS, ntS, nvS, neS, itS, tuS, liS, ixS, slS, isS, lrS, caS, ckS, dnS, yesS, tnS, tlN, tlC, ttS, andE, orE, andT, orT, chnE, chnK, lookP, lookPs, callE, strM, getE, partE, bo, blO, setFd, unfd, addD, subD, mulD, fdivD, modD, powD, leD, gtD, geD, cmpI, neD, isnD, ninD, truthD, gInt, gLen, gStr, PD.gTup, gList, gMax, gMin, isi1, isi2, isiD, isiS, tyN, noScr, idxD, atI, ixN, List.getElem?_cons_zero, List.getElem?_cons_succ, List.set_cons_zero, List.set_cons_succ, List.cons_append, List.nil_append, List.length_cons, List.length_nil, List.replicate_succ, List.replicate_zero, Option.map_some, Option.map_none, Option.bind_some, Option.bind_none, Bool.false_eq_true, if_true, if_false, true_and, and_true, and_false, false_and, Option.isSome_some, Option.isSome_none, List.any_cons, List.any_nil, Bool.or_true, Bool.or_false, Bool.true_or, Bool.false_or, Bool.not_true, Bool.not_false, Bool.and_true, Bool.true_and, Bool.and_false, Bool.false_and, decide_true, decide_false, eq_self, reduceIte, reduceCtorEq, form_ok P]
theorem isplan_ok {n : Int} {ws : List Wt} {ks : List Wk} (P : PlanOk n ws ks) : m_is_plan [.val (planD n ws ks)] none = .ok (.val (.bool true)) none := by
  simp [m_is_plan, b_is_plan, fnM, outFd, O.sq, O.kl, kill, sqO, klO, pkO, nilO, ifO, reO, rvO, rnO, exO, raO, setO, parO, tgO, forO, stO, putO, appO, extO, appM, popM, R.st, R.bind, R.opt, R.frz, PD.frz, frzS, pvS, evS, gvS, cS, pkS, rsS, fzE, opS, cmS, blS, biS, nlS, cnS, trS, ntS, nvS, neS, itS, tuS, liS, ixS, slS, isS, lrS, caS, ckS, dnS, yesS, tnS, tlN, tlC, ttS, andE, orE, andT, orT, chnE, chnK, lookP, lookPs, callE, strM, getE, partE, bo, blO, setFd, unfd, addD, subD, mulD, fdivD, modD, powD, leD, gtD, geD, cmpI, neD, isnD, ninD, truthD, gInt, gLen, gStr, PD.gTup, gList, gMax, gMin, isi1, isi2, isiD, isiS, tyN, noScr, idxD, atI, ixN, List.getElem?_cons_zero, List.getElem?_cons_succ, List.set_cons_zero, List.set_cons_succ, List.cons_append, List.nil_append, List.length_cons, List.length_nil, List.replicate_succ, List.replicate_zero, Option.map_some, Option.map_none, Option.bind_some, Option.bind_none, Bool.false_eq_true, if_true, if_false, true_and, and_true, and_false, false_and, Option.isSome_some, Option.isSome_none, List.any_cons, List.any_nil, Bool.or_true, Bool.or_false, Bool.true_or, Bool.false_or, Bool.not_true, Bool.not_false, Bool.and_true, Bool.true_and, Bool.and_false, Bool.false_and, decide_true, decide_false, eq_self, reduceIte, reduceCtorEq, form_ok P]
end K73

namespace K73
open PySem PySem.Spec PyProof.Rows L2 PD TL
def sI (i : Int) : Str := Str.ofString (toString i)
theorem tl_pos {i : Int} (h : 0 ≤ i) : tl (sI i) = numL i.natAbs := by
  obtain ⟨n, rfl⟩ := Int.eq_ofNat_of_zero_le h
  exact tl_num n
theorem tl_neg {i : Int} (h : i < 0) : tl (sI i) = 45 :: numL i.natAbs := by
  obtain ⟨n, rfl⟩ := Int.eq_negSucc_of_lt_zero h
  have e : toString (Int.negSucc n) = "-" ++ toString (((n + 1 : Nat)) : Int) := rfl
  unfold sI
  rw [e, tl_ofString, String.toList_append, List.map_append, ← tl_ofString (toString (((n + 1 : Nat)) : Int)), tl_num]
  rfl
theorem numL_bound {n : Nat} (h : n < 10000000) : 1 ≤ (numL n).length ∧ (numL n).length ≤ 7 := by
  refine ⟨List.length_pos_iff.mpr (numL_ne n), numL_len (by decide) ?_⟩
  have : (10 : Nat) ^ 7 = 10000000 := by decide
  omega
theorem sI_len {i : Int} (h : i.natAbs < 10000000) : (sI i).length ≤ 8 := by
  have b := numL_bound h
  rw [len_tl]
  by_cases z : 0 ≤ i
  · rw [tl_pos z]; omega
  · rw [tl_neg (by omega), List.length_cons]; omega
theorem int_sI {i : Int} (h : i.natAbs < 10000000) : intText? (sI i) = some i := by
  have b := numL_bound h
  have hl := sI_len h
  by_cases z : 0 ≤ i
  · have e := tl_pos z
    have := intText_digits (x := sI i) (by rw [show (sI i).cps.toList = numL i.natAbs from e]; exact numL_digits _) (by rw [show (sI i).cps.toList = numL i.natAbs from e]; exact numL_ne _) (by omega)
    rw [this, show (sI i).cps.toList = numL i.natAbs from e, numL_val]
    congr 1; omega
  · have e := tl_neg (i := i) (by omega)
    have := intText_neg (x := sI i) e (numL_digits _) (numL_ne _) (by omega)
    rw [this, numL_val]
    congr 1; omega
theorem gInt_sI {i : Int} (h : i.natAbs < 10000000) : gInt [.str (sI i)] = some (.val (.int i)) := by
  have hl := sI_len h
  have : (sI i).length ≤ 640 := by omega
  simp [gInt, this, int_sI h]
theorem gStr_sI {i : Int} (h : i.natAbs < 10000000) : gStr [.int i] = some (.val (.str (sI i))) := by
  have : i.natAbs.log2 < 1920 := log2_lt (k := 1920) (Nat.lt_of_lt_of_le h (by decide)) (by decide)
  simp only [gStr, this, if_true]
  rfl
theorem sI_free {i : Int} {s : Nat} (h : s < 45 ∨ 57 < s) : s ∉ tl (sI i) := by
  by_cases z : 0 ≤ i
  · rw [tl_pos z]; exact numL_free (by omega)
  · rw [tl_neg (by omega)]
    intro hm
    rcases List.mem_cons.mp hm with e | e
    · omega
    · exact numL_free (by omega) e
theorem tl_cut (z : Str) (lo hi : Option Int) : tl (cutS z lo hi) = cutL (tl z) lo hi := by
  show (Array.toList (List.toArray _)) = _
  rw [List.toList_toArray]
  unfold cutL
  rw [← len_tl]
theorem cutN_from {ds : List Nat} (k : Nat) : cutL ds (some (k : Int)) none = ds.drop k := by
  unfold cutL
  rw [HT.sIx_nat, HT.sIx_none]
  by_cases h : k ≤ ds.length
  · rw [Nat.min_eq_left h, List.take_of_length_le (by rw [List.length_drop]; exact Nat.le_refl _)]
  · rw [Nat.min_eq_right (by omega), List.drop_of_length_le (Nat.le_refl _), List.drop_of_length_le (by omega)]; simp
theorem cutN_to {ds : List Nat} (k : Nat) : cutL ds none (some (k : Int)) = ds.take k := by
  unfold cutL
  rw [HT.sIx_nat, HT.sIx_none, List.drop_zero, Nat.sub_zero]
  by_cases h : k ≤ ds.length
  · rw [Nat.min_eq_left h]
  · rw [Nat.min_eq_right (by omega), List.take_of_length_le (Nat.le_refl _), List.take_of_length_le (by omega)]
theorem numL_head : ∀ n : Nat, 0 < n → ∃ d r, numL n = d :: r ∧ 49 ≤ d ∧ d ≤ 57 := by
  intro n
  induction n using Nat.strongRecOn with
  | _ n ih =>
    intro h0
    by_cases h : n < 10
    · exact ⟨48 + n, [], numL_lt h, by omega, by omega⟩
    · obtain ⟨d, r, e, h1, h2⟩ := ih (n / 10) (by omega) (by omega)
      exact ⟨d, r ++ [48 + n % 10], by rw [numL_step (by omega), e]; rfl, h1, h2⟩
theorem digits_tl : tl (("0123456789" : Str)) = [48, 49, 50, 51, 52, 53, 54, 55, 56, 57] := by decide +kernel
theorem dash_tl : tl (("-" : Str)) = [45] := by decide +kernel
theorem zero_tl : tl (("0" : Str)) = [48] := by decide +kernel
theorem dig_in {c : Nat} (h : 48 ≤ c ∧ c ≤ 57) : inD (.str ⟨#[c]⟩) (.str "0123456789") = some true := by
  have e : c ∈ tl (("0123456789" : Str)) := by
    rw [digits_tl]
    have : c = 48 ∨ c = 49 ∨ c = 50 ∨ c = 51 ∨ c = 52 ∨ c = 53 ∨ c = 54 ∨ c = 55 ∨ c = 56 ∨ c = 57 := by omega
    rcases this with rfl | rfl | rfl | rfl | rfl | rfl | rfl | rfl | rfl | rfl <;> simp
  have e2 : ((⟨#[c]⟩ : Str)).length = 1 := rfl
  show (if ((⟨#[c]⟩ : Str)).length = 1 then some (decide (c ∈ tl (("0123456789" : Str)))) else none) = _
  rw [if_pos e2, decide_eq_true e]
abbrev numChk : Fe Sl := biS gAll (cnS (pkS (fzE (lcE [2] (seqE (pvS 1)) (tnS 2) yesS (fzE (opS (bo inD) (pvS 2) (pkS (cS (.str "0123456789")))))))) nlS)
theorem numChk_ok {t F : Str} {n : Nat} (hF : tl F = numL n) (hn : n < 10000000) : numChk [.val (.str t), .val (.str F), .no] none = .ok (.val (.bool true)) none := by
  have b := numL_bound hn
  have go := lcGo_map (ft := tnS 2) (fT := yesS) (fE := fzE (opS (bo inD) (pvS 2) (pkS (cS (.str "0123456789"))))) (sl := [.val (.str t), .val (.str F), .no]) (fd := none) (fun _ => true) (fun _ => .bool true) ((numL n).map fun c => .str ⟨#[c]⟩) (fun x hx => by
    obtain ⟨c, hc, rfl⟩ := List.mem_map.mp hx
    have e := dig_in (numL_digits n c hc)
    refine ⟨_, rfl, rfl, fun _ => ?_⟩
    simp [fnM, outFd, O.sq, O.kl, kill, sqO, klO, pkO, nilO, ifO, reO, rvO, rnO, exO, raO, setO, parO, tgO, forO, stO, putO, appO, extO, appM, popM, R.st, R.bind, R.opt, R.frz, PD.frz, frzS, pvS, evS, gvS, cS, pkS, rsS, fzE, opS, cmS, blS, biS, nlS, cnS, trS, ntS, nvS, neS, itS, tuS, liS, ixS, slS, isS, lrS, caS, ckS, dnS, yesS, tnS, tlN, tlC, ttS, andE, orE, andT, orT, chnE, chnK, lookP, lookPs, callE, strM, getE, partE, bo, blO, setFd, unfd, addD, subD, mulD, fdivD, modD, powD, leD, gtD, geD, cmpI, neD, isnD, ninD, truthD, gInt, gLen, gStr, PD.gTup, gList, gMax, gMin, isi1, isi2, isiD, isiS, tyN, noScr, idxD, atI, ixN, List.getElem?_cons_zero, List.getElem?_cons_succ, List.set_cons_zero, List.set_cons_succ, List.cons_append, List.nil_append, List.length_cons, List.length_nil, List.replicate_succ, List.replicate_zero, Option.map_some, Option.map_none, Option.bind_some, Option.bind_none, Bool.false_eq_true, if_true, if_false, true_and, and_true, and_false, false_and, Option.isSome_some, Option.isSome_none, List.any_cons, List.any_nil, Bool.or_true, Bool.or_false, Bool.true_or, Bool.false_or, Bool.not_true, Bool.not_false, Bool.and_true, Bool.true_and, Bool.and_false, Bool.false_and, decide_true, decide_false, eq_self, reduceIte, reduceCtorEq, e])
  have lc := lcE_ok (own := [2]) (fi := seqE (pvS 1)) (sl := [.val (.str t), .val (.str F), .no]) (fd := none) (fd1 := none) (fz := true) (items := (numL n).map fun c => .str ⟨#[c]⟩) (by
    rw [← hF]; rfl) (by rw [List.length_map]; omega) go
  simp [numChk, fnM, outFd, O.sq, O.kl, kill, sqO, klO, pkO, nilO, ifO, reO, rvO, rnO, exO, raO, setO, parO, tgO, forO, stO, putO, appO, extO, appM, popM, R.st, R.bind, R.opt, R.frz, PD.frz, frzS, pvS, evS, gvS, cS, pkS, rsS, fzE, opS, cmS, blS, biS, nlS, cnS, trS, ntS, nvS, neS, itS, tuS, liS, ixS, slS, isS, lrS, caS, ckS, dnS, yesS, tnS, tlN, tlC, ttS, andE, orE, andT, orT, chnE, chnK, lookP, lookPs, callE, strM, getE, partE, bo, blO, setFd, unfd, addD, subD, mulD, fdivD, modD, powD, leD, gtD, geD, cmpI, neD, isnD, ninD, truthD, gInt, gLen, gStr, PD.gTup, gList, gMax, gMin, isi1, isi2, isiD, isiS, tyN, noScr, idxD, atI, ixN, List.getElem?_cons_zero, List.getElem?_cons_succ, List.set_cons_zero, List.set_cons_succ, List.cons_append, List.nil_append, List.length_cons, List.length_nil, List.replicate_succ, List.replicate_zero, Option.map_some, Option.map_none, Option.bind_some, Option.bind_none, Bool.false_eq_true, if_true, if_false, true_and, and_true, and_false, false_and, Option.isSome_some, Option.isSome_none, List.any_cons, List.any_nil, Bool.or_true, Bool.or_false, Bool.true_or, Bool.false_or, Bool.not_true, Bool.not_false, Bool.and_true, Bool.true_and, Bool.and_false, Bool.false_and, decide_true, decide_false, eq_self, reduceIte, reduceCtorEq, lc, gAll_true]
theorem isnum_ok {i : Int} (h : i.natAbs < 10000000) : m_is_number_text [.val (.str (sI i))] none = .ok (.val (.bool true)) none := by
  have b := numL_bound h
  have hl := sI_len h
  have hz : (sI i).length ≤ sizeLine := Nat.le_trans (by omega) sizeLine_big
  have key : ∀ (F : Str) (chk : Fe Sl), tl F = numL i.natAbs → (i = 0 → sI i = "0") → chk [.val (.str (sI i)), .val (.str F), .no] none = .ok (.val (.bool true)) none → (itS (cmS eqD (pkS (fzE (slS (pvS 0) none (some (cS (.int 1)))))) (pkS (cS (.str "-")))) (slS (pvS 0) (some (cS (.int 1))) none) (rsS (evS 0))) [.val (.str (sI i)), .no, .no] none = .ok (.val (.str F)) none →
      fnM false 3 (sqO (setO 1 (frzS (itS (cmS eqD (pkS (fzE (slS (pvS 0) none (some (cS (.int 1)))))) (pkS (cS (.str "-")))) (slS (pvS 0) (some (cS (.int 1))) none) (rsS (evS 0)))))
  (sqO (ifO (orT (ntS (chnE leD leD (pkS (cS (.int 1))) (pkS (fzE (biS gLen (cnS (pvS 1) nlS)))) (pkS (cS (.int 7))))) (ntS (trS (pkS (fzE chk))))) (reO (rsS (cS (.bool false)))) nilO)
  (reO (rsS (orE (andE (fzE (opS (bo eqD) (pvS 1) (pkS (cS (.str "0"))))) (fzE (opS (bo eqD) (pvS 0) (pkS (cS (.str "0")))))) (fzE (opS (bo neD) (pkS (fzE (ixS (pvS 1) (pkS (cS (.int 0)))))) (pkS (cS (.str "0"))))))))))  [.val (.str (sI i))] none = .ok (.val (.bool true)) none := by
    intro F chk hF h0 hc hit
    generalize itS (cmS eqD (pkS (fzE (slS (pvS 0) none (some (cS (.int 1)))))) (pkS (cS (.str "-")))) (slS (pvS 0) (some (cS (.int 1))) none) (rsS (evS 0)) = it at hit
    have fl : F.length = (numL i.natAbs).length := by rw [len_tl, hF]
    have l1 : (1 : Int) ≤ (F.length : Int) := by omega
    have l2 : (F.length : Int) ≤ 7 := by omega
    have fz : F.length ≤ sizeLine := Nat.le_trans (by omega) sizeLine_big
    by_cases z : i = 0
    · have hs := h0 z
      have hF0 : F = "0" := ext_tl (by rw [hF, zero_tl, z]; exact numL_lt (by decide))
      subst hF0
      rw [hs] at hit hc ⊢
      simp [fnM, outFd, O.sq, O.kl, kill, sqO, klO, pkO, nilO, ifO, reO, rvO, rnO, exO, raO, setO, parO, tgO, forO, stO, putO, appO, extO, appM, popM, R.st, R.bind, R.opt, R.frz, PD.frz, frzS, pvS, evS, gvS, cS, pkS, rsS, fzE, opS, cmS, blS, biS, nlS, cnS, trS, ntS, nvS, neS, itS, tuS, liS, ixS, slS, isS, lrS, caS, ckS, dnS, yesS, tnS, tlN, tlC, ttS, andE, orE, andT, orT, chnE, chnK, lookP, lookPs, callE, strM, getE, partE, bo, blO, setFd, unfd, addD, subD, mulD, fdivD, modD, powD, leD, gtD, geD, cmpI, isnD, ninD, truthD, gInt, gLen, gStr, PD.gTup, gList, gMax, gMin, isi1, isi2, isiD, isiS, tyN, noScr, idxD, atI, ixN, List.getElem?_cons_zero, List.getElem?_cons_succ, List.set_cons_zero, List.set_cons_succ, List.cons_append, List.nil_append, List.length_cons, List.length_nil, List.replicate_succ, List.replicate_zero, Option.map_some, Option.map_none, Option.bind_some, Option.bind_none, Bool.false_eq_true, if_true, if_false, true_and, and_true, and_false, false_and, Option.isSome_some, Option.isSome_none, List.any_cons, List.any_nil, Bool.or_true, Bool.or_false, Bool.true_or, Bool.false_or, Bool.not_true, Bool.not_false, Bool.and_true, Bool.true_and, Bool.and_false, Bool.false_and, decide_true, decide_false, eq_self, reduceIte, reduceCtorEq, hit, lenD, fz, l1, l2, hc, eqD_str]
    · obtain ⟨d, r, e, h1, h2⟩ := numL_head i.natAbs (by omega)
      have hF0 : ¬ F = "0" := fun q => by
        have : tl F = [48] := by rw [q, zero_tl]
        rw [hF, e] at this
        injection this with q1 _
        omega
      have ix : idxD (.str F) (.int 0) = some (.str ⟨#[d]⟩) := by
        have e2 : F.cps.toList = d :: r := by rw [← e]; exact hF
        simp [idxD, fz, e2, atI, ixN]
      have nd : neD (.str ⟨#[d]⟩) (.str "0") = some true := by
        unfold neD
        rw [eqD_str]
        have : ¬ ((⟨#[d]⟩ : Str) = "0") := fun q => by
          have : [d] = [48] := by
            have := congrArg tl q
            rw [zero_tl] at this
            exact this
          injection this with q1 _
          omega
        rw [decide_eq_false this]; rfl
      simp [fnM, outFd, O.sq, O.kl, kill, sqO, klO, pkO, nilO, ifO, reO, rvO, rnO, exO, raO, setO, parO, tgO, forO, stO, putO, appO, extO, appM, popM, R.st, R.bind, R.opt, R.frz, PD.frz, frzS, pvS, evS, gvS, cS, pkS, rsS, fzE, opS, cmS, blS, biS, nlS, cnS, trS, ntS, nvS, neS, itS, tuS, liS, ixS, slS, isS, lrS, caS, ckS, dnS, yesS, tnS, tlN, tlC, ttS, andE, orE, andT, orT, chnE, chnK, lookP, lookPs, callE, strM, getE, partE, bo, blO, setFd, unfd, addD, subD, mulD, fdivD, modD, powD, leD, gtD, geD, cmpI, isnD, ninD, truthD, gInt, gLen, gStr, PD.gTup, gList, gMax, gMin, isi1, isi2, isiD, isiS, tyN, noScr, List.getElem?_cons_zero, List.getElem?_cons_succ, List.set_cons_zero, List.set_cons_succ, List.cons_append, List.nil_append, List.length_cons, List.length_nil, List.replicate_succ, List.replicate_zero, Option.map_some, Option.map_none, Option.bind_some, Option.bind_none, Bool.false_eq_true, if_true, if_false, true_and, and_true, and_false, false_and, Option.isSome_some, Option.isSome_none, List.any_cons, List.any_nil, Bool.or_true, Bool.or_false, Bool.true_or, Bool.false_or, Bool.not_true, Bool.not_false, Bool.and_true, Bool.true_and, Bool.and_false, Bool.false_and, decide_true, decide_false, eq_self, reduceIte, reduceCtorEq, hit, lenD, fz, l1, l2, hc, eqD_str, hF0, ix, nd]
  by_cases z : 0 ≤ i
  · have e := tl_pos z
    refine key (sI i) numChk e (fun z0 => ext_tl (by rw [e, zero_tl, z0]; exact numL_lt (by decide))) (numChk_ok e h) ?_
    have ne : ¬ (cutS (sI i) none (some 1) = "-") := fun q => by
      have q1 := congrArg tl q
      rw [tl_cut, dash_tl, show (some (1 : Int)) = some ((1 : Nat) : Int) from rfl, cutN_to, e] at q1
      cases hn : numL i.natAbs with
      | nil => rw [hn] at b; simp at b
      | cons d r =>
        rw [hn] at q1
        have hd := numL_digits i.natAbs d (by rw [hn]; simp)
        injection q1 with q2 _
        omega
    simp [fnM, outFd, O.sq, O.kl, kill, sqO, klO, pkO, nilO, ifO, reO, rvO, rnO, exO, raO, setO, parO, tgO, forO, stO, putO, appO, extO, appM, popM, R.st, R.bind, R.opt, R.frz, PD.frz, frzS, pvS, evS, gvS, cS, pkS, rsS, fzE, opS, cmS, blS, biS, nlS, cnS, trS, ntS, nvS, neS, itS, tuS, liS, ixS, slS, isS, lrS, caS, ckS, dnS, yesS, tnS, tlN, tlC, ttS, andE, orE, andT, orT, chnE, chnK, lookP, lookPs, callE, strM, getE, partE, bo, blO, setFd, unfd, addD, subD, mulD, fdivD, modD, powD, leD, gtD, geD, cmpI, neD, isnD, ninD, truthD, gInt, gLen, gStr, PD.gTup, gList, gMax, gMin, isi1, isi2, isiD, isiS, tyN, noScr, idxD, atI, ixN, List.getElem?_cons_zero, List.getElem?_cons_succ, List.set_cons_zero, List.set_cons_succ, List.cons_append, List.nil_append, List.length_cons, List.length_nil, List.replicate_succ, List.replicate_zero, Option.map_some, Option.map_none, Option.bind_some, Option.bind_none, Bool.false_eq_true, if_true, if_false, true_and, and_true, and_false, false_and, Option.isSome_some, Option.isSome_none, List.any_cons, List.any_nil, Bool.or_true, Bool.or_false, Bool.true_or, Bool.false_or, Bool.not_true, Bool.not_false, Bool.and_true, Bool.true_and, Bool.and_false, Bool.false_and, decide_true, decide_false, eq_self, reduceIte, reduceCtorEq, sliD, hz, eqD_str, ne]
  · have e := tl_neg (i := i) (by omega)
    refine key (cutS (sI i) (some 1) none) numChk ?_ (fun z0 => by omega) (numChk_ok ?_ h) ?_
    · rw [tl_cut, show (some (1 : Int)) = some ((1 : Nat) : Int) from rfl, cutN_from, e]; rfl
    · rw [tl_cut, show (some (1 : Int)) = some ((1 : Nat) : Int) from rfl, cutN_from, e]; rfl
    · have eq : cutS (sI i) none (some 1) = "-" := ext_tl (by rw [tl_cut, show (some (1 : Int)) = some ((1 : Nat) : Int) from rfl, cutN_to, e, dash_tl]; rfl)
      simp [fnM, outFd, O.sq, O.kl, kill, sqO, klO, pkO, nilO, ifO, reO, rvO, rnO, exO, raO, setO, parO, tgO, forO, stO, putO, appO, extO, appM, popM, R.st, R.bind, R.opt, R.frz, PD.frz, frzS, pvS, evS, gvS, cS, pkS, rsS, fzE, opS, cmS, blS, biS, nlS, cnS, trS, ntS, nvS, neS, itS, tuS, liS, ixS, slS, isS, lrS, caS, ckS, dnS, yesS, tnS, tlN, tlC, ttS, andE, orE, andT, orT, chnE, chnK, lookP, lookPs, callE, strM, getE, partE, bo, blO, setFd, unfd, addD, subD, mulD, fdivD, modD, powD, leD, gtD, geD, cmpI, neD, isnD, ninD, truthD, gInt, gLen, gStr, PD.gTup, gList, gMax, gMin, isi1, isi2, isiD, isiS, tyN, noScr, idxD, atI, ixN, List.getElem?_cons_zero, List.getElem?_cons_succ, List.set_cons_zero, List.set_cons_succ, List.cons_append, List.nil_append, List.length_cons, List.length_nil, List.replicate_succ, List.replicate_zero, Option.map_some, Option.map_none, Option.bind_some, Option.bind_none, Bool.false_eq_true, if_true, if_false, true_and, and_true, and_false, false_and, Option.isSome_some, Option.isSome_none, List.any_cons, List.any_nil, Bool.or_true, Bool.or_false, Bool.true_or, Bool.false_or, Bool.not_true, Bool.not_false, Bool.and_true, Bool.true_and, Bool.and_false, Bool.false_and, decide_true, decide_false, eq_self, reduceIte, reduceCtorEq, sliD, hz, eqD_str, eq]
end K73

namespace K73
open PySem PySem.Spec PyProof.Rows L2 PD TL
def hdW (n : Int) : List Str := ["events", sI n]
def wtW (w : Wt) : List Str := ["wait", sI w.1, sI w.2.1, sI w.2.2]
def wkW (k : Wk) : List Str := ["work", sI k.1, sI k.2]
def lnW (n : Int) (ws : List Wt) (ks : List Wk) : List (List Str) := hdW n :: (ws.map wtW ++ ks.map wkW)
def lineS (l : List Str) : Str := Txt.join " " l
def textS (n : Int) (ws : List Wt) (ks : List Wk) : Str := Txt.join "\n" ((lnW n ws ks).map lineS)
/-- small numbers -/
structure Sm (n : Int) (ws : List Wt) (ks : List Wk) : Prop where
  n : n.natAbs < 10000000
  w : ∀ w ∈ ws, w.1.natAbs < 10000000 ∧ w.2.1.natAbs < 10000000 ∧ w.2.2.natAbs < 10000000
  k : ∀ k ∈ ks, k.1.natAbs < 10000000 ∧ k.2.natAbs < 10000000
  wl : ws.length ≤ 300
  kl : ks.length ≤ 40
theorem PlanOk.sm {n : Int} {ws : List Wt} {ks : List Wk} (P : PlanOk n ws ks) : Sm n ws ks where
  n := by have := P.n1; have := P.n2; omega
  w := fun w hw => by obtain ⟨a, b, c, d, e, f, g⟩ := P.w w hw; have := P.n2; omega
  k := fun w hw => by obtain ⟨a, b, c, d, e⟩ := P.k w hw; have := P.n2; omega
  wl := P.wl
  kl := P.kl
theorem sp_len : (" " : Str).length = 1 := by decide +kernel
theorem nl_len : ("\n" : Str).length = 1 := by decide +kernel
theorem line_len (l : List Str) : (lineS l).length ≤ (l.map (·.length)).sum + l.length := by
  have := StrLaws.join_length_le " " l
  rw [sp_len, Nat.mul_one] at this
  unfold lineS
  rw [join_eq]
  exact this
theorem ev_len : ("events" : Str).length = 6 := by decide +kernel
theorem wt_len : ("wait" : Str).length = 4 := by decide +kernel
theorem wk_len : ("work" : Str).length = 4 := by decide +kernel
theorem hd_line {n : Int} (h : n.natAbs < 10000000) : (lineS (hdW n)).length ≤ 40 := by
  have := line_len (hdW n)
  have := sI_len h
  simp [hdW, ev_len] at *; omega
theorem wt_line {w : Wt} (h : w.1.natAbs < 10000000 ∧ w.2.1.natAbs < 10000000 ∧ w.2.2.natAbs < 10000000) : (lineS (wtW w)).length ≤ 40 := by
  have := line_len (wtW w)
  have := sI_len h.1
  have := sI_len h.2.1
  have := sI_len h.2.2
  simp [wtW, wt_len] at *; omega
theorem wk_line {w : Wk} (h : w.1.natAbs < 10000000 ∧ w.2.natAbs < 10000000) : (lineS (wkW w)).length ≤ 40 := by
  have := line_len (wkW w)
  have := sI_len h.1
  have := sI_len h.2
  simp [wkW, wk_len] at *; omega
theorem sum_le {ls : List Str} (h : ∀ l ∈ ls, l.length ≤ 40) : (ls.map (·.length)).sum ≤ ls.length * 40 := by
  induction ls with
  | nil => simp
  | cons l ls ih =>
    have h1 := h l (by simp)
    have h2 := ih fun x hx => h x (by simp [hx])
    simp only [List.map_cons, List.sum_cons, List.length_cons]; omega
theorem lines_le {n : Int} {ws : List Wt} {ks : List Wk} (S : Sm n ws ks) : ∀ l ∈ (lnW n ws ks).map lineS, l.length ≤ 40 := by
  intro l hl
  obtain ⟨x, hx, rfl⟩ := List.mem_map.mp hl
  unfold lnW at hx
  rcases List.mem_cons.mp hx with rfl | hx
  · exact hd_line S.n
  · rcases List.mem_append.mp hx with hx | hx
    · obtain ⟨w, hw, rfl⟩ := List.mem_map.mp hx; exact wt_line (S.w w hw)
    · obtain ⟨w, hw, rfl⟩ := List.mem_map.mp hx; exact wk_line (S.k w hw)
theorem ln_count {n : Int} {ws : List Wt} {ks : List Wk} (S : Sm n ws ks) : (lnW n ws ks).length ≤ 341 := by
  have := S.wl; have := S.kl
  simp [lnW]; omega
theorem text_len {n : Int} {ws : List Wt} {ks : List Wk} (S : Sm n ws ks) : (textS n ws ks).length ≤ 20000 := by
  have h1 := StrLaws.join_length_le "\n" ((lnW n ws ks).map lineS)
  have h2 := sum_le (lines_le S)
  have h3 := ln_count S
  rw [nl_len, Nat.mul_one] at h1
  unfold textS
  rw [join_eq]
  rw [List.length_map] at h1 h2
  omega
theorem strs_map (l : List Str) : PD.strs? (l.map PyData.str) = some l := by
  induction l with
  | nil => rfl
  | cons x l ih => simp [PD.strs?, ih]
theorem joinD_ok {sep : Str} {l : List Str} (h : ∀ x ∈ l, x.length ≤ 40) (hl : l.length ≤ 1000) (hs : sep.length = 1) : joinD sep (.list (l.map .str)) = some (.val (.str (Txt.join sep l))) := by
  have := sum_le h
  have h2 : (l.map (·.length)).sum + l.length * sep.length ≤ 16777216 := by rw [hs]; omega
  simp only [joinD, strs_map, Option.bind_some, h2, if_true]
/-! the lines of _law_text -/
def hdP (n : Int) : D := .list [.str "events", .int n]
def wtP (w : Wt) : D := .list [.str "wait", .int w.1, .int w.2.1, .int w.2.2]
def wkP (w : Wk) : D := .list [.str "work", .int w.1, .int w.2]
theorem word_len {i : Int} (h : i.natAbs < 10000000) : (sI i).length ≤ 40 := Nat.le_trans (sI_len h) (by decide)
theorem gStr_s (s : Str) : gStr [.str s] = some (.val (.str s)) := rfl
abbrev lineE : Fe D := fzE (strM joinD (pkS (cS (.str " "))) (pkS (fzE (lcE [5] (seqE (pvS 4)) (tnS 5) yesS (fzE (biS gStr (cnS (pvS 5) nlS)))))))
theorem line_hd {n : Int} (h : n.natAbs < 10000000) (s1 : Sl) : lineE [.no, s1, .no, .no, .val (hdP n), .no] none = .ok (.str (lineS (hdW n))) none := by
  have e := gStr_sI h
  have j := joinD_ok (sep := " ") (l := hdW n) (fun x hx => by
    rcases List.mem_cons.mp hx with rfl | hx
    · rw [ev_len]; decide
    · rcases List.mem_cons.mp hx with rfl | hx
      · exact word_len h
      · cases hx) (by simp [hdW]) sp_len
  simp [hdW] at j
  simp [lineE, fnM, outFd, O.sq, O.kl, kill, sqO, klO, pkO, nilO, ifO, reO, rvO, rnO, exO, raO, setO, parO, tgO, forO, stO, putO, appO, extO, appM, popM, R.st, R.bind, R.opt, R.frz, PD.frz, frzS, pvS, evS, gvS, cS, pkS, rsS, fzE, opS, cmS, blS, biS, nlS, cnS, trS, ntS, nvS, neS, itS, tuS, liS, ixS, slS, isS, lrS, caS, ckS, dnS, yesS, tnS, tlN, tlC, ttS, andE, orE, andT, orT, chnE, chnK, lookP, lookPs, callE, strM, getE, partE, bo, blO, setFd, unfd, addD, subD, mulD, fdivD, modD, powD, leD, gtD, geD, cmpI, neD, isnD, ninD, truthD, gInt, gLen, PD.gTup, gList, gMax, gMin, isi1, isi2, isiD, isiS, tyN, noScr, idxD, atI, ixN, List.getElem?_cons_zero, List.getElem?_cons_succ, List.set_cons_zero, List.set_cons_succ, List.cons_append, List.nil_append, List.length_cons, List.length_nil, List.replicate_succ, List.replicate_zero, Option.map_some, Option.map_none, Option.bind_some, Option.bind_none, Bool.false_eq_true, if_true, if_false, true_and, and_true, and_false, false_and, Option.isSome_some, Option.isSome_none, List.any_cons, List.any_nil, Bool.or_true, Bool.or_false, Bool.true_or, Bool.false_or, Bool.not_true, Bool.not_false, Bool.and_true, Bool.true_and, Bool.and_false, Bool.false_and, decide_true, decide_false, eq_self, reduceIte, reduceCtorEq, lcE, seqE, itemsD, notFd, fzP, wipeS, lcGo, hdP, gStr_s, e, sizeLine_eq, j, lineS, hdW]
theorem line_wt {w : Wt} (h : w.1.natAbs < 10000000 ∧ w.2.1.natAbs < 10000000 ∧ w.2.2.natAbs < 10000000) (s1 : Sl) : lineE [.no, s1, .no, .no, .val (wtP w), .no] none = .ok (.str (lineS (wtW w))) none := by
  have e1 := gStr_sI h.1
  have e2 := gStr_sI h.2.1
  have e3 := gStr_sI h.2.2
  have j := joinD_ok (sep := " ") (l := wtW w) (fun x hx => by
    simp only [wtW, List.mem_cons, List.not_mem_nil, or_false] at hx
    rcases hx with rfl | rfl | rfl | rfl
    · rw [wt_len]; decide
    · exact word_len h.1
    · exact word_len h.2.1
    · exact word_len h.2.2) (by simp [wtW]) sp_len
  simp [wtW] at j
  simp [lineE, fnM, outFd, O.sq, O.kl, kill, sqO, klO, pkO, nilO, ifO, reO, rvO, rnO, exO, raO, setO, parO, tgO, forO, stO, putO, appO, extO, appM, popM, R.st, R.bind, R.opt, R.frz, PD.frz, frzS, pvS, evS, gvS, cS, pkS, rsS, fzE, opS, cmS, blS, biS, nlS, cnS, trS, ntS, nvS, neS, itS, tuS, liS, ixS, slS, isS, lrS, caS, ckS, dnS, yesS, tnS, tlN, tlC, ttS, andE, orE, andT, orT, chnE, chnK, lookP, lookPs, callE, strM, getE, partE, bo, blO, setFd, unfd, addD, subD, mulD, fdivD, modD, powD, leD, gtD, geD, cmpI, neD, isnD, ninD, truthD, gInt, gLen, PD.gTup, gList, gMax, gMin, isi1, isi2, isiD, isiS, tyN, noScr, idxD, atI, ixN, List.getElem?_cons_zero, List.getElem?_cons_succ, List.set_cons_zero, List.set_cons_succ, List.cons_append, List.nil_append, List.length_cons, List.length_nil, List.replicate_succ, List.replicate_zero, Option.map_some, Option.map_none, Option.bind_some, Option.bind_none, Bool.false_eq_true, if_true, if_false, true_and, and_true, and_false, false_and, Option.isSome_some, Option.isSome_none, List.any_cons, List.any_nil, Bool.or_true, Bool.or_false, Bool.true_or, Bool.false_or, Bool.not_true, Bool.not_false, Bool.and_true, Bool.true_and, Bool.and_false, Bool.false_and, decide_true, decide_false, eq_self, reduceIte, reduceCtorEq, lcE, seqE, itemsD, notFd, fzP, wipeS, lcGo, wtP, gStr_s, e1, e2, e3, sizeLine_eq, j, lineS, wtW]
theorem line_wk {w : Wk} (h : w.1.natAbs < 10000000 ∧ w.2.natAbs < 10000000) (s1 : Sl) : lineE [.no, s1, .no, .no, .val (wkP w), .no] none = .ok (.str (lineS (wkW w))) none := by
  have e1 := gStr_sI h.1
  have e2 := gStr_sI h.2
  have j := joinD_ok (sep := " ") (l := wkW w) (fun x hx => by
    simp only [wkW, List.mem_cons, List.not_mem_nil, or_false] at hx
    rcases hx with rfl | rfl | rfl
    · rw [wk_len]; decide
    · exact word_len h.1
    · exact word_len h.2) (by simp [wkW]) sp_len
  simp [wkW] at j
  simp [lineE, fnM, outFd, O.sq, O.kl, kill, sqO, klO, pkO, nilO, ifO, reO, rvO, rnO, exO, raO, setO, parO, tgO, forO, stO, putO, appO, extO, appM, popM, R.st, R.bind, R.opt, R.frz, PD.frz, frzS, pvS, evS, gvS, cS, pkS, rsS, fzE, opS, cmS, blS, biS, nlS, cnS, trS, ntS, nvS, neS, itS, tuS, liS, ixS, slS, isS, lrS, caS, ckS, dnS, yesS, tnS, tlN, tlC, ttS, andE, orE, andT, orT, chnE, chnK, lookP, lookPs, callE, strM, getE, partE, bo, blO, setFd, unfd, addD, subD, mulD, fdivD, modD, powD, leD, gtD, geD, cmpI, neD, isnD, ninD, truthD, gInt, gLen, PD.gTup, gList, gMax, gMin, isi1, isi2, isiD, isiS, tyN, noScr, idxD, atI, ixN, List.getElem?_cons_zero, List.getElem?_cons_succ, List.set_cons_zero, List.set_cons_succ, List.cons_append, List.nil_append, List.length_cons, List.length_nil, List.replicate_succ, List.replicate_zero, Option.map_some, Option.map_none, Option.bind_some, Option.bind_none, Bool.false_eq_true, if_true, if_false, true_and, and_true, and_false, false_and, Option.isSome_some, Option.isSome_none, List.any_cons, List.any_nil, Bool.or_true, Bool.or_false, Bool.true_or, Bool.false_or, Bool.not_true, Bool.not_false, Bool.and_true, Bool.true_and, Bool.and_false, Bool.false_and, decide_true, decide_false, eq_self, reduceIte, reduceCtorEq, lcE, seqE, itemsD, notFd, fzP, wipeS, lcGo, wkP, gStr_s, e1, e2, sizeLine_eq, j, lineS, wkW]
/-- a filter that keeps all, the values given by another list -/
theorem lcGo_rel {α : Type} {ft : D → List Sl → Option (List Sl)} {fT : Fe Bool} {fE : Fe D} {sl : List Sl} {fd : Fd} (f : α → D) (g : α → D) :
    ∀ xs : List α, (∀ x ∈ xs, ∃ sl1, ft (f x) sl = some sl1 ∧ fT sl1 fd = .ok true fd ∧ fE sl1 fd = .ok (g x) fd) → lcGo ft fT fE sl (xs.map f) fd = .ok (xs.map g) fd
  | [], _ => rfl
  | x :: xs, h => by
    obtain ⟨sl1, e1, e2, e3⟩ := h x (by simp)
    have ih := lcGo_rel f g xs fun y hy => h y (by simp [hy])
    rw [List.map_cons]
    unfold lcGo
    simp [e1, e2, e3, ih, R.bind]
theorem lcGo_app {ft : D → List Sl → Option (List Sl)} {fT : Fe Bool} {fE : Fe D} {sl : List Sl} {fd : Fd} : ∀ (xs ys us vs : List D), lcGo ft fT fE sl xs fd = .ok us fd → (∀ x ∈ xs, ∃ sl1 b, ft x sl = some sl1 ∧ fT sl1 fd = .ok b fd ∧ (b = true → ∃ y, fE sl1 fd = .ok y fd)) → lcGo ft fT fE sl ys fd = .ok vs fd → lcGo ft fT fE sl (xs ++ ys) fd = .ok (us ++ vs) fd
  | [], ys, us, vs, h, _, h2 => by
    unfold lcGo at h
    injection h with h
    subst h
    exact h2
  | x :: xs, ys, us, vs, h, hx, h2 => by
    obtain ⟨sl1, b, e1, e2, e3⟩ := hx x (by simp)
    unfold lcGo at h
    simp only [e1, e2] at h
    rw [List.cons_append]
    unfold lcGo
    simp only [e1, e2]
    cases b with
    | false =>
      simp only [Bool.false_eq_true, if_false] at h ⊢
      exact lcGo_app xs ys us vs h (fun z hz => hx z (by simp [hz])) h2
    | true =>
      obtain ⟨y, e3⟩ := e3 rfl
      simp only [if_true, e3] at h ⊢
      cases q : lcGo ft fT fE sl xs fd with
      | bad => rw [q] at h; cases h
      | exc c f => rw [q] at h; cases h
      | ok zs f =>
        rw [q] at h
        simp only [R.bind] at h
        injection h with h1 h3
        subst h1; subst h3
        have := lcGo_app xs ys zs vs q (fun z hz => hx z (by simp [hz])) h2
        rw [this]
        simp [R.bind]
def linesP (n : Int) (ws : List Wt) (ks : List Wk) : List D := hdP n :: (ws.map wtP ++ ks.map wkP)
theorem linesP_go {n : Int} {ws : List Wt} {ks : List Wk} (S : Sm n ws ks) (s1 : Sl) : lcGo (tnS 4) yesS lineE [.no, s1, .no, .no, .no, .no] (linesP n ws ks) none = .ok ((lnW n ws ks).map fun l => .str (lineS l)) none := by
  have g1 := lcGo_rel (ft := tnS 4) (fT := yesS) (fE := lineE) (sl := [.no, s1, .no, .no, .no, .no]) (fd := none) (fun _ : Unit => hdP n) (fun _ => .str (lineS (hdW n))) [()] (fun _ _ => ⟨_, rfl, rfl, line_hd S.n s1⟩)
  have h2 : ∀ w ∈ ws, ∃ sl1, tnS 4 (wtP w) [.no, s1, .no, .no, .no, .no] = some sl1 ∧ yesS sl1 none = .ok true none ∧ lineE sl1 none = .ok (.str (lineS (wtW w))) none := fun w hw => ⟨_, rfl, rfl, line_wt (S.w w hw) s1⟩
  have g2 := lcGo_rel wtP (fun w => .str (lineS (wtW w))) ws h2
  have h3 : ∀ w ∈ ks, ∃ sl1, tnS 4 (wkP w) [.no, s1, .no, .no, .no, .no] = some sl1 ∧ yesS sl1 none = .ok true none ∧ lineE sl1 none = .ok (.str (lineS (wkW w))) none := fun w hw => ⟨_, rfl, rfl, line_wk (S.k w hw) s1⟩
  have g3 := lcGo_rel wkP (fun w => .str (lineS (wkW w))) ks h3
  have g23 := lcGo_app _ _ _ _ g2 (fun x hx => by
    obtain ⟨w, hw, rfl⟩ := List.mem_map.mp hx
    obtain ⟨sl1, a, b, c⟩ := h2 w hw
    exact ⟨sl1, true, a, b, fun _ => ⟨_, c⟩⟩) g3
  have g123 := lcGo_app _ _ _ _ g1 (fun x hx => by
    obtain ⟨w, hw, rfl⟩ := List.mem_map.mp hx
    exact ⟨_, true, rfl, rfl, fun _ => ⟨_, line_hd S.n s1⟩⟩) g23
  have e : (lnW n ws ks).map (fun l => PyData.str (lineS l)) = [()].map (fun _ => PyData.str (lineS (hdW n))) ++ (ws.map (fun w => .str (lineS (wtW w))) ++ ks.map fun w => .str (lineS (wkW w))) := by
    simp [lnW, List.map_map, Function.comp_def]
  rw [e]
  exact g123
theorem lawtext_ok {n : Int} {ws : List Wt} {ks : List Wk} (S : Sm n ws ks) : m_law_text [.val (planD n ws ks)] none = .ok (.val (.str (textS n ws ks))) none := by
  have wl := S.wl
  have kl := S.kl
  have g2 := lcGo_rel (ft := tnS 2) (fT := yesS) (fE := fzE (opS addD (pkS (fzE (liS (cnS (cS (.str "wait")) nlS)))) (pkS (fzE (biS gList (cnS (pvS 2) nlS)))))) (sl := [.val (planD n ws ks), .no, .no, .no, .no, .no]) (fd := none) wD wtP ws (fun w hw => ⟨_, rfl, rfl, by simp [fnM, outFd, O.sq, O.kl, kill, sqO, klO, pkO, nilO, ifO, reO, rvO, rnO, exO, raO, setO, parO, tgO, forO, stO, putO, appO, extO, appM, popM, R.st, R.bind, R.opt, R.frz, PD.frz, frzS, pvS, evS, gvS, cS, pkS, rsS, fzE, opS, cmS, blS, biS, nlS, cnS, trS, ntS, nvS, neS, itS, tuS, liS, ixS, slS, isS, lrS, caS, ckS, dnS, yesS, tnS, tlN, tlC, ttS, andE, orE, andT, orT, chnE, chnK, lookP, lookPs, callE, strM, getE, partE, bo, blO, setFd, unfd, addD, subD, mulD, fdivD, modD, powD, leD, gtD, geD, cmpI, neD, isnD, ninD, truthD, gInt, gLen, gStr, PD.gTup, gList, gMax, gMin, isi1, isi2, isiD, isiS, tyN, noScr, idxD, atI, ixN, List.getElem?_cons_zero, List.getElem?_cons_succ, List.set_cons_zero, List.set_cons_succ, List.cons_append, List.nil_append, List.length_cons, List.length_nil, List.replicate_succ, List.replicate_zero, Option.map_some, Option.map_none, Option.bind_some, Option.bind_none, Bool.false_eq_true, if_true, if_false, true_and, and_true, and_false, false_and, Option.isSome_some, Option.isSome_none, List.any_cons, List.any_nil, Bool.or_true, Bool.or_false, Bool.true_or, Bool.false_or, Bool.not_true, Bool.not_false, Bool.and_true, Bool.true_and, Bool.and_false, Bool.false_and, decide_true, decide_false, eq_self, reduceIte, reduceCtorEq, wD, wtP, sizeLine_eq]⟩)
  have c2 := lcE_ok (own := [2]) (fi := seqE (pkS (fzE (ixS (pvS 0) (pkS (cS (.int 1))))))) (sl := [.val (planD n ws ks), .no, .no, .no, .no, .no]) (fd := none) (fd1 := none) (fz := true) (items := ws.map wD) rfl (by rw [List.length_map]; omega) g2
  have g3 := lcGo_rel (ft := tnS 3) (fT := yesS) (fE := fzE (opS addD (pkS (fzE (liS (cnS (cS (.str "work")) nlS)))) (pkS (fzE (biS gList (cnS (pvS 3) nlS)))))) (sl := [.val (planD n ws ks), .no, .no, .no, .no, .no]) (fd := none) kkD wkP ks (fun w hw => ⟨_, rfl, rfl, by simp [fnM, outFd, O.sq, O.kl, kill, sqO, klO, pkO, nilO, ifO, reO, rvO, rnO, exO, raO, setO, parO, tgO, forO, stO, putO, appO, extO, appM, popM, R.st, R.bind, R.opt, R.frz, PD.frz, frzS, pvS, evS, gvS, cS, pkS, rsS, fzE, opS, cmS, blS, biS, nlS, cnS, trS, ntS, nvS, neS, itS, tuS, liS, ixS, slS, isS, lrS, caS, ckS, dnS, yesS, tnS, tlN, tlC, ttS, andE, orE, andT, orT, chnE, chnK, lookP, lookPs, callE, strM, getE, partE, bo, blO, setFd, unfd, addD, subD, mulD, fdivD, modD, powD, leD, gtD, geD, cmpI, neD, isnD, ninD, truthD, gInt, gLen, gStr, PD.gTup, gList, gMax, gMin, isi1, isi2, isiD, isiS, tyN, noScr, idxD, atI, ixN, List.getElem?_cons_zero, List.getElem?_cons_succ, List.set_cons_zero, List.set_cons_succ, List.cons_append, List.nil_append, List.length_cons, List.length_nil, List.replicate_succ, List.replicate_zero, Option.map_some, Option.map_none, Option.bind_some, Option.bind_none, Bool.false_eq_true, if_true, if_false, true_and, and_true, and_false, false_and, Option.isSome_some, Option.isSome_none, List.any_cons, List.any_nil, Bool.or_true, Bool.or_false, Bool.true_or, Bool.false_or, Bool.not_true, Bool.not_false, Bool.and_true, Bool.true_and, Bool.and_false, Bool.false_and, decide_true, decide_false, eq_self, reduceIte, reduceCtorEq, kkD, wkP, sizeLine_eq]⟩)
  have c3 := lcE_ok (own := [3]) (fi := seqE (pkS (fzE (ixS (pvS 0) (pkS (cS (.int 2))))))) (sl := [.val (planD n ws ks), .no, .no, .no, .no, .no]) (fd := none) (fd1 := none) (fz := true) (items := ks.map kkD) rfl (by rw [List.length_map]; omega) g3
  have go := linesP_go S (.val (.list (linesP n ws ks)))
  have hl : (linesP n ws ks).length ≤ 341 := by simp [linesP]; omega
  have c4 := lcE_ok (own := [4]) (fi := seqE (pvS 1)) (sl := [.no, .val (.list (linesP n ws ks)), .no, .no, .no, .no]) (fd := none) (fd1 := none) (fz := true) (items := linesP n ws ks) rfl (by omega) go
  have j := joinD_ok (sep := "\n") (l := (lnW n ws ks).map lineS) (lines_le S) (by rw [List.length_map]; have := ln_count S; omega) nl_len
  rw [List.map_map] at j
  have z1 : 1 + (ws.map wtP).length ≤ sizeLine := Nat.le_trans (by rw [List.length_map]; omega) sizeLine_big
  have z2 : 1 + (ws.map wtP).length + (ks.map wkP).length ≤ sizeLine := Nat.le_trans (by rw [List.length_map, List.length_map]; omega) sizeLine_big
  have ix0 : idxD (planD n ws ks) (.int 0) = some (.int n) := rfl
  have z0 : (1 : Nat) ≤ sizeLine := Nat.le_trans (by decide) sizeLine_big
  have z3 : (2 : Nat) ≤ sizeLine := Nat.le_trans (by decide) sizeLine_big
  unfold linesP hdP at c4
  unfold lineE at c4
  simp at z1 z2
  have e : (List.map (PyData.str ∘ lineS) (lnW n ws ks)) = (lnW n ws ks).map fun l => .str (lineS l) := rfl
  rw [e] at j
  have z4 : ws.length + 1 + ks.length ≤ sizeLine := Nat.le_trans (by omega) sizeLine_big
  simp [m_law_text, b__law_text, fnM, outFd, O.sq, O.kl, kill, sqO, klO, pkO, nilO, ifO, reO, rvO, rnO, exO, raO, setO, parO, tgO, forO, stO, putO, appO, extO, appM, popM, R.st, R.bind, R.opt, R.frz, PD.frz, frzS, pvS, evS, gvS, cS, pkS, rsS, fzE, opS, cmS, blS, biS, nlS, cnS, trS, ntS, nvS, neS, itS, tuS, liS, ixS, slS, isS, lrS, caS, ckS, dnS, yesS, tnS, tlN, tlC, ttS, andE, orE, andT, orT, chnE, chnK, lookP, lookPs, callE, strM, getE, partE, bo, blO, setFd, unfd, addD, subD, mulD, fdivD, modD, powD, leD, gtD, geD, cmpI, isnD, ninD, truthD, gInt, gLen, gStr, PD.gTup, gList, gMax, gMin, isi1, isi2, isiD, isiS, tyN, noScr, List.getElem?_cons_zero, List.getElem?_cons_succ, List.set_cons_zero, List.set_cons_succ, List.cons_append, List.nil_append, List.length_cons, List.length_nil, List.replicate_succ, List.replicate_zero, Option.map_some, Option.map_none, Option.bind_some, Option.bind_none, Bool.false_eq_true, if_true, if_false, true_and, and_true, and_false, false_and, Option.isSome_some, Option.isSome_none, List.any_cons, List.any_nil, Bool.or_true, Bool.or_false, Bool.true_or, Bool.false_or, Bool.not_true, Bool.not_false, Bool.and_true, Bool.true_and, Bool.and_false, Bool.false_and, decide_true, decide_false, eq_self, reduceIte, reduceCtorEq, c2, c3, ix0, z0, z1, z2, z3, z4, c4, j, textS]
end K73

namespace K73
open PySem PySem.Spec PyProof.Rows L2 PD TL
theorem addD_s {s t : Str} (h : s.length + t.length ≤ 100000) : addD (.str s) (.str t) = some (.val (.str (s ++ t))) := by
  have : s.length + t.length ≤ sizeLine := Nat.le_trans (by omega) sizeLine_big
  simp [addD, this]
theorem wait_len : ("wait " : Str).length = 5 := by decide +kernel
theorem work_len : ("work " : Str).length = 5 := by decide +kernel
theorem events_len : ("events " : Str).length = 7 := by decide +kernel
theorem app_len (s t : Str) : (s ++ t).length = s.length + t.length := Str.length_append ..
theorem tl_wait : tl ("wait " : Str) = tl ("wait" : Str) ++ tl (" " : Str) := by decide +kernel
theorem tl_work : tl ("work " : Str) = tl ("work" : Str) ++ tl (" " : Str) := by decide +kernel
theorem tl_events : tl ("events " : Str) = tl ("events" : Str) ++ tl (" " : Str) := by decide +kernel
theorem eq_hd (n : Int) : ("events " : Str) ++ sI n = lineS (hdW n) := by
  refine ext_tl ?_
  unfold lineS hdW
  rw [join_eq, tl_join, tl_append, tl_events]
  simp [joinL]
theorem eq_wt (w : Wt) : ("wait " : Str) ++ sI w.1 ++ " " ++ sI w.2.1 ++ " " ++ sI w.2.2 = lineS (wtW w) := by
  refine ext_tl ?_
  unfold lineS wtW
  rw [join_eq, tl_join]
  simp only [tl_append, tl_wait]
  simp [joinL]
theorem eq_wk (w : Wk) : ("work " : Str) ++ sI w.1 ++ " " ++ sI w.2 = lineS (wkW w) := by
  refine ext_tl ?_
  unfold lineS wkW
  rw [join_eq, tl_join]
  simp only [tl_append, tl_work]
  simp [joinL]
abbrev waitE : Fe D := fzE (opS addD (pkS (fzE (opS addD (pkS (fzE (opS addD (pkS (fzE (opS addD (pkS (fzE (opS addD (pkS (cS (.str "wait "))) (pkS (fzE (biS gStr (cnS (pvS 2) nlS))))))) (pkS (cS (.str " ")))))) (pkS (fzE (biS gStr (cnS (pvS 3) nlS))))))) (pkS (cS (.str " ")))))) (pkS (fzE (biS gStr (cnS (pvS 4) nlS)))))
abbrev workE : Fe D := fzE (opS addD (pkS (fzE (opS addD (pkS (fzE (opS addD (pkS (cS (.str "work "))) (pkS (fzE (biS gStr (cnS (pvS 5) nlS))))))) (pkS (cS (.str " ")))))) (pkS (fzE (biS gStr (cnS (pvS 6) nlS)))))
theorem waitE_ok {w : Wt} (h : w.1.natAbs < 10000000 ∧ w.2.1.natAbs < 10000000 ∧ w.2.2.natAbs < 10000000) (a b : Sl) : waitE [a, b, .val (.int w.1), .val (.int w.2.1), .val (.int w.2.2), .no, .no] none = .ok (.str (lineS (wtW w))) none := by
  have e1 := gStr_sI h.1
  have e2 := gStr_sI h.2.1
  have e3 := gStr_sI h.2.2
  have l1 := sI_len h.1
  have l2 := sI_len h.2.1
  have l3 := sI_len h.2.2
  have a1 := addD_s (s := "wait ") (t := sI w.1) (by rw [wait_len]; omega)
  have a2 := addD_s (s := "wait " ++ sI w.1) (t := " ") (by rw [app_len, wait_len, sp_len]; omega)
  have a3 := addD_s (s := "wait " ++ sI w.1 ++ " ") (t := sI w.2.1) (by rw [app_len, app_len, wait_len, sp_len]; omega)
  have a4 := addD_s (s := "wait " ++ sI w.1 ++ " " ++ sI w.2.1) (t := " ") (by rw [app_len, app_len, app_len, wait_len, sp_len]; omega)
  have a5 := addD_s (s := "wait " ++ sI w.1 ++ " " ++ sI w.2.1 ++ " ") (t := sI w.2.2) (by rw [app_len, app_len, app_len, app_len, wait_len, sp_len]; omega)
  rw [eq_wt] at a5
  simp [waitE, fnM, outFd, O.sq, O.kl, kill, sqO, klO, pkO, nilO, ifO, reO, rvO, rnO, exO, raO, setO, parO, tgO, forO, stO, putO, appO, extO, appM, popM, R.st, R.bind, R.opt, R.frz, PD.frz, frzS, pvS, evS, gvS, cS, pkS, rsS, fzE, opS, cmS, blS, biS, nlS, cnS, trS, ntS, nvS, neS, itS, tuS, liS, ixS, slS, isS, lrS, caS, ckS, dnS, yesS, tnS, tlN, tlC, ttS, andE, orE, andT, orT, chnE, chnK, lookP, lookPs, callE, strM, getE, partE, bo, blO, setFd, unfd, subD, mulD, fdivD, modD, powD, leD, gtD, geD, cmpI, neD, isnD, ninD, truthD, gInt, gLen, PD.gTup, gList, gMax, gMin, isi1, isi2, isiD, isiS, tyN, noScr, idxD, atI, ixN, List.getElem?_cons_zero, List.getElem?_cons_succ, List.set_cons_zero, List.set_cons_succ, List.cons_append, List.nil_append, List.length_cons, List.length_nil, List.replicate_succ, List.replicate_zero, Option.map_some, Option.map_none, Option.bind_some, Option.bind_none, Bool.false_eq_true, if_true, if_false, true_and, and_true, and_false, false_and, Option.isSome_some, Option.isSome_none, List.any_cons, List.any_nil, Bool.or_true, Bool.or_false, Bool.true_or, Bool.false_or, Bool.not_true, Bool.not_false, Bool.and_true, Bool.true_and, Bool.and_false, Bool.false_and, decide_true, decide_false, eq_self, reduceIte, reduceCtorEq, e1, e2, e3, a1, a2, a3, a4, a5]
theorem workE_ok {w : Wk} (h : w.1.natAbs < 10000000 ∧ w.2.natAbs < 10000000) (a b : Sl) : workE [a, b, .no, .no, .no, .val (.int w.1), .val (.int w.2)] none = .ok (.str (lineS (wkW w))) none := by
  have e1 := gStr_sI h.1
  have e2 := gStr_sI h.2
  have l1 := sI_len h.1
  have l2 := sI_len h.2
  have a1 := addD_s (s := "work ") (t := sI w.1) (by rw [work_len]; omega)
  have a2 := addD_s (s := "work " ++ sI w.1) (t := " ") (by rw [app_len, work_len, sp_len]; omega)
  have a3 := addD_s (s := "work " ++ sI w.1 ++ " ") (t := sI w.2) (by rw [app_len, app_len, work_len, sp_len]; omega)
  rw [eq_wk] at a3
  simp [workE, fnM, outFd, O.sq, O.kl, kill, sqO, klO, pkO, nilO, ifO, reO, rvO, rnO, exO, raO, setO, parO, tgO, forO, stO, putO, appO, extO, appM, popM, R.st, R.bind, R.opt, R.frz, PD.frz, frzS, pvS, evS, gvS, cS, pkS, rsS, fzE, opS, cmS, blS, biS, nlS, cnS, trS, ntS, nvS, neS, itS, tuS, liS, ixS, slS, isS, lrS, caS, ckS, dnS, yesS, tnS, tlN, tlC, ttS, andE, orE, andT, orT, chnE, chnK, lookP, lookPs, callE, strM, getE, partE, bo, blO, setFd, unfd, subD, mulD, fdivD, modD, powD, leD, gtD, geD, cmpI, neD, isnD, ninD, truthD, gInt, gLen, PD.gTup, gList, gMax, gMin, isi1, isi2, isiD, isiS, tyN, noScr, idxD, atI, ixN, List.getElem?_cons_zero, List.getElem?_cons_succ, List.set_cons_zero, List.set_cons_succ, List.cons_append, List.nil_append, List.length_cons, List.length_nil, List.replicate_succ, List.replicate_zero, Option.map_some, Option.map_none, Option.bind_some, Option.bind_none, Bool.false_eq_true, if_true, if_false, true_and, and_true, and_false, false_and, Option.isSome_some, Option.isSome_none, List.any_cons, List.any_nil, Bool.or_true, Bool.or_false, Bool.true_or, Bool.false_or, Bool.not_true, Bool.not_false, Bool.and_true, Bool.true_and, Bool.and_false, Bool.false_and, decide_true, decide_false, eq_self, reduceIte, reduceCtorEq, e1, e2, a1, a2, a3]
theorem plantext_ok {n : Int} {ws : List Wt} {ks : List Wk} (P : PlanOk n ws ks) : m_plan_text [.val (planD n ws ks)] none = .ok (.val (.str (textS n ws ks))) none := by
  have S := P.sm
  have wl := S.wl
  have kl := S.kl
  have nd := need_ok P
  have ix0 : idxD (planD n ws ks) (.int 0) = some (.int n) := rfl
  have e0 := gStr_sI S.n
  have l0 := sI_len S.n
  have a0 := addD_s (s := "events ") (t := sI n) (by rw [events_len]; omega)
  rw [eq_hd] at a0
  have g1 : ∀ s1 : Sl, lcGo (ttS 3 (tlC (tnS 2) (tlC (tnS 3) (tlC (tnS 4) tlN)))) yesS waitE [.val (planD n ws ks), s1, .no, .no, .no, .no, .no] (ws.map wD) none = .ok (ws.map fun w => .str (lineS (wtW w))) none := fun s1 =>
    lcGo_rel wD _ ws fun w hw => ⟨_, rfl, rfl, waitE_ok (S.w w hw) _ _⟩
  have c1 : ∀ s1 : Sl, _ := fun s1 => lcE_ok (own := [2, 3, 4]) (fi := seqE (pkS (fzE (ixS (pvS 0) (pkS (cS (.int 1))))))) (sl := [.val (planD n ws ks), s1, .no, .no, .no, .no, .no]) (fd := none) (fd1 := none) (fz := true) (items := ws.map wD) rfl (by rw [List.length_map]; omega) (g1 s1)
  have g2 : ∀ s1 : Sl, lcGo (ttS 2 (tlC (tnS 5) (tlC (tnS 6) tlN))) yesS workE [.val (planD n ws ks), s1, .no, .no, .no, .no, .no] (ks.map kkD) none = .ok (ks.map fun w => .str (lineS (wkW w))) none := fun s1 =>
    lcGo_rel kkD _ ks fun w hw => ⟨_, rfl, rfl, workE_ok (S.k w hw) _ _⟩
  have c2 : ∀ s1 : Sl, _ := fun s1 => lcE_ok (own := [5, 6]) (fi := seqE (pkS (fzE (ixS (pvS 0) (pkS (cS (.int 2))))))) (sl := [.val (planD n ws ks), s1, .no, .no, .no, .no, .no]) (fd := none) (fd1 := none) (fz := true) (items := ks.map kkD) rfl (by rw [List.length_map]; omega) (g2 s1)
  have z0 : (1 : Nat) ≤ sizeLine := Nat.le_trans (by decide) sizeLine_big
  have z1 : 1 + ws.length ≤ sizeLine := Nat.le_trans (by omega) sizeLine_big
  have z4 : ws.length + 1 + ks.length ≤ sizeLine := Nat.le_trans (by omega) sizeLine_big
  have j := joinD_ok (sep := "\n") (l := (lnW n ws ks).map lineS) (lines_le S) (by rw [List.length_map]; have := ln_count S; omega) nl_len
  have e : ((lnW n ws ks).map lineS).map PyData.str = .str (lineS (hdW n)) :: (ws.map (fun w => .str (lineS (wtW w))) ++ ks.map fun w => .str (lineS (wkW w))) := by
    simp [lnW, List.map_map, Function.comp_def]
  rw [e] at j
  unfold waitE at c1
  unfold workE at c2
  simp [m_plan_text, b_plan_text, fnM, outFd, O.sq, O.kl, kill, sqO, klO, pkO, nilO, ifO, reO, rvO, rnO, exO, raO, setO, parO, tgO, forO, stO, putO, appO, extO, appM, popM, R.st, R.bind, R.opt, R.frz, PD.frz, frzS, pvS, evS, gvS, cS, pkS, rsS, fzE, opS, cmS, blS, biS, nlS, cnS, trS, ntS, nvS, neS, itS, tuS, liS, ixS, slS, isS, lrS, caS, ckS, dnS, yesS, tnS, tlN, tlC, ttS, andE, orE, andT, orT, chnE, chnK, lookP, lookPs, callE, strM, getE, partE, bo, blO, setFd, unfd, subD, mulD, fdivD, modD, powD, leD, gtD, geD, cmpI, neD, isnD, ninD, truthD, gInt, gLen, PD.gTup, gList, gMax, gMin, isi1, isi2, isiD, isiS, tyN, noScr, List.getElem?_cons_zero, List.getElem?_cons_succ, List.set_cons_zero, List.set_cons_succ, List.cons_append, List.nil_append, List.length_cons, List.length_nil, List.replicate_succ, List.replicate_zero, Option.map_some, Option.map_none, Option.bind_some, Option.bind_none, Bool.false_eq_true, if_true, if_false, true_and, and_true, and_false, false_and, Option.isSome_some, Option.isSome_none, List.any_cons, List.any_nil, Bool.or_true, Bool.or_false, Bool.true_or, Bool.false_or, Bool.not_true, Bool.not_false, Bool.and_true, Bool.true_and, Bool.and_false, Bool.false_and, decide_true, decide_false, eq_self, reduceIte, reduceCtorEq, nd, ix0, e0, a0, c1, c2, z0, z1, z4, j, textS]
end K73

namespace K73
open PySem PySem.Spec PyProof.Rows L2 PD TL
theorem joinL_free {s : Nat} {S : List Nat} (hS : s ∉ S) : ∀ {ps : List (List Nat)}, (∀ p ∈ ps, s ∉ p) → s ∉ joinL S ps
  | [], _ => by simp [joinL]
  | [p], h => by simpa [joinL] using h p (by simp)
  | p :: q :: r, h => by
    have h1 := h p (by simp)
    have h2 := joinL_free hS (ps := q :: r) fun z hz => h z (by simp [hz])
    show s ∉ p ++ (S ++ joinL S (q :: r))
    simp only [List.mem_append, not_or]
    exact ⟨h1, hS, h2⟩
theorem sp_tl : tl (" " : Str) = [32] := by decide +kernel
theorem nl_tl : tl ("\n" : Str) = [10] := by decide +kernel
theorem ev_tl : tl ("events" : Str) = [101, 118, 101, 110, 116, 115] := by decide +kernel
theorem wt_tl : tl ("wait" : Str) = [119, 97, 105, 116] := by decide +kernel
theorem wk_tl : tl ("work" : Str) = [119, 111, 114, 107] := by decide +kernel
theorem words_free {n : Int} {ws : List Wt} {ks : List Wk} {s : Nat} (h : s < 45) : ∀ l ∈ lnW n ws ks, ∀ x ∈ l, s ∉ tl x := by
  intro l hl x hx
  unfold lnW at hl
  rcases List.mem_cons.mp hl with rfl | hl
  · simp only [hdW, List.mem_cons, List.not_mem_nil, or_false] at hx
    rcases hx with rfl | rfl
    · rw [ev_tl]; simp; omega
    · exact sI_free (.inl h)
  · rcases List.mem_append.mp hl with hl | hl
    · obtain ⟨w, hw, rfl⟩ := List.mem_map.mp hl
      simp only [wtW, List.mem_cons, List.not_mem_nil, or_false] at hx
      rcases hx with rfl | rfl | rfl | rfl
      · rw [wt_tl]; simp; omega
      all_goals exact sI_free (.inl h)
    · obtain ⟨w, hw, rfl⟩ := List.mem_map.mp hl
      simp only [wkW, List.mem_cons, List.not_mem_nil, or_false] at hx
      rcases hx with rfl | rfl | rfl
      · rw [wk_tl]; simp; omega
      all_goals exact sI_free (.inl h)
theorem ln_ne {n : Int} {ws : List Wt} {ks : List Wk} : ∀ l ∈ lnW n ws ks, l ≠ [] := by
  intro l hl
  unfold lnW at hl
  rcases List.mem_cons.mp hl with rfl | hl
  · simp [hdW]
  · rcases List.mem_append.mp hl with hl | hl
    · obtain ⟨w, hw, rfl⟩ := List.mem_map.mp hl; simp [wtW]
    · obtain ⟨w, hw, rfl⟩ := List.mem_map.mp hl; simp [wkW]
theorem split_line {n : Int} {ws : List Wt} {ks : List Wk} {l : List Str} (h : l ∈ lnW n ws ks) : Txt.split (lineS l) " " = l :=
  TL.split_join (y := " ") (s := 32) (S := []) sp_tl (by decide +kernel) (ln_ne l h) (words_free (by decide) l h)
theorem split_text (n : Int) (ws : List Wt) (ks : List Wk) : Txt.split (textS n ws ks) "\n" = (lnW n ws ks).map lineS := by
  refine TL.split_join (y := "\n") (s := 10) (S := []) nl_tl (by decide +kernel) (by simp [lnW]) fun p hp => ?_
  obtain ⟨l, hl, rfl⟩ := List.mem_map.mp hp
  unfold lineS
  rw [join_eq, tl_join, sp_tl]
  refine joinL_free (by decide) fun q hq => ?_
  obtain ⟨x, hx, rfl⟩ := List.mem_map.mp hq
  exact words_free (by decide) l hl x hx
def lD (l : List Str) : D := .list (l.map .str)
theorem splitD_ok {a b : Str} {parts : List Str} (h : Txt.split a b = parts) (hb : b.length = 1) (ha : a.length ≤ 20000) : splitD a (.str b) = some (.lst (parts.map .str)) := by
  have h1 : (b.length == 0) = false := by rw [hb]; rfl
  have h2 : a.length + 2 ≤ sizeLine := Nat.le_trans (by omega) sizeLine_big
  simp only [splitD, h1, h2, h, true_and, if_true]
theorem lines_go {n : Int} {ws : List Wt} {ks : List Wk} (S : Sm n ws ks) (s0 : Sl) : lcE [8] (seqE (pkS (fzE (strM splitD (pvS 0) (pkS (cS (.str "\n"))))))) (tnS 8) yesS (fzE (strM splitD (pvS 8) (pkS (cS (.str " "))))) [.val (.str (textS n ws ks)), .no, .no, .no, .no, .no, .no, .no, .no, .no, .no] none = .ok (.lst ((lnW n ws ks).map lD)) none := by
  have sp := splitD_ok (split_text n ws ks) nl_len (text_len S)
  have go := lcGo_rel (ft := tnS 8) (fT := yesS) (fE := fzE (strM splitD (pvS 8) (pkS (cS (.str " "))))) (sl := [.val (.str (textS n ws ks)), .no, .no, .no, .no, .no, .no, .no, .no, .no, .no]) (fd := none) (fun l => .str (lineS l)) lD (lnW n ws ks) (fun l hl => by
    have sl := splitD_ok (split_line hl) sp_len (Nat.le_trans (lines_le S (lineS l) (List.mem_map.mpr ⟨l, hl, rfl⟩)) (by decide))
    refine ⟨_, rfl, rfl, ?_⟩
    simp [fnM, outFd, O.sq, O.kl, kill, sqO, klO, pkO, nilO, ifO, reO, rvO, rnO, exO, raO, setO, parO, tgO, forO, stO, putO, appO, extO, appM, popM, R.st, R.bind, R.opt, R.frz, PD.frz, frzS, pvS, evS, gvS, cS, pkS, rsS, fzE, opS, cmS, blS, biS, nlS, cnS, trS, ntS, nvS, neS, itS, tuS, liS, ixS, slS, isS, lrS, caS, ckS, dnS, yesS, tnS, tlN, tlC, ttS, andE, orE, andT, orT, chnE, chnK, lookP, lookPs, callE, strM, getE, partE, bo, blO, setFd, unfd, addD, subD, mulD, fdivD, modD, powD, leD, gtD, geD, cmpI, neD, isnD, ninD, truthD, gInt, gLen, gStr, PD.gTup, gList, gMax, gMin, isi1, isi2, isiD, isiS, tyN, noScr, idxD, atI, ixN, List.getElem?_cons_zero, List.getElem?_cons_succ, List.set_cons_zero, List.set_cons_succ, List.cons_append, List.nil_append, List.length_cons, List.length_nil, List.replicate_succ, List.replicate_zero, Option.map_some, Option.map_none, Option.bind_some, Option.bind_none, Bool.false_eq_true, if_true, if_false, true_and, and_true, and_false, false_and, Option.isSome_some, Option.isSome_none, List.any_cons, List.any_nil, Bool.or_true, Bool.or_false, Bool.true_or, Bool.false_or, Bool.not_true, Bool.not_false, Bool.and_true, Bool.true_and, Bool.and_false, Bool.false_and, decide_true, decide_false, eq_self, reduceIte, reduceCtorEq, sl, lD])
  have e : ((lnW n ws ks).map lineS).map PyData.str = (lnW n ws ks).map fun l => .str (lineS l) := by rw [List.map_map]; rfl
  refine lcE_ok (own := [8]) (fz := true) (items := (lnW n ws ks).map fun l => .str (lineS l)) (fd1 := none) ?_ (by rw [List.length_map]; have := ln_count S; omega) go
  rw [← e]
  simp [seqE, fnM, outFd, O.sq, O.kl, kill, sqO, klO, pkO, nilO, ifO, reO, rvO, rnO, exO, raO, setO, parO, tgO, forO, stO, putO, appO, extO, appM, popM, R.st, R.bind, R.opt, R.frz, PD.frz, frzS, pvS, evS, gvS, cS, pkS, rsS, fzE, opS, cmS, blS, biS, nlS, cnS, trS, ntS, nvS, neS, itS, tuS, liS, ixS, slS, isS, lrS, caS, ckS, dnS, yesS, tnS, tlN, tlC, ttS, andE, orE, andT, orT, chnE, chnK, lookP, lookPs, callE, strM, getE, partE, bo, blO, setFd, unfd, addD, subD, mulD, fdivD, modD, powD, leD, gtD, geD, cmpI, neD, isnD, ninD, truthD, gInt, gLen, gStr, PD.gTup, gList, gMax, gMin, isi1, isi2, isiD, isiS, tyN, noScr, idxD, atI, ixN, List.getElem?_cons_zero, List.getElem?_cons_succ, List.set_cons_zero, List.set_cons_succ, List.cons_append, List.nil_append, List.length_cons, List.length_nil, List.replicate_succ, List.replicate_zero, Option.map_some, Option.map_none, Option.bind_some, Option.bind_none, Bool.false_eq_true, if_true, if_false, true_and, and_true, and_false, false_and, Option.isSome_some, Option.isSome_none, List.any_cons, List.any_nil, Bool.or_true, Bool.or_false, Bool.true_or, Bool.false_or, Bool.not_true, Bool.not_false, Bool.and_true, Bool.true_and, Bool.and_false, Bool.false_and, decide_true, decide_false, eq_self, reduceIte, reduceCtorEq, sp, itemsD, notFd, fzP]
end K73

namespace K73
open PySem PySem.Spec PyProof.Rows L2 PD TL
def wantD : D := .dict [(.str "events", .int 2), (.str "wait", .int 4), (.str "work", .int 3)]
theorem want_eq : (.dict (mergeD [((.str "events"), (.int 2)), ((.str "wait"), (.int 4)), ((.str "work"), (.int 3))]) : D) = wantD := by
  have e1 : (("events" : Str) == "wait") = false := by decide +kernel
  have e2 : (("events" : Str) == "work") = false := by decide +kernel
  have e3 : (("wait" : Str) == "work") = false := by decide +kernel
  simp [mergeD, wantD, dput, kq, e1, e2, e3]
theorem s_ew : (("events" : Str) == "wait") = false := by decide +kernel
theorem s_ek : (("events" : Str) == "work") = false := by decide +kernel
theorem s_wk : (("wait" : Str) == "work") = false := by decide +kernel
theorem want_ev : dgetD wantD (.str "events") = some (some (.int 2)) := by simp [dgetD, wantD, dparts, keyOk, isKey, dlook, kq]
theorem want_wt : dgetD wantD (.str "wait") = some (some (.int 4)) := by simp [dgetD, wantD, dparts, keyOk, isKey, dlook, kq, s_ew]
theorem want_wk : dgetD wantD (.str "work") = some (some (.int 3)) := by simp [dgetD, wantD, dparts, keyOk, isKey, dlook, kq, s_ek, s_wk]
theorem want_p : dparts wantD = some (false, [(.str "events", .int 2), (.str "wait", .int 4), (.str "work", .int 3)]) := by rfl
abbrev chkBody : Fs := klO [3] (ifO (orT (cmS neD (pkS (fzE (getE (pvS 2) (pkS (fzE (ixS (pvS 3) (pkS (cS (.int 0)))))) (cS (.int 0))))) (pkS (fzE (biS gLen (cnS (pvS 3) nlS))))) (ntS (trS (pkS (fzE (biS gAll (cnS (pkS (fzE (lcE [9] (seqE (pkS (fzE (slS (pvS 3) (some (cS (.int 1))) none)))) (tnS 9) yesS (fzE (caS 1 m_is_number_text (cnS (gvS 9) nlS)))))) nlS))))))) (raO "BadText") nilO)
theorem chk_turn {n : Int} {ws : List Wt} {ks : List Wk} (S : Sm n ws ks) {l : List Str} (hl : l ∈ lnW n ws ks) (s1 : Sl) : chkBody [.no, s1, .val wantD, .val (lD l), .no, .no, .no, .no, .no, .no, .no] none = .nx [.no, s1, .val wantD, .no, .no, .no, .no, .no, .no, .no, .no] none := by
  have m2 : ∀ i : Int, (2 : Int) = i → True := fun _ _ => trivial
  unfold lnW at hl
  rcases List.mem_cons.mp hl with rfl | hl
  · have e1 := isnum_ok S.n
    simp [chkBody, fnM, outFd, O.sq, O.kl, kill, sqO, klO, pkO, nilO, ifO, reO, rvO, rnO, exO, raO, setO, parO, tgO, forO, stO, putO, appO, extO, appM, popM, R.st, R.bind, R.opt, R.frz, PD.frz, frzS, pvS, evS, gvS, cS, pkS, rsS, fzE, opS, cmS, blS, biS, nlS, cnS, trS, ntS, nvS, neS, itS, tuS, liS, ixS, slS, isS, lrS, caS, ckS, dnS, yesS, tnS, tlN, tlC, ttS, andE, orE, andT, orT, chnE, chnK, lookP, lookPs, callE, strM, getE, partE, bo, blO, setFd, unfd, addD, subD, mulD, fdivD, modD, powD, leD, gtD, geD, cmpI, isnD, ninD, truthD, gInt, gLen, gStr, PD.gTup, gList, gMax, gMin, isi1, isi2, isiD, isiS, tyN, noScr, idxD, atI, ixN, List.getElem?_cons_zero, List.getElem?_cons_succ, List.set_cons_zero, List.set_cons_succ, List.cons_append, List.nil_append, List.length_cons, List.length_nil, List.replicate_succ, List.replicate_zero, Option.map_some, Option.map_none, Option.bind_some, Option.bind_none, Bool.false_eq_true, if_true, if_false, true_and, and_true, and_false, false_and, Option.isSome_some, Option.isSome_none, List.any_cons, List.any_nil, Bool.or_true, Bool.or_false, Bool.true_or, Bool.false_or, Bool.not_true, Bool.not_false, Bool.and_true, Bool.true_and, Bool.and_false, Bool.false_and, decide_true, decide_false, eq_self, reduceIte, reduceCtorEq, want_ev, want_p, lenD, neD_i, lD, hdW, sliD, cut1, lcE, seqE, itemsD, notFd, fzP, wipeS, lcGo, gAll, bls?, sizeLine_eq, e1]
  · rcases List.mem_append.mp hl with hl | hl
    · obtain ⟨w, hw, rfl⟩ := List.mem_map.mp hl
      have h := S.w w hw
      have e1 := isnum_ok h.1
      have e2 := isnum_ok h.2.1
      have e3 := isnum_ok h.2.2
      simp [chkBody, fnM, outFd, O.sq, O.kl, kill, sqO, klO, pkO, nilO, ifO, reO, rvO, rnO, exO, raO, setO, parO, tgO, forO, stO, putO, appO, extO, appM, popM, R.st, R.bind, R.opt, R.frz, PD.frz, frzS, pvS, evS, gvS, cS, pkS, rsS, fzE, opS, cmS, blS, biS, nlS, cnS, trS, ntS, nvS, neS, itS, tuS, liS, ixS, slS, isS, lrS, caS, ckS, dnS, yesS, tnS, tlN, tlC, ttS, andE, orE, andT, orT, chnE, chnK, lookP, lookPs, callE, strM, getE, partE, bo, blO, setFd, unfd, addD, subD, mulD, fdivD, modD, powD, leD, gtD, geD, cmpI, isnD, ninD, truthD, gInt, gLen, gStr, PD.gTup, gList, gMax, gMin, isi1, isi2, isiD, isiS, tyN, noScr, idxD, atI, ixN, List.getElem?_cons_zero, List.getElem?_cons_succ, List.set_cons_zero, List.set_cons_succ, List.cons_append, List.nil_append, List.length_cons, List.length_nil, List.replicate_succ, List.replicate_zero, Option.map_some, Option.map_none, Option.bind_some, Option.bind_none, Bool.false_eq_true, if_true, if_false, true_and, and_true, and_false, false_and, Option.isSome_some, Option.isSome_none, List.any_cons, List.any_nil, Bool.or_true, Bool.or_false, Bool.true_or, Bool.false_or, Bool.not_true, Bool.not_false, Bool.and_true, Bool.true_and, Bool.and_false, Bool.false_and, decide_true, decide_false, eq_self, reduceIte, reduceCtorEq, want_wt, want_p, lenD, neD_i, lD, wtW, sliD, cut1, lcE, seqE, itemsD, notFd, fzP, wipeS, lcGo, gAll, bls?, sizeLine_eq, e1, e2, e3]
    · obtain ⟨w, hw, rfl⟩ := List.mem_map.mp hl
      have h := S.k w hw
      have e1 := isnum_ok h.1
      have e2 := isnum_ok h.2
      simp [chkBody, fnM, outFd, O.sq, O.kl, kill, sqO, klO, pkO, nilO, ifO, reO, rvO, rnO, exO, raO, setO, parO, tgO, forO, stO, putO, appO, extO, appM, popM, R.st, R.bind, R.opt, R.frz, PD.frz, frzS, pvS, evS, gvS, cS, pkS, rsS, fzE, opS, cmS, blS, biS, nlS, cnS, trS, ntS, nvS, neS, itS, tuS, liS, ixS, slS, isS, lrS, caS, ckS, dnS, yesS, tnS, tlN, tlC, ttS, andE, orE, andT, orT, chnE, chnK, lookP, lookPs, callE, strM, getE, partE, bo, blO, setFd, unfd, addD, subD, mulD, fdivD, modD, powD, leD, gtD, geD, cmpI, isnD, ninD, truthD, gInt, gLen, gStr, PD.gTup, gList, gMax, gMin, isi1, isi2, isiD, isiS, tyN, noScr, idxD, atI, ixN, List.getElem?_cons_zero, List.getElem?_cons_succ, List.set_cons_zero, List.set_cons_succ, List.cons_append, List.nil_append, List.length_cons, List.length_nil, List.replicate_succ, List.replicate_zero, Option.map_some, Option.map_none, Option.bind_some, Option.bind_none, Bool.false_eq_true, if_true, if_false, true_and, and_true, and_false, false_and, Option.isSome_some, Option.isSome_none, List.any_cons, List.any_nil, Bool.or_true, Bool.or_false, Bool.true_or, Bool.false_or, Bool.not_true, Bool.not_false, Bool.and_true, Bool.true_and, Bool.and_false, Bool.false_and, decide_true, decide_false, eq_self, reduceIte, reduceCtorEq, want_wk, want_p, lenD, neD_i, lD, wkW, sliD, cut1, lcE, seqE, itemsD, notFd, fzP, wipeS, lcGo, gAll, bls?, sizeLine_eq, e1, e2]
theorem chk_loop {n : Int} {ws : List Wt} {ks : List Wk} (S : Sm n ws ks) (s1 : Sl) : ∀ ls : List (List Str), (∀ l ∈ ls, l ∈ lnW n ws ks) → forGo (tnS 3) chkBody (ls.map lD) [.no, s1, .val wantD, .no, .no, .no, .no, .no, .no, .no, .no] none = .nx [.no, s1, .val wantD, .no, .no, .no, .no, .no, .no, .no, .no] none
  | [], _ => rfl
  | l :: ls, h => by
    have e := chk_turn S (h l (by simp)) s1
    have ih := chk_loop S s1 ls fun x hx => h x (by simp [hx])
    rw [List.map_cons]
    unfold forGo
    show (match chkBody [.no, s1, .val wantD, .val (lD l), .no, .no, .no, .no, .no, .no, .no] none with
      | .nx sl2 fd2 => forGo (tnS 3) chkBody (ls.map lD) sl2 fd2
      | .ct sl2 fd2 => forGo (tnS 3) chkBody (ls.map lD) sl2 fd2
      | .brk sl2 fd2 => .nx sl2 fd2
      | o => o) = _
    rw [e]
    exact ih
/-! the heads of the lines -/
def heads (ws : List Wt) (ks : List Wk) : List D := ws.map (fun _ => .str "wait") ++ ks.map (fun _ => .str "work")
theorem heads_mem {ws : List Wt} {ks : List Wk} {d : D} (h : d ∈ heads ws ks) : d = .str "wait" ∨ d = .str "work" := by
  rcases List.mem_append.mp h with h | h
  · obtain ⟨_, _, rfl⟩ := List.mem_map.mp h; exact .inl rfl
  · obtain ⟨_, _, rfl⟩ := List.mem_map.mp h; exact .inr rfl
theorem heads_srtOk (ws : List Wt) (ks : List Wk) : srtOk (heads ws ks) = true := by
  unfold srtOk
  simp only [Bool.and_eq_true, Bool.or_eq_true, List.all_eq_true, decide_eq_true_eq]
  refine ⟨⟨fun d hd e he => ?_, .inr fun d hd => ?_⟩, fun d hd => ?_⟩
  · rcases heads_mem hd with rfl | rfl <;> rcases heads_mem he with rfl | rfl <;> rfl
  · rcases heads_mem hd with rfl | rfl <;> rfl
  · rcases heads_mem hd with rfl | rfl <;> simp [PyData.depth]
theorem le_tt : W.dataLe false id (PyData.str "wait") (PyData.str "wait") = true := by decide +kernel
theorem le_kk : W.dataLe false id (PyData.str "work") (PyData.str "work") = true := by decide +kernel
theorem le_tk : W.dataLe false id (PyData.str "wait") (PyData.str "work") = true := by decide +kernel
theorem heads_srt (ws : List Wt) (ks : List Wk) : srt (heads ws ks) = heads ws ks := by
  refine List.mergeSort_of_pairwise (List.pairwise_append.mpr ⟨?_, ?_, ?_⟩)
  · rw [List.pairwise_map]; exact List.pairwise_of_forall fun _ _ => le_tt
  · rw [List.pairwise_map]; exact List.pairwise_of_forall fun _ _ => le_kk
  · intro a ha b hb
    obtain ⟨_, _, rfl⟩ := List.mem_map.mp ha
    obtain ⟨_, _, rfl⟩ := List.mem_map.mp hb
    exact le_tk
theorem lay_all : ∀ ds : List D, (∀ d ∈ ds, PyData.canLay0 d = true) → PyData.canLayAll0 ds = true
  | [], _ => rfl
  | d :: ds, h => by
    have := lay_all ds fun x hx => h x (by simp [hx])
    simp [PyData.canLayAll0, this, h d (by simp)]
theorem dep_all : ∀ (ds : List D) (k : Nat), (∀ d ∈ ds, d.depth ≤ k) → PyData.depthAll ds ≤ k
  | [], _, _ => by simp [PyData.depthAll]
  | d :: ds, k, h => by
    have := dep_all ds k fun x hx => h x (by simp [hx])
    have := h d (by simp)
    simp [PyData.depthAll]; omega
theorem heads_shaped (ws : List Wt) (ks : List Wk) : SeqAt.shaped (.list (heads ws ks)) = true := by
  have h1 : PyData.canLayAll0 (heads ws ks) = true := lay_all _ fun d hd => by rcases heads_mem hd with rfl | rfl <;> decide +kernel
  have h2 : PyData.depthAll (heads ws ks) ≤ 0 := dep_all _ 0 fun d hd => by rcases heads_mem hd with rfl | rfl <;> simp [PyData.depth]
  simp [SeqAt.shaped, PyData.canLay0, h1, PyData.depth]; omega
theorem heads_ne (ws : List Wt) (ks : List Wk) : neD (.list (heads ws ks)) (.list (heads ws ks)) = some false := by
  have h1 : PyData.canLayAll0 (heads ws ks) = true := lay_all _ fun d hd => by rcases heads_mem hd with rfl | rfl <;> decide +kernel
  have e : PyData.eqv (.list (heads ws ks)) (.list (heads ws ks)) = true := by
    simp only [PyData.eqv]
    exact SeqAt.eqvAll_refl _ h1
  unfold neD eqD
  simp [heads_shaped, e]
theorem heads_in (ws : List Wt) (ks : List Wk) : inD (.str "events") (.list (heads ws ks)) = some false := by
  have h1 : PyData.canLayAll0 (heads ws ks) = true := lay_all _ fun d hd => by rcases heads_mem hd with rfl | rfl <;> decide +kernel
  have e : (heads ws ks).any (fun y => PyData.eqv y (.str "events")) = false := by
    rw [List.any_eq_false]
    intro d hd
    rcases heads_mem hd with rfl | rfl <;> decide +kernel
  have s : SeqAt.shaped (.str "events") = true := by decide +kernel
  simp [inD, h1, s, e]
end K73

namespace K73
open PySem PySem.Spec PyProof.Rows L2 PD TL
theorem rest_eq (n : Int) (ws : List Wt) (ks : List Wk) : cutL ((lnW n ws ks).map lD) (some 1) none = (ws.map wtW ++ ks.map wkW).map lD := by rw [cut1]; rfl
theorem heads_go {n : Int} {ws : List Wt} {ks : List Wk} (S : Sm n ws ks) (s7 : Sl) : lcE [3] (seqE (pkS (fzE (slS (pvS 1) (some (cS (.int 1))) none)))) (tnS 3) yesS (fzE (ixS (pvS 3) (pkS (cS (.int 0))))) [.no, .val (.list ((lnW n ws ks).map lD)), .no, .no, .no, .no, .no, s7, .no, .no, .no] none = .ok (.lst (heads ws ks)) none := by
  have wl := S.wl
  have kl := S.kl
  have h2 : ∀ w ∈ ws, ∃ sl1, tnS 3 (lD (wtW w)) [.no, .val (.list ((lnW n ws ks).map lD)), .no, .no, .no, .no, .no, s7, .no, .no, .no] = some sl1 ∧ yesS sl1 none = .ok true none ∧ (fzE (ixS (pvS 3) (pkS (cS (.int 0))))) sl1 none = .ok (.str "wait") none := fun w hw => ⟨_, rfl, rfl, by simp [fnM, outFd, O.sq, O.kl, kill, sqO, klO, pkO, nilO, ifO, reO, rvO, rnO, exO, raO, setO, parO, tgO, forO, stO, putO, appO, extO, appM, popM, R.st, R.bind, R.opt, R.frz, PD.frz, frzS, pvS, evS, gvS, cS, pkS, rsS, fzE, opS, cmS, blS, biS, nlS, cnS, trS, ntS, nvS, neS, itS, tuS, liS, ixS, slS, isS, lrS, caS, ckS, dnS, yesS, tnS, tlN, tlC, ttS, andE, orE, andT, orT, chnE, chnK, lookP, lookPs, callE, strM, getE, partE, bo, blO, setFd, unfd, addD, subD, mulD, fdivD, modD, powD, leD, gtD, geD, cmpI, neD, isnD, ninD, truthD, gInt, gLen, gStr, PD.gTup, gList, gMax, gMin, isi1, isi2, isiD, isiS, tyN, noScr, idxD, atI, ixN, List.getElem?_cons_zero, List.getElem?_cons_succ, List.set_cons_zero, List.set_cons_succ, List.cons_append, List.nil_append, List.length_cons, List.length_nil, List.replicate_succ, List.replicate_zero, Option.map_some, Option.map_none, Option.bind_some, Option.bind_none, Bool.false_eq_true, if_true, if_false, true_and, and_true, and_false, false_and, Option.isSome_some, Option.isSome_none, List.any_cons, List.any_nil, Bool.or_true, Bool.or_false, Bool.true_or, Bool.false_or, Bool.not_true, Bool.not_false, Bool.and_true, Bool.true_and, Bool.and_false, Bool.false_and, decide_true, decide_false, eq_self, reduceIte, reduceCtorEq, lD, wtW]⟩
  have g2 := lcGo_rel (fun w => lD (wtW w)) (fun _ => .str "wait") ws h2
  have h3 : ∀ w ∈ ks, ∃ sl1, tnS 3 (lD (wkW w)) [.no, .val (.list ((lnW n ws ks).map lD)), .no, .no, .no, .no, .no, s7, .no, .no, .no] = some sl1 ∧ yesS sl1 none = .ok true none ∧ (fzE (ixS (pvS 3) (pkS (cS (.int 0))))) sl1 none = .ok (.str "work") none := fun w hw => ⟨_, rfl, rfl, by simp [fnM, outFd, O.sq, O.kl, kill, sqO, klO, pkO, nilO, ifO, reO, rvO, rnO, exO, raO, setO, parO, tgO, forO, stO, putO, appO, extO, appM, popM, R.st, R.bind, R.opt, R.frz, PD.frz, frzS, pvS, evS, gvS, cS, pkS, rsS, fzE, opS, cmS, blS, biS, nlS, cnS, trS, ntS, nvS, neS, itS, tuS, liS, ixS, slS, isS, lrS, caS, ckS, dnS, yesS, tnS, tlN, tlC, ttS, andE, orE, andT, orT, chnE, chnK, lookP, lookPs, callE, strM, getE, partE, bo, blO, setFd, unfd, addD, subD, mulD, fdivD, modD, powD, leD, gtD, geD, cmpI, neD, isnD, ninD, truthD, gInt, gLen, gStr, PD.gTup, gList, gMax, gMin, isi1, isi2, isiD, isiS, tyN, noScr, idxD, atI, ixN, List.getElem?_cons_zero, List.getElem?_cons_succ, List.set_cons_zero, List.set_cons_succ, List.cons_append, List.nil_append, List.length_cons, List.length_nil, List.replicate_succ, List.replicate_zero, Option.map_some, Option.map_none, Option.bind_some, Option.bind_none, Bool.false_eq_true, if_true, if_false, true_and, and_true, and_false, false_and, Option.isSome_some, Option.isSome_none, List.any_cons, List.any_nil, Bool.or_true, Bool.or_false, Bool.true_or, Bool.false_or, Bool.not_true, Bool.not_false, Bool.and_true, Bool.true_and, Bool.and_false, Bool.false_and, decide_true, decide_false, eq_self, reduceIte, reduceCtorEq, lD, wkW]⟩
  have g3 := lcGo_rel (fun w => lD (wkW w)) (fun _ => .str "work") ks h3
  have g := lcGo_app _ _ _ _ g2 (fun x hx => by
    obtain ⟨w, hw, rfl⟩ := List.mem_map.mp hx
    obtain ⟨sl1, a, b, c⟩ := h2 w hw
    exact ⟨sl1, true, a, b, fun _ => ⟨_, c⟩⟩) g3
  refine lcE_ok (own := [3]) (fz := true) (items := ws.map (fun w => lD (wtW w)) ++ ks.map (fun w => lD (wkW w))) (fd1 := none) ?_ (by simp; omega) g
  simp [seqE, fnM, outFd, O.sq, O.kl, kill, sqO, klO, pkO, nilO, ifO, reO, rvO, rnO, exO, raO, setO, parO, tgO, forO, stO, putO, appO, extO, appM, popM, R.st, R.bind, R.opt, R.frz, PD.frz, frzS, pvS, evS, gvS, cS, pkS, rsS, fzE, opS, cmS, blS, biS, nlS, cnS, trS, ntS, nvS, neS, itS, tuS, liS, ixS, slS, isS, lrS, caS, ckS, dnS, yesS, tnS, tlN, tlC, ttS, andE, orE, andT, orT, chnE, chnK, lookP, lookPs, callE, strM, getE, partE, bo, blO, setFd, unfd, addD, subD, mulD, fdivD, modD, powD, leD, gtD, geD, cmpI, neD, isnD, ninD, truthD, gInt, gLen, gStr, PD.gTup, gList, gMax, gMin, isi1, isi2, isiD, isiS, tyN, noScr, idxD, atI, ixN, List.getElem?_cons_zero, List.getElem?_cons_succ, List.set_cons_zero, List.set_cons_succ, List.cons_append, List.nil_append, List.length_cons, List.length_nil, List.replicate_succ, List.replicate_zero, Option.map_some, Option.map_none, Option.bind_some, Option.bind_none, Bool.false_eq_true, if_true, if_false, true_and, and_true, and_false, false_and, Option.isSome_some, Option.isSome_none, List.any_cons, List.any_nil, Bool.or_true, Bool.or_false, Bool.true_or, Bool.false_or, Bool.not_true, Bool.not_false, Bool.and_true, Bool.true_and, Bool.and_false, Bool.false_and, decide_true, decide_false, eq_self, reduceIte, reduceCtorEq, sliD, rest_eq, itemsD, notFd, fzP, Function.comp_def]
abbrev toldE : Fe D := fzE (biS PD.gTup (cnS (pkS (fzE (lcE [9] (seqE (pkS (fzE (slS (pvS 3) (some (cS (.int 1))) none)))) (tnS 9) yesS (fzE (biS gInt (cnS (pvS 9) nlS)))))) nlS))
def toldD (n : Int) (ws : List Wt) (ks : List Wk) : List D := .tuple [.int n] :: (ws.map wD ++ ks.map kkD)
theorem told_go {n : Int} {ws : List Wt} {ks : List Wk} (S : Sm n ws ks) : lcE [3] (seqE (pvS 1)) (tnS 3) yesS toldE [.no, .val (.list ((lnW n ws ks).map lD)), .no, .no, .no, .no, .no, .no, .no, .no, .no] none = .ok (.lst (toldD n ws ks)) none := by
  have wl := S.wl
  have kl := S.kl
  have e1 : toldE [.no, .val (.list ((lnW n ws ks).map lD)), .no, .val (lD (hdW n)), .no, .no, .no, .no, .no, .no, .no] none = .ok (.tuple [.int n]) none := by
    have a := gInt_sI S.n
    simp [toldE, fnM, outFd, O.sq, O.kl, kill, sqO, klO, pkO, nilO, ifO, reO, rvO, rnO, exO, raO, setO, parO, tgO, forO, stO, putO, appO, extO, appM, popM, R.st, R.bind, R.opt, R.frz, PD.frz, frzS, pvS, evS, gvS, cS, pkS, rsS, fzE, opS, cmS, blS, biS, nlS, cnS, trS, ntS, nvS, neS, itS, tuS, liS, ixS, slS, isS, lrS, caS, ckS, dnS, yesS, tnS, tlN, tlC, ttS, andE, orE, andT, orT, chnE, chnK, lookP, lookPs, callE, strM, getE, partE, bo, blO, setFd, unfd, addD, subD, mulD, fdivD, modD, powD, leD, gtD, geD, cmpI, neD, isnD, ninD, truthD, gLen, gStr, PD.gTup, gList, gMax, gMin, isi1, isi2, isiD, isiS, tyN, noScr, idxD, atI, ixN, List.getElem?_cons_zero, List.getElem?_cons_succ, List.set_cons_zero, List.set_cons_succ, List.cons_append, List.nil_append, List.length_cons, List.length_nil, List.replicate_succ, List.replicate_zero, Option.map_some, Option.map_none, Option.bind_some, Option.bind_none, Bool.false_eq_true, if_true, if_false, true_and, and_true, and_false, false_and, Option.isSome_some, Option.isSome_none, List.any_cons, List.any_nil, Bool.or_true, Bool.or_false, Bool.true_or, Bool.false_or, Bool.not_true, Bool.not_false, Bool.and_true, Bool.true_and, Bool.and_false, Bool.false_and, decide_true, decide_false, eq_self, reduceIte, reduceCtorEq, lD, hdW, sliD, cut1, lcE, seqE, itemsD, notFd, fzP, wipeS, lcGo, sizeLine_eq, a]
  have h2 : ∀ w ∈ ws, ∃ sl1, tnS 3 (lD (wtW w)) [.no, .val (.list ((lnW n ws ks).map lD)), .no, .no, .no, .no, .no, .no, .no, .no, .no] = some sl1 ∧ yesS sl1 none = .ok true none ∧ toldE sl1 none = .ok (wD w) none := fun w hw => ⟨_, rfl, rfl, by
    have h := S.w w hw
    have a := gInt_sI h.1
    have b := gInt_sI h.2.1
    have c := gInt_sI h.2.2
    simp [toldE, fnM, outFd, O.sq, O.kl, kill, sqO, klO, pkO, nilO, ifO, reO, rvO, rnO, exO, raO, setO, parO, tgO, forO, stO, putO, appO, extO, appM, popM, R.st, R.bind, R.opt, R.frz, PD.frz, frzS, pvS, evS, gvS, cS, pkS, rsS, fzE, opS, cmS, blS, biS, nlS, cnS, trS, ntS, nvS, neS, itS, tuS, liS, ixS, slS, isS, lrS, caS, ckS, dnS, yesS, tnS, tlN, tlC, ttS, andE, orE, andT, orT, chnE, chnK, lookP, lookPs, callE, strM, getE, partE, bo, blO, setFd, unfd, addD, subD, mulD, fdivD, modD, powD, leD, gtD, geD, cmpI, neD, isnD, ninD, truthD, gLen, gStr, PD.gTup, gList, gMax, gMin, isi1, isi2, isiD, isiS, tyN, noScr, idxD, atI, ixN, List.getElem?_cons_zero, List.getElem?_cons_succ, List.set_cons_zero, List.set_cons_succ, List.cons_append, List.nil_append, List.length_cons, List.length_nil, List.replicate_succ, List.replicate_zero, Option.map_some, Option.map_none, Option.bind_some, Option.bind_none, Bool.false_eq_true, if_true, if_false, true_and, and_true, and_false, false_and, Option.isSome_some, Option.isSome_none, List.any_cons, List.any_nil, Bool.or_true, Bool.or_false, Bool.true_or, Bool.false_or, Bool.not_true, Bool.not_false, Bool.and_true, Bool.true_and, Bool.and_false, Bool.false_and, decide_true, decide_false, eq_self, reduceIte, reduceCtorEq, lD, wtW, wD, sliD, cut1, lcE, seqE, itemsD, notFd, fzP, wipeS, lcGo, sizeLine_eq, a, b, c]⟩
  have g2 := lcGo_rel (fun w => lD (wtW w)) wD ws h2
  have h3 : ∀ w ∈ ks, ∃ sl1, tnS 3 (lD (wkW w)) [.no, .val (.list ((lnW n ws ks).map lD)), .no, .no, .no, .no, .no, .no, .no, .no, .no] = some sl1 ∧ yesS sl1 none = .ok true none ∧ toldE sl1 none = .ok (kkD w) none := fun w hw => ⟨_, rfl, rfl, by
    have h := S.k w hw
    have a := gInt_sI h.1
    have b := gInt_sI h.2
    simp [toldE, fnM, outFd, O.sq, O.kl, kill, sqO, klO, pkO, nilO, ifO, reO, rvO, rnO, exO, raO, setO, parO, tgO, forO, stO, putO, appO, extO, appM, popM, R.st, R.bind, R.opt, R.frz, PD.frz, frzS, pvS, evS, gvS, cS, pkS, rsS, fzE, opS, cmS, blS, biS, nlS, cnS, trS, ntS, nvS, neS, itS, tuS, liS, ixS, slS, isS, lrS, caS, ckS, dnS, yesS, tnS, tlN, tlC, ttS, andE, orE, andT, orT, chnE, chnK, lookP, lookPs, callE, strM, getE, partE, bo, blO, setFd, unfd, addD, subD, mulD, fdivD, modD, powD, leD, gtD, geD, cmpI, neD, isnD, ninD, truthD, gLen, gStr, PD.gTup, gList, gMax, gMin, isi1, isi2, isiD, isiS, tyN, noScr, idxD, atI, ixN, List.getElem?_cons_zero, List.getElem?_cons_succ, List.set_cons_zero, List.set_cons_succ, List.cons_append, List.nil_append, List.length_cons, List.length_nil, List.replicate_succ, List.replicate_zero, Option.map_some, Option.map_none, Option.bind_some, Option.bind_none, Bool.false_eq_true, if_true, if_false, true_and, and_true, and_false, false_and, Option.isSome_some, Option.isSome_none, List.any_cons, List.any_nil, Bool.or_true, Bool.or_false, Bool.true_or, Bool.false_or, Bool.not_true, Bool.not_false, Bool.and_true, Bool.true_and, Bool.and_false, Bool.false_and, decide_true, decide_false, eq_self, reduceIte, reduceCtorEq, lD, wkW, kkD, sliD, cut1, lcE, seqE, itemsD, notFd, fzP, wipeS, lcGo, sizeLine_eq, a, b]⟩
  have g3 := lcGo_rel (fun w => lD (wkW w)) kkD ks h3
  have g := lcGo_app _ _ _ _ g2 (fun x hx => by
    obtain ⟨w, hw, rfl⟩ := List.mem_map.mp hx
    obtain ⟨sl1, a, b, c⟩ := h2 w hw
    exact ⟨sl1, true, a, b, fun _ => ⟨_, c⟩⟩) g3
  have g1 := lcGo_rel (ft := tnS 3) (fT := yesS) (fE := toldE) (sl := [.no, .val (.list ((lnW n ws ks).map lD)), .no, .no, .no, .no, .no, .no, .no, .no, .no]) (fd := none) (fun _ : Unit => lD (hdW n)) (fun _ => .tuple [.int n]) [()] (fun _ _ => ⟨_, rfl, rfl, e1⟩)
  have g' := lcGo_app _ _ _ _ g1 (fun x hx => by
    obtain ⟨w, hw, rfl⟩ := List.mem_map.mp hx
    exact ⟨_, true, rfl, rfl, fun _ => ⟨_, e1⟩⟩) g
  refine lcE_ok (own := [3]) (fz := true) (items := _) (fd1 := none) ?_ (by simp; omega) g'
  simp [seqE, fnM, outFd, O.sq, O.kl, kill, sqO, klO, pkO, nilO, ifO, reO, rvO, rnO, exO, raO, setO, parO, tgO, forO, stO, putO, appO, extO, appM, popM, R.st, R.bind, R.opt, R.frz, PD.frz, frzS, pvS, evS, gvS, cS, pkS, rsS, fzE, opS, cmS, blS, biS, nlS, cnS, trS, ntS, nvS, neS, itS, tuS, liS, ixS, slS, isS, lrS, caS, ckS, dnS, yesS, tnS, tlN, tlC, ttS, andE, orE, andT, orT, chnE, chnK, lookP, lookPs, callE, strM, getE, partE, bo, blO, setFd, unfd, addD, subD, mulD, fdivD, modD, powD, leD, gtD, geD, cmpI, neD, isnD, ninD, truthD, gInt, gLen, gStr, PD.gTup, gList, gMax, gMin, isi1, isi2, isiD, isiS, tyN, noScr, idxD, atI, ixN, List.getElem?_cons_zero, List.getElem?_cons_succ, List.set_cons_zero, List.set_cons_succ, List.cons_append, List.nil_append, List.length_cons, List.length_nil, List.replicate_succ, List.replicate_zero, Option.map_some, Option.map_none, Option.bind_some, Option.bind_none, Bool.false_eq_true, if_true, if_false, true_and, and_true, and_false, false_and, Option.isSome_some, Option.isSome_none, List.any_cons, List.any_nil, Bool.or_true, Bool.or_false, Bool.true_or, Bool.false_or, Bool.not_true, Bool.not_false, Bool.and_true, Bool.true_and, Bool.and_false, Bool.false_and, decide_true, decide_false, eq_self, reduceIte, reduceCtorEq, itemsD, notFd, fzP, lnW, Function.comp_def]
def sndD : D → D
  | .tuple [_, b] => b
  | d => d
theorem zipT_maps {α : Type} (f g : α → D) : ∀ xs : List α, zipT (xs.map f) (xs.map g) = xs.map fun x => .tuple [f x, g x]
  | [] => rfl
  | x :: xs => by
    have := zipT_maps f g xs
    unfold zipT at this ⊢
    simp [this]
theorem zipT_app : ∀ {xs us : List D} (ys vs : List D), xs.length = us.length → zipT (xs ++ ys) (us ++ vs) = zipT xs us ++ zipT ys vs
  | [], [], _, _, _ => rfl
  | [], _ :: _, _, _, h => by simp at h
  | _ :: _, [], _, _, h => by simp at h
  | x :: xs, u :: us, ys, vs, h => by
    have := zipT_app (xs := xs) (us := us) ys vs (by simpa using h)
    unfold zipT at this ⊢
    simp [this]
theorem zip_rows (n : Int) (ws : List Wt) (ks : List Wk) : zipT ((lnW n ws ks).map lD) (toldD n ws ks) = .tuple [lD (hdW n), .tuple [.int n]] :: (ws.map (fun w => .tuple [lD (wtW w), wD w]) ++ ks.map (fun w => .tuple [lD (wkW w), kkD w])) := by
  have e : zipT ((lnW n ws ks).map lD) (toldD n ws ks) = .tuple [lD (hdW n), .tuple [.int n]] :: zipT (ws.map (fun w => lD (wtW w)) ++ ks.map (fun w => lD (wkW w))) (ws.map wD ++ ks.map kkD) := by
    simp [lnW, toldD, zipT, Function.comp_def]
  rw [e, zipT_app _ _ (by simp), zipT_maps, zipT_maps]
theorem rows_go {n : Int} {ws : List Wt} {ks : List Wk} (S : Sm n ws ks) (key : Str) (bw bk : Bool) (s5 : Sl) (e1 : eqD (.str "events") (.str key) = some false) (e2 : eqD (.str "wait") (.str key) = some bw) (e3 : eqD (.str "work") (.str key) = some bk) :
    lcE [3, 10] (zipE (cnS (pvS 1) (cnS (pvS 4) nlS))) (ttS 2 (tlC (tnS 3) (tlC (tnS 10) tlN))) (cmS eqD (pkS (fzE (ixS (pvS 3) (pkS (cS (.int 0)))))) (pkS (cS (.str key)))) (evS 10) [.no, .val (.list ((lnW n ws ks).map lD)), .no, .no, .val (.list (toldD n ws ks)), s5, .no, .no, .no, .no, .no] none =
      .ok (.lst ((if bw = true then ws.map wD else []) ++ if bk = true then ks.map kkD else [])) none := by
  have wl := S.wl
  have kl := S.kl
  let fT : Fe Bool := cmS eqD (pkS (fzE (ixS (pvS 3) (pkS (cS (.int 0)))))) (pkS (cS (.str key)))
  let ft := ttS 2 (tlC (tnS 3) (tlC (tnS 10) tlN))
  let sl : List Sl := [.no, .val (.list ((lnW n ws ks).map lD)), .no, .no, .val (.list (toldD n ws ks)), s5, .no, .no, .no, .no, .no]
  have t1 : fT [.no, .val (.list ((lnW n ws ks).map lD)), .no, .val (lD (hdW n)), .val (.list (toldD n ws ks)), s5, .no, .no, .no, .no, .val (.tuple [.int n])] none = .ok false none := by simp [fT, fnM, outFd, O.sq, O.kl, kill, sqO, klO, pkO, nilO, ifO, reO, rvO, rnO, exO, raO, setO, parO, tgO, forO, stO, putO, appO, extO, appM, popM, R.st, R.bind, R.opt, R.frz, PD.frz, frzS, pvS, evS, gvS, cS, pkS, rsS, fzE, opS, cmS, blS, biS, nlS, cnS, trS, ntS, nvS, neS, itS, tuS, liS, ixS, slS, isS, lrS, caS, ckS, dnS, yesS, tnS, tlN, tlC, ttS, andE, orE, andT, orT, chnE, chnK, lookP, lookPs, callE, strM, getE, partE, bo, blO, setFd, unfd, addD, subD, mulD, fdivD, modD, powD, leD, gtD, geD, cmpI, neD, isnD, ninD, truthD, gInt, gLen, gStr, PD.gTup, gList, gMax, gMin, isi1, isi2, isiD, isiS, tyN, noScr, idxD, atI, ixN, List.getElem?_cons_zero, List.getElem?_cons_succ, List.set_cons_zero, List.set_cons_succ, List.cons_append, List.nil_append, List.length_cons, List.length_nil, List.replicate_succ, List.replicate_zero, Option.map_some, Option.map_none, Option.bind_some, Option.bind_none, Bool.false_eq_true, if_true, if_false, true_and, and_true, and_false, false_and, Option.isSome_some, Option.isSome_none, List.any_cons, List.any_nil, Bool.or_true, Bool.or_false, Bool.true_or, Bool.false_or, Bool.not_true, Bool.not_false, Bool.and_true, Bool.true_and, Bool.and_false, Bool.false_and, decide_true, decide_false, eq_self, reduceIte, reduceCtorEq, lD, hdW, e1]
  have t2 : ∀ w : Wt, fT [.no, .val (.list ((lnW n ws ks).map lD)), .no, .val (lD (wtW w)), .val (.list (toldD n ws ks)), s5, .no, .no, .no, .no, .val (wD w)] none = .ok bw none := fun w => by simp [fT, fnM, outFd, O.sq, O.kl, kill, sqO, klO, pkO, nilO, ifO, reO, rvO, rnO, exO, raO, setO, parO, tgO, forO, stO, putO, appO, extO, appM, popM, R.st, R.bind, R.opt, R.frz, PD.frz, frzS, pvS, evS, gvS, cS, pkS, rsS, fzE, opS, cmS, blS, biS, nlS, cnS, trS, ntS, nvS, neS, itS, tuS, liS, ixS, slS, isS, lrS, caS, ckS, dnS, yesS, tnS, tlN, tlC, ttS, andE, orE, andT, orT, chnE, chnK, lookP, lookPs, callE, strM, getE, partE, bo, blO, setFd, unfd, addD, subD, mulD, fdivD, modD, powD, leD, gtD, geD, cmpI, neD, isnD, ninD, truthD, gInt, gLen, gStr, PD.gTup, gList, gMax, gMin, isi1, isi2, isiD, isiS, tyN, noScr, idxD, atI, ixN, List.getElem?_cons_zero, List.getElem?_cons_succ, List.set_cons_zero, List.set_cons_succ, List.cons_append, List.nil_append, List.length_cons, List.length_nil, List.replicate_succ, List.replicate_zero, Option.map_some, Option.map_none, Option.bind_some, Option.bind_none, Bool.false_eq_true, if_true, if_false, true_and, and_true, and_false, false_and, Option.isSome_some, Option.isSome_none, List.any_cons, List.any_nil, Bool.or_true, Bool.or_false, Bool.true_or, Bool.false_or, Bool.not_true, Bool.not_false, Bool.and_true, Bool.true_and, Bool.and_false, Bool.false_and, decide_true, decide_false, eq_self, reduceIte, reduceCtorEq, lD, wtW, e2]
  have t3 : ∀ w : Wk, fT [.no, .val (.list ((lnW n ws ks).map lD)), .no, .val (lD (wkW w)), .val (.list (toldD n ws ks)), s5, .no, .no, .no, .no, .val (kkD w)] none = .ok bk none := fun w => by simp [fT, fnM, outFd, O.sq, O.kl, kill, sqO, klO, pkO, nilO, ifO, reO, rvO, rnO, exO, raO, setO, parO, tgO, forO, stO, putO, appO, extO, appM, popM, R.st, R.bind, R.opt, R.frz, PD.frz, frzS, pvS, evS, gvS, cS, pkS, rsS, fzE, opS, cmS, blS, biS, nlS, cnS, trS, ntS, nvS, neS, itS, tuS, liS, ixS, slS, isS, lrS, caS, ckS, dnS, yesS, tnS, tlN, tlC, ttS, andE, orE, andT, orT, chnE, chnK, lookP, lookPs, callE, strM, getE, partE, bo, blO, setFd, unfd, addD, subD, mulD, fdivD, modD, powD, leD, gtD, geD, cmpI, neD, isnD, ninD, truthD, gInt, gLen, gStr, PD.gTup, gList, gMax, gMin, isi1, isi2, isiD, isiS, tyN, noScr, idxD, atI, ixN, List.getElem?_cons_zero, List.getElem?_cons_succ, List.set_cons_zero, List.set_cons_succ, List.cons_append, List.nil_append, List.length_cons, List.length_nil, List.replicate_succ, List.replicate_zero, Option.map_some, Option.map_none, Option.bind_some, Option.bind_none, Bool.false_eq_true, if_true, if_false, true_and, and_true, and_false, false_and, Option.isSome_some, Option.isSome_none, List.any_cons, List.any_nil, Bool.or_true, Bool.or_false, Bool.true_or, Bool.false_or, Bool.not_true, Bool.not_false, Bool.and_true, Bool.true_and, Bool.and_false, Bool.false_and, decide_true, decide_false, eq_self, reduceIte, reduceCtorEq, lD, wkW, e3]
  have g1 := lcGo_map (ft := ft) (fT := fT) (fE := evS 10) (sl := sl) (fd := none) (fun _ => false) id [.tuple [lD (hdW n), .tuple [.int n]]] (fun x hx => by
    obtain rfl := List.mem_singleton.mp hx
    exact ⟨_, rfl, t1, fun z => by cases z⟩)
  have snd2 : ∀ ds : List D, (∀ d ∈ ds, ∃ a b, d = .tuple [a, b]) → True := fun _ _ => trivial
  have g2 := lcGo_map (ft := ft) (fT := fT) (fE := evS 10) (sl := sl) (fd := none) (fun _ => bw) sndD (ws.map (fun w => .tuple [lD (wtW w), wD w])) (fun x hx => by
    obtain ⟨w, _, rfl⟩ := List.mem_map.mp hx
    exact ⟨_, rfl, t2 w, fun _ => rfl⟩)
  have g3 := lcGo_map (ft := ft) (fT := fT) (fE := evS 10) (sl := sl) (fd := none) (fun _ => bk) sndD (ks.map (fun w => .tuple [lD (wkW w), kkD w])) (fun x hx => by
    obtain ⟨w, _, rfl⟩ := List.mem_map.mp hx
    exact ⟨_, rfl, t3 w, fun _ => rfl⟩)
  have g23 := lcGo_app _ _ _ _ g2 (fun x hx => by
    obtain ⟨w, _, rfl⟩ := List.mem_map.mp hx
    exact ⟨_, bw, rfl, t2 w, fun _ => ⟨_, rfl⟩⟩) g3
  have g := lcGo_app _ _ _ _ g1 (fun x hx => by
    obtain rfl := List.mem_singleton.mp hx
    exact ⟨_, false, rfl, t1, fun z => by cases z⟩) g23
  have f : ∀ (b : Bool) (ds : List D), ds.filter (fun _ => b) = if b = true then ds else [] := fun b ds => by cases b <;> simp
  rw [f, f, f] at g
  have r := lcE_ok (own := [3, 10]) (fi := zipE (cnS (pvS 1) (cnS (pvS 4) nlS))) (sl := sl) (fd := none) (fz := true) (items := zipT ((lnW n ws ks).map lD) (toldD n ws ks)) (fd1 := none) rfl (by rw [zip_rows]; simp; omega) (by rw [zip_rows]; exact g)
  refine r.trans ?_
  congr 2
  have q2 : (ws.map (fun w => PyData.tuple [lD (wtW w), wD w])).map sndD = ws.map wD := by rw [List.map_map]; rfl
  have q3 : (ks.map (fun w => PyData.tuple [lD (wkW w), kkD w])).map sndD = ks.map kkD := by rw [List.map_map]; rfl
  cases bw <;> cases bk <;> simp only [if_true, Bool.false_eq_true, if_false, q2, q3, List.map_nil, List.nil_append, List.append_nil]
end K73

namespace K73
open PySem PySem.Spec PyProof.Rows L2 PD TL
theorem q_ew : eqD (.str "events") (.str "wait") = some false := by rw [eqD_str, decide_eq_false (by decide +kernel)]
theorem q_ek : eqD (.str "events") (.str "work") = some false := by rw [eqD_str, decide_eq_false (by decide +kernel)]
theorem q_ww : eqD (.str "wait") (.str "wait") = some true := by rw [eqD_str, decide_eq_true rfl]
theorem q_wk : eqD (.str "wait") (.str "work") = some false := by rw [eqD_str, decide_eq_false (by decide +kernel)]
theorem q_kw : eqD (.str "work") (.str "wait") = some false := by rw [eqD_str, decide_eq_false (by decide +kernel)]
theorem q_kk : eqD (.str "work") (.str "work") = some true := by rw [eqD_str, decide_eq_true rfl]
theorem n_ee : neD (.str "events") (.str "events") = some false := by unfold neD; rw [eqD_str, decide_eq_true rfl]; rfl
theorem ix_hd (n : Int) (ws : List Wt) (ks : List Wk) : idxD (.list ((lnW n ws ks).map lD)) (.int 0) = some (lD (hdW n)) := by
  show atI _ _ = _
  unfold atI ixN
  rw [if_pos (by decide : (0 : Int) ≤ 0), if_pos (by rw [List.length_map]; simp only [lnW, List.length_cons]; omega)]
  rfl
theorem ix_told (n : Int) (ws : List Wt) (ks : List Wk) : idxD (.list (toldD n ws ks)) (.int 0) = some (.tuple [.int n]) := by
  show atI _ _ = _
  unfold atI ixN
  rw [if_pos (by decide : (0 : Int) ≤ 0), if_pos (by simp only [toldD, List.length_cons]; omega)]
  rfl
theorem ix_ev (n : Int) : idxD (lD (hdW n)) (.int 0) = some (.str "events") := rfl
theorem ix_n (n : Int) : idxD (.tuple [.int n]) (.int 0) = some (.int n) := rfl
theorem heads_sorted (ws : List Wt) (ks : List Wk) : gSorted [.list (heads ws ks)] = some (.lst (heads ws ks)) := by
  simp only [gSorted, heads_srtOk, heads_srt, if_true]
theorem readplan_ok {n : Int} {ws : List Wt} {ks : List Wk} (P : PlanOk n ws ks) : m_read_plan [.val (.str (textS n ws ks))] none = .ok (.val (planD n ws ks)) none := by
  have S := P.sm
  have tl0 := text_len S
  have tz : (textS n ws ks).length ≤ sizeLine := Nat.le_trans (by omega) sizeLine_big
  have t2 : ¬ ((20000 : Int) < ((textS n ws ks).length : Int)) := by omega
  have c1 := lines_go S .no
  have lp := chk_loop S (.val (.list ((lnW n ws ks).map lD))) (lnW n ws ks) (fun _ h => h)
  unfold chkBody at lp
  have hd := heads_go S .no
  have hd7 := heads_go S (.val (planD n ws ks))
  have tg := told_go S
  unfold toldE at tg
  have r1 := rows_go S "wait" true false .no q_ew q_ww q_kw
  have r2 := rows_go S "work" false true (.val (.tuple (ws.map wD))) q_ek q_wk q_kk
  have fo := form_ok P
  have z3 : (3 : Nat) ≤ sizeLine := Nat.le_trans (by decide) sizeLine_big
  simp only [if_true, Bool.false_eq_true, if_false, List.append_nil, List.nil_append] at r1 r2
  have fold : (PyData.tuple [.int n, .tuple (ws.map wD), .tuple (ks.map kkD)]) = planD n ws ks := rfl
  simp [m_read_plan, b_read_plan, fnM, outFd, O.sq, O.kl, kill, sqO, klO, pkO, nilO, ifO, reO, rvO, rnO, exO, raO, setO, parO, tgO, forO, stO, putO, appO, extO, appM, popM, R.st, R.bind, R.opt, R.frz, PD.frz, frzS, pvS, evS, gvS, cS, pkS, rsS, fzE, opS, cmS, blS, biS, nlS, cnS, trS, ntS, nvS, neS, itS, tuS, liS, ixS, slS, isS, lrS, caS, ckS, dnS, yesS, tnS, tlN, tlC, ttS, andE, orE, andT, orT, chnE, chnK, lookP, lookPs, callE, strM, getE, partE, bo, blO, setFd, unfd, addD, subD, mulD, fdivD, modD, powD, leD, gtD, geD, cmpI, isnD, ninD, truthD, gInt, gLen, gStr, PD.gTup, gList, gMax, gMin, isi1, isi2, isiD, isiS, tyN, noScr, List.getElem?_cons_zero, List.getElem?_cons_succ, List.set_cons_zero, List.set_cons_succ, List.cons_append, List.nil_append, List.length_cons, List.length_nil, List.replicate_succ, List.replicate_zero, Option.map_some, Option.map_none, Option.bind_some, Option.bind_none, Bool.false_eq_true, if_true, if_false, true_and, and_true, and_false, false_and, Option.isSome_some, Option.isSome_none, List.any_cons, List.any_nil, Bool.or_true, Bool.or_false, Bool.true_or, Bool.false_or, Bool.not_true, Bool.not_false, Bool.and_true, Bool.true_and, Bool.and_false, Bool.false_and, decide_true, decide_false, eq_self, reduceIte, reduceCtorEq, c1, want_eq, lenD, tz, t2, seqE, itemsD, notFd, fzP, lp, hd, hd7, tg, r1, r2, ix_hd, ix_told, ix_ev, ix_n, n_ee, heads_sorted, heads_ne, heads_in, z3, fold, fo]
end K73

namespace K73
open PySem PySem.Spec PyProof.Rows L2 PD TL
/-! the dict of waits -/
def entD (w : Wt) : D × D := (keyD w, .int w.2.2)
def sameK (x w : Wt) : Bool := x.1 == w.1 && x.2.1 == w.2.1
theorem kq_key (x w : Wt) : kq (keyD x) (keyD w) = sameK x w := by simp [keyD, kq, kqs, sameK]
def putW (ws : List Wt) (w : Wt) : List Wt := if (ws.any fun x => sameK x w) = true then ws.map (fun x => if sameK x w = true then (x.1, x.2.1, w.2.2) else x) else ws ++ [w]
theorem dput_ent (ws : List Wt) (w : Wt) : dput (ws.map entD) (keyD w) (.int w.2.2) = (putW ws w).map entD := by
  unfold dput putW
  have e : (ws.map entD).any (fun p => kq p.1 (keyD w)) = ws.any fun x => sameK x w := by
    rw [List.any_map]; congr 1; funext x; exact kq_key x w
  rw [e]
  split
  · rw [List.map_map, List.map_map]
    refine List.map_congr_left fun x _ => ?_
    show (if kq (keyD x) (keyD w) = true then (keyD x, PyData.int w.2.2) else entD x) = entD (if sameK x w = true then (x.1, x.2.1, w.2.2) else x)
    rw [kq_key]
    split <;> rfl
  · simp [entD]
structure WsOk (n m : Int) (ws : List Wt) : Prop where
  w : ∀ w ∈ ws, 0 ≤ w.1 ∧ w.1 < n ∧ 0 ≤ w.2.1 ∧ w.2.1 < n ∧ w.1 ≠ w.2.1 ∧ -m ≤ w.2.2 ∧ w.2.2 ≤ m
  nd : ws.Pairwise fun x y => sameK x y = false
theorem sameK_iff {x w : Wt} : sameK x w = true ↔ x.1 = w.1 ∧ x.2.1 = w.2.1 := by simp [sameK]
theorem putW_ok {n m : Int} {ws : List Wt} {w : Wt} (h : WsOk n m ws) (hw : 0 ≤ w.1 ∧ w.1 < n ∧ 0 ≤ w.2.1 ∧ w.2.1 < n ∧ w.1 ≠ w.2.1 ∧ -m ≤ w.2.2 ∧ w.2.2 ≤ m) : WsOk n m (putW ws w) ∧ (putW ws w).length ≤ ws.length + 1 := by
  unfold putW
  split
  · refine ⟨⟨fun x hx => ?_, ?_⟩, by rw [List.length_map]; omega⟩
    · obtain ⟨y, hy, rfl⟩ := List.mem_map.mp hx
      have := h.w y hy
      split
      · obtain ⟨a, b, c, d, e, _, _⟩ := this
        exact ⟨a, b, c, d, e, hw.2.2.2.2.2.1, hw.2.2.2.2.2.2⟩
      · exact this
    · rw [List.pairwise_map]
      refine h.nd.imp fun {x y} hxy => ?_
      have k : ∀ z : Wt, (if sameK z w = true then (z.1, z.2.1, w.2.2) else z).1 = z.1 ∧ (if sameK z w = true then (z.1, z.2.1, w.2.2) else z).2.1 = z.2.1 := fun z => by split <;> exact ⟨rfl, rfl⟩
      have cg : ∀ a b a' b' : Wt, a.1 = a'.1 → a.2.1 = a'.2.1 → b.1 = b'.1 → b.2.1 = b'.2.1 → sameK a b = sameK a' b' := fun a b a' b' h1 h2 h3 h4 => by unfold sameK; rw [h1, h2, h3, h4]
      exact (cg _ _ x y (k x).1 (k x).2 (k y).1 (k y).2).trans hxy
  · rename_i hn
    refine ⟨⟨fun x hx => ?_, ?_⟩, by simp⟩
    · rcases List.mem_append.mp hx with hx | hx
      · exact h.w x hx
      · obtain rfl := List.mem_singleton.mp hx; exact hw
    · refine List.pairwise_append.mpr ⟨h.nd, List.pairwise_singleton _ _, fun x hx y hy => ?_⟩
      obtain rfl := List.mem_singleton.mp hy
      cases q : sameK x y with
      | false => rfl
      | true => exact absurd (List.any_eq_true.mpr ⟨x, hx, q⟩) hn
/-! sorted -/
def sortW (ws : List Wt) : List Wt := ws.mergeSort (W.dataLe false keyD)
theorem le_key (x y : Wt) : W.dataLe false keyD x y = decide (x.1 < y.1 ∨ (x.1 = y.1 ∧ x.2.1 ≤ y.2.1)) := by
  have := W.dataLe_ii (β := Wt) (fun w => w.1) (fun w => w.2.1)
  exact congrFun (congrFun this x) y
theorem srt_keys (ws : List Wt) : srt (ws.map keyD) = (sortW ws).map keyD := by
  unfold srt sortW
  exact (W.sort_maps (r := W.dataLe false keyD) (s := W.dataLe false id) (l := ws) keyD (fun a _ b _ => rfl)).symm
theorem sortW_perm (ws : List Wt) : (sortW ws).Perm ws := List.mergeSort_perm ..
theorem sortW_asc {n m : Int} {ws : List Wt} (h : WsOk n m ws) : (sortW ws).Pairwise fun x y => wLt x y = true := by
  have p1 : (sortW ws).Pairwise fun x y => W.dataLe false keyD x y = true := List.pairwise_mergeSort (le := W.dataLe false keyD)
    (fun a b c h1 h2 => by rw [le_key] at *; simp at *; omega) (fun a b => by rw [le_key, le_key]; simp; omega) ws
  have p2 : (sortW ws).Pairwise fun x y => sameK x y = false := (sortW_perm ws).symm.pairwise h.nd fun {x y} hxy => by
    unfold sameK at *
    simp at *
    intro e q; exact hxy e.symm q.symm
  refine (p1.and p2).imp fun {x y} ⟨h1, h2⟩ => ?_
  rw [le_key] at h1
  unfold sameK at h2
  unfold wLt
  simp at *
  omega
theorem zip_tail {α : Type} {R : α → α → Prop} : ∀ {l : List α}, l.Pairwise R → ∀ p ∈ l.zip (l.drop 1), R p.1 p.2
  | [], _, p, hp => by simp at hp
  | [_], _, p, hp => by simp at hp
  | x :: y :: l, h, p, hp => by
    rcases List.mem_cons.mp (show p ∈ (x, y) :: (y :: l).zip l from hp) with rfl | hp
    · exact (List.pairwise_cons.mp h).1 y (by simp)
    · exact zip_tail (List.pairwise_cons.mp h).2 p hp
theorem keys_srtOk (ws : List Wt) : srtOk (ws.map keyD) = true := by
  unfold srtOk
  simp only [Bool.and_eq_true, Bool.or_eq_true, List.all_eq_true, decide_eq_true_eq]
  refine ⟨⟨fun d hd e he => ?_, .inl fun d hd => ?_⟩, fun d hd => ?_⟩
  · obtain ⟨x, _, rfl⟩ := List.mem_map.mp hd
    obtain ⟨y, _, rfl⟩ := List.mem_map.mp he
    simp [keyD, W.alike, W.alikeAll]
  · obtain ⟨x, _, rfl⟩ := List.mem_map.mp hd; rfl
  · obtain ⟨x, _, rfl⟩ := List.mem_map.mp hd; simp [keyD, PyData.depth, PyData.depthAll]
theorem look_ent : ∀ {ws : List Wt} {w : Wt}, ws.Pairwise (fun x y => sameK x y = false) → w ∈ ws → dlook (ws.map entD) (keyD w) = some (.int w.2.2)
  | [], _, _, h => by cases h
  | x :: ws, w, nd, h => by
    have nd' := List.pairwise_cons.mp nd
    unfold dlook
    rw [List.map_cons, List.find?_cons]
    show (match kq (keyD x) (keyD w) with
      | true => some (entD x)
      | false => List.find? _ _).map _ = _
    rw [kq_key]
    rcases List.mem_cons.mp h with rfl | h
    · have : sameK w w = true := by simp [sameK]
      rw [this]; rfl
    · rw [nd'.1 w h]
      exact look_ent nd'.2 h
theorem get_ent {n m : Int} {ws : List Wt} {w : Wt} (h : WsOk n m ws) (hw : w ∈ ws) : idxD (.dict ((.bool true, .none) :: ws.map entD)) (keyD w) = some (.int w.2.2) := by
  have e := look_ent h.nd hw
  simp [idxD, dgetD, dparts, keyOk, isTKey, keyD, isKey] at e ⊢
  exact e
theorem sorted_ent (ws : List Wt) (hl : ws.length ≤ 1000) : gSorted [.dict ((.bool true, .none) :: ws.map entD)] = some (.lst ((sortW ws).map keyD)) := by
  have e : (ws.map entD).map (·.1) = ws.map keyD := by rw [List.map_map]; rfl
  have k : ((ws.map entD).all fun p => isTKey p.1) = true := by
    rw [List.all_map, List.all_eq_true]
    intro x _; rfl
  have z : (ws.map entD).length ≤ sizeLine := by rw [List.length_map]; exact Nat.le_trans (by omega) sizeLine_big
  show (if srtOk ((ws.map entD).map (·.1)) = true ∧ (ws.map entD).length ≤ sizeLine ∧ ((ws.map entD).all fun p => isTKey p.1) = true then some (Sl.lst (srt ((ws.map entD).map (·.1)))) else none) = _
  rw [e, if_pos ⟨keys_srtOk ws, z, k⟩, srt_keys]
end K73

namespace K73
open PySem PySem.Spec PyProof.Rows L2 PD TL
abbrev waitB : Fs := (sqO (klO [4] (parO 5 6 (frzS (caS 2 m_law_draw (cnS (gvS 0) (cnS (gvS 1) nlS)))) (frzS (caS 2 m_law_draw (cnS (gvS 0) (cnS (gvS 1) nlS))))))
  (klO [5, 6] (ifO (cmS neD (pvS 5) (pvS 6)) (klO [5, 6] (stO 2 (fzE (opS subD (pkS (fzE (caS 2 m_law_draw (cnS (gvS 0) (cnS (rsS (fzE (opS addD (pkS (fzE (opS mulD (pkS (cS (.int 2))) (pvS 3)))) (pkS (cS (.int 1)))))) nlS))))) (pvS 3))) (fzE (tuS (cnS (evS 5) (cnS (evS 6) nlS)))))) nilO)))
theorem big60 {B : Nat} (h : B < 100000000000000000) : B < 2 ^ 60 := Nat.lt_trans h (by decide)
theorem big64 {i : Int} (h : i ≤ 10000000) : i < 2 ^ 64 := by
  have e64 : (2 : Int) ^ 64 = 18446744073709551616 := by decide
  omega
theorem wait_turn {B : Nat} {xs : List D} {n m : Int} {ws : List Wt} (p : Bool) (d : D) (F : FeedOk B xs) (hB : B + 3 < 100000000000000000) (hn : 1 ≤ n) (hn2 : n ≤ 40) (hm : 0 ≤ m) (hm2 : m ≤ 1000000) (W : WsOk n m ws) (hl : ws.length ≤ 1000) :
    ∃ ws' ys, waitB [.fd, .val (.int n), .dT (ws.map entD), .val (.int m), .val d, .no, .no, .no, .no] (some (p, xs)) = .nx [.fd, .val (.int n), .dT (ws'.map entD), .val (.int m), .no, .no, .no, .no, .no] (some (p, ys)) ∧ FeedOk (B + 3) ys ∧ WsOk n m ws' ∧ ws'.length ≤ ws.length + 1 := by
  obtain ⟨a, y1, e1, F1, a0, a1⟩ := draw_ok true (many := n) F (big60 (by omega)) (by omega) (big64 (by omega))
  obtain ⟨b, y2, e2, F2, b0, b1⟩ := draw_ok true (many := n) F1 (big60 (by omega)) (by omega) (big64 (by omega))
  by_cases hab : a = b
  · refine ⟨ws, y2, ?_, F2.mono (by omega), W, by omega⟩
    simp [waitB, fnM, outFd, O.sq, O.kl, kill, sqO, klO, pkO, nilO, ifO, reO, rvO, rnO, exO, raO, setO, parO, tgO, forO, stO, putO, appO, extO, appM, popM, R.st, R.bind, R.opt, R.frz, PD.frz, frzS, pvS, evS, gvS, cS, pkS, rsS, fzE, opS, cmS, blS, biS, nlS, cnS, trS, ntS, nvS, neS, itS, tuS, liS, ixS, slS, isS, lrS, caS, ckS, dnS, yesS, tnS, tlN, tlC, ttS, andE, orE, andT, orT, chnE, chnK, lookP, lookPs, callE, strM, getE, partE, bo, blO, setFd, unfd, addD, subD, mulD, fdivD, modD, powD, leD, gtD, geD, cmpI, isnD, ninD, truthD, gInt, gLen, gStr, PD.gTup, gList, gMax, gMin, isi1, isi2, isiD, isiS, tyN, noScr, idxD, atI, ixN, List.getElem?_cons_zero, List.getElem?_cons_succ, List.set_cons_zero, List.set_cons_succ, List.cons_append, List.nil_append, List.length_cons, List.length_nil, List.replicate_succ, List.replicate_zero, Option.map_some, Option.map_none, Option.bind_some, Option.bind_none, Bool.false_eq_true, if_true, if_false, true_and, and_true, and_false, false_and, Option.isSome_some, Option.isSome_none, List.any_cons, List.any_nil, Bool.or_true, Bool.or_false, Bool.true_or, Bool.false_or, Bool.not_true, Bool.not_false, Bool.and_true, Bool.true_and, Bool.and_false, Bool.false_and, decide_true, decide_false, eq_self, reduceIte, reduceCtorEq, neD_i, e1, e2, hab]
  · obtain ⟨c, y3, e3, F3, c0, c1⟩ := draw_ok true (many := 2 * m + 1) F2 (big60 (by omega)) (by omega) (big64 (by omega))
    have ok := putW_ok (w := (a, b, c - m)) W ⟨a0, a1, b0, b1, hab, by show -m ≤ c - m; omega, by show c - m ≤ m; omega⟩
    have dp := dput_ent ws (a, b, c - m)
    simp only [keyD] at dp
    have z : ws.length < sizeLine := Nat.lt_of_le_of_lt hl (Nat.lt_of_lt_of_le (by decide) sizeLine_big)
    have z2 : (2 : Nat) ≤ sizeLine := Nat.le_trans (by decide) sizeLine_big
    refine ⟨putW ws (a, b, c - m), y3, ?_, F3, ok.1, ok.2⟩
    simp [waitB, fnM, outFd, O.sq, O.kl, kill, sqO, klO, pkO, nilO, ifO, reO, rvO, rnO, exO, raO, setO, parO, tgO, forO, stO, putO, appO, extO, appM, popM, R.st, R.bind, R.opt, R.frz, PD.frz, frzS, pvS, evS, gvS, cS, pkS, rsS, fzE, opS, cmS, blS, biS, nlS, cnS, trS, ntS, nvS, neS, itS, tuS, liS, ixS, slS, isS, lrS, caS, ckS, dnS, yesS, tnS, tlN, tlC, ttS, andE, orE, andT, orT, chnE, chnK, lookP, lookPs, callE, strM, getE, partE, bo, blO, setFd, unfd, addD, subD, mulD, fdivD, modD, powD, leD, gtD, geD, cmpI, isnD, ninD, truthD, gInt, gLen, gStr, PD.gTup, gList, gMax, gMin, isi1, isi2, isiD, isiS, tyN, noScr, idxD, atI, ixN, List.getElem?_cons_zero, List.getElem?_cons_succ, List.set_cons_zero, List.set_cons_succ, List.cons_append, List.nil_append, List.length_cons, List.length_nil, List.replicate_succ, List.replicate_zero, Option.map_some, Option.map_none, Option.bind_some, Option.bind_none, Bool.false_eq_true, if_true, if_false, true_and, and_true, and_false, false_and, Option.isSome_some, Option.isSome_none, List.any_cons, List.any_nil, Bool.or_true, Bool.or_false, Bool.true_or, Bool.false_or, Bool.not_true, Bool.not_false, Bool.and_true, Bool.true_and, Bool.and_false, Bool.false_and, decide_true, decide_false, eq_self, reduceIte, reduceCtorEq, neD_i, e1, e2, e3, hab, isTKey, isKey, z, z2, dp]
theorem wait_loop {n m : Int} (p : Bool) (hn : 1 ≤ n) (hn2 : n ≤ 40) (hm : 0 ≤ m) (hm2 : m ≤ 1000000) : ∀ (items : List D) (B : Nat) (xs : List D) (ws : List Wt) (s4 : Sl), FeedOk B xs → B + 3 * items.length < 100000000000000000 → WsOk n m ws → ws.length + items.length ≤ 1000 →
    ∃ (ws' : List Wt) (ys : List D) (s4' : Sl), forGo (tnS 4) waitB items [.fd, .val (.int n), .dT (ws.map entD), .val (.int m), s4, .no, .no, .no, .no] (some (p, xs)) = .nx [.fd, .val (.int n), .dT (ws'.map entD), .val (.int m), s4', .no, .no, .no, .no] (some (p, ys)) ∧ FeedOk (B + 3 * items.length) ys ∧ WsOk n m ws' ∧ ws'.length ≤ ws.length + items.length
  | [], B, xs, ws, s4, F, _, W, _ => ⟨ws, xs, s4, rfl, F, W, by simp⟩
  | d :: ds, B, xs, ws, s4, F, hB, W, hl => by
    simp only [List.length_cons] at hB hl
    obtain ⟨ws1, y1, e1, F1, W1, l1⟩ := wait_turn p d F (by omega) hn hn2 hm hm2 W (by omega)
    obtain ⟨ws2, y2, s4', e2, F2, W2, l2⟩ := wait_loop p hn hn2 hm hm2 ds (B + 3) y1 ws1 .no F1 (by omega) W1 (by omega)
    refine ⟨ws2, y2, s4', ?_, F2.mono (by simp only [List.length_cons]; omega), W2, by simp only [List.length_cons]; omega⟩
    unfold forGo
    show (match waitB [.fd, .val (.int n), .dT (ws.map entD), .val (.int m), .val d, .no, .no, .no, .no] (some (p, xs)) with
      | .nx sl2 fd2 => forGo (tnS 4) waitB ds sl2 fd2
      | .ct sl2 fd2 => forGo (tnS 4) waitB ds sl2 fd2
      | .brk sl2 fd2 => .nx sl2 fd2
      | o => o) = _
    rw [e1]
    exact e2
/-! works -/
def rngL (n : Int) : List D := (List.range n.toNat).map fun i => .int (i : Nat)
abbrev workB : Fs := klO [4] (appO 7 (fzE (biS PD.gTup (cnS (pkS (fzE (slS (pkS (fzE (caS 2 m_law_mixed (cnS (gvS 0) (cnS (rsS (fzE (lrS (evS 1)))) nlS))))) none (some (cS (.int 2)))))) nlS))))
theorem two_of {n : Int} {out : List D} (hn : 2 ≤ n) (h : out.Perm (rngL n)) : ∃ (i j : Int) (r : List D), out = .int i :: .int j :: r ∧ 0 ≤ i ∧ i < n ∧ 0 ≤ j ∧ j < n ∧ i ≠ j := by
  have hl : out.length = n.toNat := by rw [h.length_eq]; simp [rngL]
  have nd : (rngL n).Nodup := by
    unfold rngL
    exact List.Pairwise.map _ (fun a b hab e => hab (by injection e with e; exact Int.ofNat.inj e)) List.nodup_range
  have ndo : out.Nodup := h.nodup_iff.mpr nd
  have mem : ∀ d ∈ out, ∃ i : Int, d = .int i ∧ 0 ≤ i ∧ i < n := fun d hd => by
    have := h.mem_iff.mp hd
    unfold rngL at this
    obtain ⟨k, hk, rfl⟩ := List.mem_map.mp this
    have := List.mem_range.mp hk
    exact ⟨(k : Nat), rfl, by omega, by omega⟩
  match out, hl, ndo, mem with
  | [], hl, _, _ => simp at hl; omega
  | [_], hl, _, _ => simp at hl; omega
  | x :: y :: r, _, ndo, mem =>
    obtain ⟨i, rfl, i0, i1⟩ := mem x (by simp)
    obtain ⟨j, rfl, j0, j1⟩ := mem y (by simp)
    refine ⟨i, j, r, rfl, i0, i1, j0, j1, fun e => ?_⟩
    subst e
    have := (List.nodup_cons.mp ndo).1
    simp at this
theorem work_turn {B : Nat} {xs : List D} {n : Int} {es : List (D × D)} {ks : List Wk} (p : Bool) (d : D) (F : FeedOk B xs) (hB : B + 40 < 100000000000000000) (hn : 2 ≤ n) (hn2 : n ≤ 40) (hl : ks.length ≤ 1000) (s3 : Sl) :
    ∃ k ys, workB [.fd, .val (.int n), .dT es, s3, .val d, .no, .no, .lst (ks.map kkD), .no] (some (p, xs)) = .nx [.fd, .val (.int n), .dT es, s3, .no, .no, .no, .lst ((ks ++ [k]).map kkD), .no] (some (p, ys)) ∧ FeedOk (B + 40) ys ∧ (0 ≤ k.1 ∧ k.1 < n ∧ 0 ≤ k.2 ∧ k.2 < n ∧ k.1 ≠ k.2) := by
  have ln : (rngL n).length = n.toNat := by simp [rngL]
  obtain ⟨out, ys, e, F', pm⟩ := mixed_ok true (things := rngL n) F (by rw [ln]; omega) (by rw [ln]; omega)
  obtain ⟨i, j, r, rfl, i0, i1, j0, j1, ij⟩ := two_of hn pm
  refine ⟨(i, j), ys, ?_, F'.mono (by rw [ln]; omega), i0, i1, j0, j1, ij⟩
  have lr : lrD (.int n) = some (.lst (rngL n)) := by
    show (if 0 ≤ n ∧ n ≤ 16777216 then some (Sl.lst (rngL n)) else none) = _
    rw [if_pos ⟨by omega, by omega⟩]
  have z : ks.length < sizeLine := Nat.lt_of_le_of_lt hl (Nat.lt_of_lt_of_le (by decide) sizeLine_big)
  simp [workB, fnM, outFd, O.sq, O.kl, kill, sqO, klO, pkO, nilO, ifO, reO, rvO, rnO, exO, raO, setO, parO, tgO, forO, stO, putO, appO, extO, appM, popM, R.st, R.bind, R.opt, R.frz, PD.frz, frzS, pvS, evS, gvS, cS, pkS, rsS, fzE, opS, cmS, blS, biS, nlS, cnS, trS, ntS, nvS, neS, itS, tuS, liS, ixS, slS, isS, lrS, caS, ckS, dnS, yesS, tnS, tlN, tlC, ttS, andE, orE, andT, orT, chnE, chnK, lookP, lookPs, callE, strM, getE, partE, bo, blO, setFd, unfd, addD, subD, mulD, fdivD, modD, powD, leD, gtD, geD, cmpI, neD, isnD, ninD, truthD, gInt, gLen, gStr, PD.gTup, gList, gMax, gMin, isi1, isi2, isiD, isiS, tyN, noScr, idxD, atI, ixN, List.getElem?_cons_zero, List.getElem?_cons_succ, List.set_cons_zero, List.set_cons_succ, List.cons_append, List.nil_append, List.length_cons, List.length_nil, List.replicate_succ, List.replicate_zero, Option.map_some, Option.map_none, Option.bind_some, Option.bind_none, Bool.false_eq_true, if_true, if_false, true_and, and_true, and_false, false_and, Option.isSome_some, Option.isSome_none, List.any_cons, List.any_nil, Bool.or_true, Bool.or_false, Bool.true_or, Bool.false_or, Bool.not_true, Bool.not_false, Bool.and_true, Bool.true_and, Bool.and_false, Bool.false_and, decide_true, decide_false, eq_self, reduceIte, reduceCtorEq, lr, e, sliD, cut2, z, kkD]
theorem work_loop {n : Int} {es : List (D × D)} (p : Bool) (hn : 2 ≤ n) (hn2 : n ≤ 40) (s3 : Sl) : ∀ (items : List D) (B : Nat) (xs : List D) (ks : List Wk) (s4 : Sl), FeedOk B xs → B + 40 * items.length < 100000000000000000 → ks.length + items.length ≤ 1000 → (∀ k ∈ ks, 0 ≤ k.1 ∧ k.1 < n ∧ 0 ≤ k.2 ∧ k.2 < n ∧ k.1 ≠ k.2) →
    ∃ (ks' : List Wk) (ys : List D) (s4' : Sl), forGo (tnS 4) workB items [.fd, .val (.int n), .dT es, s3, s4, .no, .no, .lst (ks.map kkD), .no] (some (p, xs)) = .nx [.fd, .val (.int n), .dT es, s3, s4', .no, .no, .lst (ks'.map kkD), .no] (some (p, ys)) ∧ FeedOk (B + 40 * items.length) ys ∧ ks'.length = ks.length + items.length ∧ (∀ k ∈ ks', 0 ≤ k.1 ∧ k.1 < n ∧ 0 ≤ k.2 ∧ k.2 < n ∧ k.1 ≠ k.2)
  | [], B, xs, ks, s4, F, _, _, h => ⟨ks, xs, s4, rfl, F, by simp, h⟩
  | d :: ds, B, xs, ks, s4, F, hB, hl, h => by
    simp only [List.length_cons] at hB hl
    obtain ⟨k, y1, e1, F1, k1⟩ := work_turn (es := es) (ks := ks) p d F (by omega) hn hn2 (by omega) s3
    obtain ⟨ks2, y2, s4', e2, F2, l2, h2⟩ := work_loop p hn hn2 s3 ds (B + 40) y1 (ks ++ [k]) .no F1 (by omega) (by simp; omega) (fun x hx => by
      rcases List.mem_append.mp hx with hx | hx
      · exact h x hx
      · obtain rfl := List.mem_singleton.mp hx; exact k1)
    refine ⟨ks2, y2, s4', ?_, F2.mono (by simp only [List.length_cons]; omega), by rw [l2]; simp; omega, h2⟩
    unfold forGo
    show (match workB [.fd, .val (.int n), .dT es, s3, .val d, .no, .no, .lst (ks.map kkD), .no] (some (p, xs)) with
      | .nx sl2 fd2 => forGo (tnS 4) workB ds sl2 fd2
      | .ct sl2 fd2 => forGo (tnS 4) workB ds sl2 fd2
      | .brk sl2 fd2 => .nx sl2 fd2
      | o => o) = _
    rw [e1]
    exact e2
end K73

namespace K73
open PySem PySem.Spec PyProof.Rows L2 PD TL
theorem sm_int {i : Int} (h : 0 ≤ i) (h2 : i ≤ 1000000) : smallI i = true := by simp [smallI]; omega
theorem rangeD_int (i : Int) : (rangeD 0 i).length = i.toNat := by unfold rangeD; simp
abbrev sortE : Fe D := fzE (opS addD (pvS 8) (pkS (fzE (tuS (cnS (fzE (ixS (pvS 2) (pvS 8))) nlS)))))
theorem sort_go {n m : Int} {ws : List Wt} (W : WsOk n m ws) (hl : ws.length ≤ 1000) (s4 s7 : Sl) (fd : Fd) (s0 : Sl) : lcE [8] (seqE (pkS (fzE (biS gSorted (cnS (pvS 2) nlS))))) (tnS 8) yesS sortE [s0, .val (.int n), .dT (ws.map entD), .no, s4, .no, .no, s7, .no] fd = .ok (.lst ((sortW ws).map wD)) fd := by
  have so := sorted_ent ws hl
  have go := lcGo_rel (ft := tnS 8) (fT := yesS) (fE := sortE) (sl := [s0, .val (.int n), .dT (ws.map entD), .no, s4, .no, .no, s7, .no]) (fd := fd) keyD wD (sortW ws) (fun w hw => by
    have g := get_ent W ((sortW_perm ws).mem_iff.mp hw)
    have z : (1 : Nat) ≤ sizeLine := Nat.le_trans (by decide) sizeLine_big
    have z3 : (3 : Nat) ≤ sizeLine := Nat.le_trans (by decide) sizeLine_big
    have kd : keyD w = .tuple [.int w.1, .int w.2.1] := rfl
    refine ⟨_, rfl, rfl, ?_⟩
    rw [kd] at g
    simp [sortE, fnM, outFd, O.sq, O.kl, kill, sqO, klO, pkO, nilO, ifO, reO, rvO, rnO, exO, raO, setO, parO, tgO, forO, stO, putO, appO, extO, appM, popM, R.st, R.bind, R.opt, R.frz, PD.frz, frzS, pvS, evS, gvS, cS, pkS, rsS, fzE, opS, cmS, blS, biS, nlS, cnS, trS, ntS, nvS, neS, itS, tuS, liS, ixS, slS, isS, lrS, caS, ckS, dnS, yesS, tnS, tlN, tlC, ttS, andE, orE, andT, orT, chnE, chnK, lookP, lookPs, callE, strM, getE, partE, bo, blO, setFd, unfd, addD, subD, mulD, fdivD, modD, powD, leD, gtD, geD, cmpI, isnD, ninD, truthD, gInt, gLen, gStr, PD.gTup, gList, gMax, gMin, isi1, isi2, isiD, isiS, tyN, noScr, List.getElem?_cons_zero, List.getElem?_cons_succ, List.set_cons_zero, List.set_cons_succ, List.cons_append, List.nil_append, List.length_cons, List.length_nil, List.replicate_succ, List.replicate_zero, Option.map_some, Option.map_none, Option.bind_some, Option.bind_none, Bool.false_eq_true, if_true, if_false, true_and, and_true, and_false, false_and, Option.isSome_some, Option.isSome_none, List.any_cons, List.any_nil, Bool.or_true, Bool.or_false, Bool.true_or, Bool.false_or, Bool.not_true, Bool.not_false, Bool.and_true, Bool.true_and, Bool.and_false, Bool.false_and, decide_true, decide_false, eq_self, reduceIte, reduceCtorEq, kd, g, z, z3, wD])
  refine lcE_ok (own := [8]) (fz := true) (items := (sortW ws).map keyD) (fd1 := fd) ?_ (by rw [List.length_map, (sortW_perm ws).length_eq]; omega) go
  simp [seqE, fnM, outFd, O.sq, O.kl, kill, sqO, klO, pkO, nilO, ifO, reO, rvO, rnO, exO, raO, setO, parO, tgO, forO, stO, putO, appO, extO, appM, popM, R.st, R.bind, R.opt, R.frz, PD.frz, frzS, pvS, evS, gvS, cS, pkS, rsS, fzE, opS, cmS, blS, biS, nlS, cnS, trS, ntS, nvS, neS, itS, tuS, liS, ixS, slS, isS, lrS, caS, ckS, dnS, yesS, tnS, tlN, tlC, ttS, andE, orE, andT, orT, chnE, chnK, lookP, lookPs, callE, strM, getE, partE, bo, blO, setFd, unfd, addD, subD, mulD, fdivD, modD, powD, leD, gtD, geD, cmpI, neD, isnD, ninD, truthD, gInt, gLen, gStr, PD.gTup, gList, gMax, gMin, isi1, isi2, isiD, isiS, tyN, noScr, idxD, atI, ixN, List.getElem?_cons_zero, List.getElem?_cons_succ, List.set_cons_zero, List.set_cons_succ, List.cons_append, List.nil_append, List.length_cons, List.length_nil, List.replicate_succ, List.replicate_zero, Option.map_some, Option.map_none, Option.bind_some, Option.bind_none, Bool.false_eq_true, if_true, if_false, true_and, and_true, and_false, false_and, Option.isSome_some, Option.isSome_none, List.any_cons, List.any_nil, Bool.or_true, Bool.or_false, Bool.true_or, Bool.false_or, Bool.not_true, Bool.not_false, Bool.and_true, Bool.true_and, Bool.and_false, Bool.false_and, decide_true, decide_false, eq_self, reduceIte, reduceCtorEq, so, itemsD, notFd, fzP]
theorem any_ok {B : Nat} {xs : List D} (p : Bool) (F : FeedOk B xs) (hB : B + 3000 < 10000000000000000) :
    ∃ n ws ks ys, m_law_any [.fd] (some (p, xs)) = .ok (.val (planD n ws ks)) (some (p, ys)) ∧ FeedOk (B + 3000) ys ∧ PlanOk n ws ks := by
  obtain ⟨g, y1, d1, F1, g0, g1⟩ := draw_ok true (many := 40) F (big60 (by omega)) (by omega) (big64 (by omega))
  obtain ⟨dn, y2, d2, F2, hn⟩ := one_ok true (ds := [.int 1, .int 2, .int 3, .int 9, .int 40, .int (1 + g)]) F1 (big60 (by omega)) (by simp) (by simp)
  obtain ⟨n, rfl, n1, n2⟩ : ∃ n : Int, dn = .int n ∧ 1 ≤ n ∧ n ≤ 40 := by
    simp only [List.mem_cons, List.not_mem_nil, or_false] at hn
    rcases hn with rfl | rfl | rfl | rfl | rfl | rfl <;> exact ⟨_, rfl, by omega, by omega⟩
  obtain ⟨dm, y3, d3, F3, hm⟩ := one_ok true (ds := [.int 0, .int 1, .int 9, .int 1000000]) F2 (big60 (by omega)) (by simp) (by simp)
  obtain ⟨m, rfl, m1, m2⟩ : ∃ m : Int, dm = .int m ∧ 0 ≤ m ∧ m ≤ 1000000 := by
    simp only [List.mem_cons, List.not_mem_nil, or_false] at hm
    rcases hm with rfl | rfl | rfl | rfl <;> exact ⟨_, rfl, by omega, by omega⟩
  obtain ⟨h, y4, d4, F4, h0, h1⟩ := draw_ok true (many := 301) F3 (big60 (by omega)) (by omega) (big64 (by omega))
  obtain ⟨dc, y5, d5, F5, hc⟩ := one_ok true (ds := [.int 0, .int 1, .int 5, .int 40, .int 300, .int h]) F4 (big60 (by omega)) (by simp) (by simp)
  obtain ⟨c, rfl, c1, c2⟩ : ∃ m : Int, dc = .int m ∧ 0 ≤ m ∧ m ≤ 300 := by
    simp only [List.mem_cons, List.not_mem_nil, or_false] at hc
    rcases hc with rfl | rfl | rfl | rfl | rfl | rfl <;> exact ⟨_, rfl, by omega, by omega⟩
  have rl : (rangeD 0 c).length ≤ 300 := by rw [rangeD_int]; omega
  obtain ⟨ws, y6, s4, lp1, F6, W, wl⟩ := wait_loop p n1 n2 m1 m2 (rangeD 0 c) (B + 5) y5 [] .no F5 (by omega) ⟨fun _ h => by simp at h, .nil⟩ (by simp; omega)
  have F6 : FeedOk (B + 905) y6 := F6.mono (by omega)
  have wl : ws.length ≤ 300 := by simp at wl; omega
  have sc := sm_int c1 (by omega)
  have z : (6 : Nat) ≤ sizeLine := Nat.le_trans (by decide) sizeLine_big
  have z3 : (3 : Nat) ≤ sizeLine := Nat.le_trans (by decide) sizeLine_big
  have z4 : (4 : Nat) ≤ sizeLine := Nat.le_trans (by decide) sizeLine_big
  have z5 : (5 : Nat) ≤ sizeLine := Nat.le_trans (by decide) sizeLine_big
  have planOk : ∀ ks : List Wk, ks.length ≤ 40 → (∀ k ∈ ks, 0 ≤ k.1 ∧ k.1 < n ∧ 0 ≤ k.2 ∧ k.2 < n ∧ k.1 ≠ k.2) → PlanOk n (sortW ws) ks := fun ks kl kk =>
    ⟨n1, n2, by rw [(sortW_perm ws).length_eq]; exact wl, fun w hw => by
      obtain ⟨a, b, c, d, e, f, g⟩ := W.w w ((sortW_perm ws).mem_iff.mp hw)
      exact ⟨a, b, c, d, e, by omega, by omega⟩, zip_tail (sortW_asc W), kl, kk⟩
  have fold : ∀ ks : List Wk, (PyData.tuple [.int n, .tuple ((sortW ws).map wD), .tuple (ks.map kkD)]) = planD n (sortW ws) ks := fun _ => rfl
  have pw : powOk 10 6 = true := by decide
  by_cases hgt : 1 < n
  · obtain ⟨h', y7, d7, F7, h0', h1'⟩ := draw_ok true (many := 41) F6 (big60 (by omega)) (by omega) (big64 (by omega))
    obtain ⟨dk, y8, d8, F8, hk⟩ := one_ok true (ds := [.int 0, .int 1, .int 3, .int 40, .int h']) F7 (big60 (by omega)) (by simp) (by simp)
    obtain ⟨q, rfl, q1, q2⟩ : ∃ m : Int, dk = .int m ∧ 0 ≤ m ∧ m ≤ 40 := by
      simp only [List.mem_cons, List.not_mem_nil, or_false] at hk
      rcases hk with rfl | rfl | rfl | rfl | rfl <;> exact ⟨_, rfl, by omega, by omega⟩
    have rk : (rangeD 0 q).length ≤ 40 := by rw [rangeD_int]; omega
    obtain ⟨ks, y9, s4', lp2, F9, kl, kk⟩ := work_loop (es := ws.map entD) p (by omega) n2 .no (rangeD 0 q) (B + 907) y8 [] .no F8 (by omega) (by simp; omega) (fun _ h => by simp at h)
    have kl : ks.length ≤ 40 := by simp at kl; omega
    have sq := sm_int q1 (by omega)
    have so := sort_go W (by omega) .no (.lst (ks.map kkD)) (some (p, y9)) .no
    refine ⟨n, sortW ws, ks, y9, ?_, F9.mono (by omega), planOk ks kl kk⟩
    unfold waitB at lp1
    unfold workB at lp2
    unfold sortE at so
    simp only [List.map_nil] at lp1 lp2
    simp [m_law_any, b__law_any, fnM, outFd, O.sq, O.kl, kill, sqO, klO, pkO, nilO, ifO, reO, rvO, rnO, exO, raO, setO, parO, tgO, forO, stO, putO, appO, extO, appM, popM, R.st, R.bind, R.opt, R.frz, PD.frz, frzS, pvS, evS, gvS, cS, pkS, rsS, fzE, opS, cmS, blS, biS, nlS, cnS, trS, ntS, nvS, neS, itS, tuS, liS, ixS, slS, isS, lrS, caS, ckS, dnS, yesS, tnS, tlN, tlC, ttS, andE, orE, andT, orT, chnE, chnK, lookP, lookPs, callE, strM, getE, partE, bo, blO, setFd, unfd, addD, subD, mulD, fdivD, modD, powD, leD, gtD, geD, cmpI, neD, isnD, ninD, truthD, gInt, gLen, gStr, PD.gTup, gList, gMax, gMin, isi1, isi2, isiD, isiS, tyN, noScr, idxD, atI, ixN, List.getElem?_cons_zero, List.getElem?_cons_succ, List.set_cons_zero, List.set_cons_succ, List.cons_append, List.nil_append, List.length_cons, List.length_nil, List.replicate_succ, List.replicate_zero, Option.map_some, Option.map_none, Option.bind_some, Option.bind_none, Bool.false_eq_true, if_true, if_false, true_and, and_true, and_false, false_and, Option.isSome_some, Option.isSome_none, List.any_cons, List.any_nil, Bool.or_true, Bool.or_false, Bool.true_or, Bool.false_or, Bool.not_true, Bool.not_false, Bool.and_true, Bool.true_and, Bool.and_false, Bool.false_and, decide_true, decide_false, eq_self, reduceIte, reduceCtorEq, rng1E, d1, d2, d3, d4, d5, d7, d8, lp1, lp2, so, sc, sq, hgt, z, z3, z4, z5, pw, fold, liS_nil]
  · have so := sort_go W (by omega) .no (.lst []) (some (p, y6)) .no
    refine ⟨n, sortW ws, [], y6, ?_, F6.mono (by omega), planOk [] (by simp) (by simp)⟩
    have f0 := fold []
    simp only [List.map_nil] at f0
    have s0 := sm_int (i := 0) (by decide) (by decide)
    have r0 : rangeD 0 0 = [] := rfl
    unfold waitB at lp1
    unfold sortE at so
    simp only [List.map_nil] at lp1
    simp [m_law_any, b__law_any, fnM, outFd, O.sq, O.kl, kill, sqO, klO, pkO, nilO, ifO, reO, rvO, rnO, exO, raO, setO, parO, tgO, forO, stO, putO, appO, extO, appM, popM, R.st, R.bind, R.opt, R.frz, PD.frz, frzS, pvS, evS, gvS, cS, pkS, rsS, fzE, opS, cmS, blS, biS, nlS, cnS, trS, ntS, nvS, neS, itS, tuS, liS, ixS, slS, isS, lrS, caS, ckS, dnS, yesS, tnS, tlN, tlC, ttS, andE, orE, andT, orT, chnE, chnK, lookP, lookPs, callE, strM, getE, partE, bo, blO, setFd, unfd, addD, subD, mulD, fdivD, modD, powD, leD, gtD, geD, cmpI, neD, isnD, ninD, truthD, gInt, gLen, gStr, PD.gTup, gList, gMax, gMin, isi1, isi2, isiD, isiS, tyN, noScr, idxD, atI, ixN, List.getElem?_cons_zero, List.getElem?_cons_succ, List.set_cons_zero, List.set_cons_succ, List.cons_append, List.nil_append, List.length_cons, List.length_nil, List.replicate_succ, List.replicate_zero, Option.map_some, Option.map_none, Option.bind_some, Option.bind_none, Bool.false_eq_true, if_true, if_false, true_and, and_true, and_false, false_and, Option.isSome_some, Option.isSome_none, List.any_cons, List.any_nil, Bool.or_true, Bool.or_false, Bool.true_or, Bool.false_or, Bool.not_true, Bool.not_false, Bool.and_true, Bool.true_and, Bool.and_false, Bool.false_and, decide_true, decide_false, eq_self, reduceIte, reduceCtorEq, rng1E, d1, d2, d3, d4, d5, lp1, so, sc, s0, r0, forGo, hgt, z, z3, z4, z5, pw, f0, liS_nil]
end K73

namespace K73
open PySem PySem.Spec PyProof.Rows L2 PD TL
/-! plans as data -/
theorem eqv_ws : ∀ (a b : List Wt), PyData.eqvAll (a.map wD) (b.map wD) = true → a = b
  | [], [], _ => rfl
  | [], _ :: _, h => by simp [PyData.eqvAll] at h
  | _ :: _, [], h => by simp [PyData.eqvAll] at h
  | x :: a, y :: b, h => by
    simp only [List.map_cons, PyData.eqvAll, Bool.and_eq_true, wD, PyData.eqv, beq_iff_eq, and_true] at h
    obtain ⟨⟨h1, h2, h3⟩, h4⟩ := h
    have := eqv_ws a b h4
    subst this
    obtain ⟨x1, x2, x3⟩ := x
    obtain ⟨y1, y2, y3⟩ := y
    simp at h1 h2 h3
    subst h1; subst h2; subst h3; rfl
theorem eqv_ks : ∀ (a b : List Wk), PyData.eqvAll (a.map kkD) (b.map kkD) = true → a = b
  | [], [], _ => rfl
  | [], _ :: _, h => by simp [PyData.eqvAll] at h
  | _ :: _, [], h => by simp [PyData.eqvAll] at h
  | x :: a, y :: b, h => by
    simp only [List.map_cons, PyData.eqvAll, Bool.and_eq_true, kkD, PyData.eqv, beq_iff_eq, and_true] at h
    obtain ⟨⟨h1, h2⟩, h4⟩ := h
    have := eqv_ks a b h4
    subst this
    obtain ⟨x1, x2⟩ := x
    obtain ⟨y1, y2⟩ := y
    simp at h1 h2
    subst h1; subst h2; rfl
theorem wD_lay (w : Wt) : PyData.canLay0 (wD w) = true := by simp [wD, PyData.canLay0, PyData.canLayAll0]
theorem kkD_lay (w : Wk) : PyData.canLay0 (kkD w) = true := by simp [kkD, PyData.canLay0, PyData.canLayAll0]
theorem plan_lay (n : Int) (ws : List Wt) (ks : List Wk) : PyData.canLay0 (planD n ws ks) = true := by
  have h1 : PyData.canLayAll0 (ws.map wD) = true := lay_all _ fun d hd => by obtain ⟨w, _, rfl⟩ := List.mem_map.mp hd; exact wD_lay w
  have h2 : PyData.canLayAll0 (ks.map kkD) = true := lay_all _ fun d hd => by obtain ⟨w, _, rfl⟩ := List.mem_map.mp hd; exact kkD_lay w
  simp [planD, PyData.canLay0, PyData.canLayAll0, h1, h2]
theorem plan_dep (n : Int) (ws : List Wt) (ks : List Wk) : (planD n ws ks).depth ≤ 3 := by
  have h1 : PyData.depthAll (ws.map wD) ≤ 1 := dep_all _ 1 fun d hd => by obtain ⟨w, _, rfl⟩ := List.mem_map.mp hd; simp [wD, PyData.depth, PyData.depthAll]
  have h2 : PyData.depthAll (ks.map kkD) ≤ 1 := dep_all _ 1 fun d hd => by obtain ⟨w, _, rfl⟩ := List.mem_map.mp hd; simp [kkD, PyData.depth, PyData.depthAll]
  simp [planD, PyData.depth, PyData.depthAll]; omega
theorem plan_shaped (n : Int) (ws : List Wt) (ks : List Wk) : SeqAt.shaped (planD n ws ks) = true := by
  have := plan_dep n ws ks
  unfold SeqAt.shaped
  rw [plan_lay]
  simp; omega
theorem plan_eqv {n n' : Int} {ws ws' : List Wt} {ks ks' : List Wk} : PyData.eqv (planD n ws ks) (planD n' ws' ks') = true ↔ (n = n' ∧ ws = ws' ∧ ks = ks') := by
  constructor
  · intro h
    simp only [planD, PyData.eqv, PyData.eqvAll, Bool.and_eq_true, beq_iff_eq, and_true] at h
    exact ⟨by simpa using h.1, eqv_ws _ _ h.2.1, eqv_ks _ _ h.2.2⟩
  · rintro ⟨rfl, rfl, rfl⟩
    have := SeqAt.eqvAll_refl [planD n ws ks] (by simp [PyData.canLayAll0, plan_lay])
    simpa [PyData.eqvAll] using this
theorem plan_text_eq {n n' : Int} {ws ws' : List Wt} {ks ks' : List Wk} (P : PlanOk n ws ks) (P' : PlanOk n' ws' ks') : decide (textS n' ws' ks' = textS n ws ks) = PyData.eqv (planD n ws ks) (planD n' ws' ks') := by
  have r := readplan_ok P
  have r' := readplan_ok P'
  cases q : PyData.eqv (planD n ws ks) (planD n' ws' ks') with
  | true =>
    obtain ⟨rfl, rfl, rfl⟩ := plan_eqv.mp q
    exact decide_eq_true rfl
  | false =>
    refine decide_eq_false fun e => ?_
    rw [e, r] at r'
    injection r' with r' _
    injection r' with r'
    rw [← r'] at q
    rw [plan_eqv.mpr ⟨rfl, rfl, rfl⟩] at q
    cases q
theorem ok_plan (n : Int) (ws : List Wt) (ks : List Wk) (h : ws.length ≤ 1000) (h2 : ks.length ≤ 1000) : ∀ k : Nat, okD (k + 4) (planD n ws ks) = true := fun k => by
  have a : (ws.map wD).all (okD (k + 2)) = true := by
    rw [List.all_map, List.all_eq_true]
    intro w _
    simp [wD, okD]
  have b : (ks.map kkD).all (okD (k + 2)) = true := by
    rw [List.all_map, List.all_eq_true]
    intro w _
    simp [kkD, okD]
  have a2 : okD (k + 3) (.tuple (ws.map wD)) = true := by
    show ((ws.map wD).all (okD (k + 2)) && decide ((ws.map wD).length ≤ 16777216)) = true
    rw [a, List.length_map, decide_eq_true (by omega)]; rfl
  have b2 : okD (k + 3) (.tuple (ks.map kkD)) = true := by
    show ((ks.map kkD).all (okD (k + 2)) && decide ((ks.map kkD).length ≤ 16777216)) = true
    rw [b, List.length_map, decide_eq_true (by omega)]; rfl
  show ([PyData.int n, .tuple (ws.map wD), .tuple (ks.map kkD)].all (okD (k + 3)) && decide (([PyData.int n, .tuple (ws.map wD), .tuple (ks.map kkD)] : List D).length ≤ 16777216)) = true
  have i0 : okD (k + 3) (.int n) = true := rfl
  rw [List.all_cons, i0, List.all_cons, a2, List.all_cons, b2]; rfl
theorem same2 {a b : D} (ha : okD 9 a = true) (hb : okD 9 b = true) : m_law_same 10 [.val (.list [a, b]), .val (.list [a, b])] none = .ok (.val (.bool true)) none := by
  refine same_ok 10 _ ?_
  show ([a, b].all (okD 9) && decide (([a, b] : List D).length ≤ 16777216)) = true
  simp [ha, hb]
theorem eqD_bb (a : Bool) : eqD (.bool a) (.bool a) = some true := by cases a <;> decide +kernel
theorem eqD_plan (n n' : Int) (ws ws' : List Wt) (ks ks' : List Wk) : eqD (planD n ws ks) (planD n' ws' ks') = some (PyData.eqv (planD n ws ks) (planD n' ws' ks')) := by
  unfold eqD
  rw [plan_shaped, plan_shaped]
  simp
theorem right_ok {B : Nat} {xs : List D} (p : Bool) (F : FeedOk B xs) (hB : B + 6000 < 10000000000000000) : ∃ ys, m_law_right [.fd] (some (p, xs)) = .ok (.val (.bool true)) (some (p, ys)) ∧ FeedOk (B + 6000) ys := by
  obtain ⟨n, ws, ks, y1, e1, F1, P⟩ := any_ok true F (by omega)
  obtain ⟨n', ws', ks', y2, e2, F2, P'⟩ := any_ok true F1 (by omega)
  have lt := lawtext_ok P.sm
  have ip := isplan_ok P
  have pt := plantext_ok P
  have pt' := plantext_ok P'
  have rp := readplan_ok P
  have okt : okD 9 (.str (textS n ws ks)) = true := rfl
  have okp := ok_plan n ws ks (by have := P.wl; omega) (by have := P.kl; omega) 5
  have s1 := same2 okt okt
  have s2 := same2 okp okp
  have z2 : (2 : Nat) ≤ sizeLine := Nat.le_trans (by decide) sizeLine_big
  have te := plan_text_eq P P'
  have isn : isnD (.bool true) (.bool true) = some false := by decide +kernel
  refine ⟨y2, ?_, F2.mono (by omega)⟩
  simp [m_law_right, b__law_right, fnM, outFd, O.sq, O.kl, kill, sqO, klO, pkO, nilO, ifO, reO, rvO, rnO, exO, raO, setO, parO, tgO, forO, stO, putO, appO, extO, appM, popM, R.st, R.bind, R.opt, R.frz, PD.frz, frzS, pvS, evS, gvS, cS, pkS, rsS, fzE, opS, cmS, blS, biS, nlS, cnS, trS, ntS, nvS, neS, itS, tuS, liS, ixS, slS, isS, lrS, caS, ckS, dnS, yesS, tnS, tlN, tlC, ttS, andE, orE, andT, orT, chnE, chnK, lookP, lookPs, callE, strM, getE, partE, bo, blO, setFd, unfd, addD, subD, mulD, fdivD, modD, powD, leD, gtD, geD, cmpI, neD, ninD, truthD, gInt, gLen, gStr, PD.gTup, gList, gMax, gMin, isi1, isi2, isiD, isiS, tyN, noScr, idxD, atI, ixN, List.getElem?_cons_zero, List.getElem?_cons_succ, List.set_cons_zero, List.set_cons_succ, List.cons_append, List.nil_append, List.length_cons, List.length_nil, List.replicate_succ, List.replicate_zero, Option.map_some, Option.map_none, Option.bind_some, Option.bind_none, Bool.false_eq_true, if_true, if_false, true_and, and_true, and_false, false_and, Option.isSome_some, Option.isSome_none, List.any_cons, List.any_nil, Bool.or_true, Bool.or_false, Bool.true_or, Bool.false_or, Bool.not_true, Bool.not_false, Bool.and_true, Bool.true_and, Bool.and_false, Bool.false_and, decide_true, decide_false, eq_self, reduceIte, reduceCtorEq, e1, e2, lt, ip, pt, pt', rp, s1, s2, z2, isn, eqD_str, eqD_plan, te, eqD_bb]
end K73

namespace K73
open PySem PySem.Spec PyProof.Rows L2 PD TL
theorem ints_map (ns : List Int) : PD.ints? (ns.map PyData.int) = some ns := by
  induction ns with
  | nil => rfl
  | cons x l ih => simp [PD.ints?, ih]
theorem sum_scr (ns : List Int) : gSum [.list (cutL (ns.map PyData.int) none (some 3))] = some (.val (.int (ns.take 3).sum)) := by
  have e : cutL (ns.map PyData.int) none (some 3) = (ns.take 3).map PyData.int := by
    rw [show (some (3 : Int)) = some ((3 : Nat) : Int) from rfl, cut_to, List.map_take]
  rw [e]
  show (PD.ints? ((ns.take 3).map PyData.int)).map _ = _
  rw [ints_map]; rfl
theorem feed_ok (ns : List Int) (i : Int) (h0 : 0 ≤ i) (h3 : i < 3) : ∃ xs, m_law_feed [.val (scrD ns), .val (.int i)] none = .ok (.lst xs) none ∧ FeedOk 0 xs := by
  have sm := sum_scr ns
  have sl : sliD none (some 3) (scrD ns) = some (.lst (cutL (ns.map PyData.int) none (some 3))) := rfl
  have ln : lenD (scrD ns) = some ns.length := by simp [lenD, scrD]
  have z3 : (3 : Nat) ≤ sizeLine := Nat.le_trans (by decide) sizeLine_big
  have pw : powOk 10 18 = true := by decide
  have pw2 : powOk 10 40 = true := by decide
  have i0 : i.natAbs < 18446744073709551616 := by omega
  have lt : ∀ a b : Int, ltD (.int a) (.int b) = some (decide (a < b)) := fun _ _ => rfl
  have fin : ∀ cell : Int, FeedOk 0 [.int (if 0 ≤ cell - 1000000000000000000 then cell - 1000000000000000000 else 0), .int ((cell * 1051 + 213 * i + 667) % 10000000000000000000000000000000000000121), .int 0] := fun cell => by
    refine ⟨_, _, _, rfl, by split <;> omega, Int.emod_nonneg _ (by decide), ?_, by omega, by omega⟩
    exact Int.lt_trans (Int.emod_lt_of_pos _ (by decide)) (by decide)
  by_cases hk : i < (ns.length : Int)
  · have hn : i.toNat < ns.length := by omega
    have ix : idxD (scrD ns) (.int i) = some (.int ns[i.toNat]) := by
      have e : atI (ns.map PyData.int) i = some (.int ns[i.toNat]) := by
        unfold atI ixN
        rw [if_pos h0, if_pos (by rw [List.length_map]; exact hk)]
        simp [hn]
      show (match atI (ns.map PyData.int) i with
        | some (.int n) => some (PyData.int n)
        | _ => none) = _
      rw [e]
    refine ⟨_, ?_, fin ns[i.toNat]⟩
    simp [m_law_feed, b__law_feed, fnM, outFd, O.sq, O.kl, kill, sqO, klO, pkO, nilO, ifO, reO, rvO, rnO, exO, raO, setO, parO, tgO, forO, stO, putO, appO, extO, appM, popM, R.st, R.bind, R.opt, R.frz, PD.frz, frzS, pvS, evS, gvS, cS, pkS, rsS, fzE, opS, cmS, blS, biS, nlS, cnS, trS, ntS, nvS, neS, itS, tuS, liS, ixS, slS, isS, lrS, caS, ckS, dnS, yesS, tnS, tlN, tlC, ttS, andE, orE, andT, orT, chnE, chnK, lookP, lookPs, callE, strM, getE, partE, bo, blO, setFd, unfd, addD, subD, mulD, fdivD, modD, powD, leD, gtD, geD, cmpI, isnD, ninD, truthD, gInt, gLen, gStr, PD.gTup, gList, gMax, gMin, isi1, isi2, isiD, isiS, tyN, noScr, List.getElem?_cons_zero, List.getElem?_cons_succ, List.set_cons_zero, List.set_cons_succ, List.cons_append, List.nil_append, List.length_cons, List.length_nil, List.replicate_succ, List.replicate_zero, Option.map_some, Option.map_none, Option.bind_some, Option.bind_none, Bool.false_eq_true, if_true, if_false, true_and, and_true, and_false, false_and, Option.isSome_some, Option.isSome_none, List.any_cons, List.any_nil, Bool.or_true, Bool.or_false, Bool.true_or, Bool.false_or, Bool.not_true, Bool.not_false, Bool.and_true, Bool.true_and, Bool.and_false, Bool.false_and, decide_true, decide_false, eq_self, reduceIte, reduceCtorEq, sl, sm, ln, lt, hk, ix, z3, pw, pw2, i0]
    split <;> split <;> omega
  · refine ⟨_, ?_, fin (8887 * i + 333 * (ns.take 3).sum)⟩
    simp [m_law_feed, b__law_feed, fnM, outFd, O.sq, O.kl, kill, sqO, klO, pkO, nilO, ifO, reO, rvO, rnO, exO, raO, setO, parO, tgO, forO, stO, putO, appO, extO, appM, popM, R.st, R.bind, R.opt, R.frz, PD.frz, frzS, pvS, evS, gvS, cS, pkS, rsS, fzE, opS, cmS, blS, biS, nlS, cnS, trS, ntS, nvS, neS, itS, tuS, liS, ixS, slS, isS, lrS, caS, ckS, dnS, yesS, tnS, tlN, tlC, ttS, andE, orE, andT, orT, chnE, chnK, lookP, lookPs, callE, strM, getE, partE, bo, blO, setFd, unfd, addD, subD, mulD, fdivD, modD, powD, leD, gtD, geD, cmpI, isnD, ninD, truthD, gInt, gLen, gStr, PD.gTup, gList, gMax, gMin, isi1, isi2, isiD, isiS, tyN, noScr, List.getElem?_cons_zero, List.getElem?_cons_succ, List.set_cons_zero, List.set_cons_succ, List.cons_append, List.nil_append, List.length_cons, List.length_nil, List.replicate_succ, List.replicate_zero, Option.map_some, Option.map_none, Option.bind_some, Option.bind_none, Bool.false_eq_true, if_true, if_false, true_and, and_true, and_false, false_and, Option.isSome_some, Option.isSome_none, List.any_cons, List.any_nil, Bool.or_true, Bool.or_false, Bool.true_or, Bool.false_or, Bool.not_true, Bool.not_false, Bool.and_true, Bool.true_and, Bool.and_false, Bool.false_and, decide_true, decide_false, eq_self, reduceIte, reduceCtorEq, sl, sm, ln, lt, hk, z3, pw, pw2, i0]
    split <;> split <;> omega
abbrev turnB : Fs := klO [3] (ifO (ntS (trS (pkS (fzE (caS 1 m_law_right (cnS (gvS 2) nlS)))))) (reO (rsS (cS (.bool false)))) nilO)
abbrev feedB : Fs := (sqO (klO [1] (setFd 2 (caS 2 m_law_feed (cnS (gvS 0) (cnS (gvS 1) nlS)))))
  (klO [2, 3] (forO (rng1E (cnS (cS (.int 3)) nlS)) (tnS 3) turnB)))
theorem turn_ok {B : Nat} {xs : List D} {a b c d e : Sl} (x : D) (F : FeedOk B xs) (hB : B + 6000 < 10000000000000000) : ∃ ys, turnB [a, b, .fd, .val x, c, d, e] (some (false, xs)) = .nx [a, b, .fd, .no, c, d, e] (some (false, ys)) ∧ FeedOk (B + 6000) ys := by
  obtain ⟨ys, e1, F1⟩ := right_ok true F hB
  exact ⟨ys, by simp [turnB, fnM, outFd, O.sq, O.kl, kill, sqO, klO, pkO, nilO, ifO, reO, rvO, rnO, exO, raO, setO, parO, tgO, forO, stO, putO, appO, extO, appM, popM, R.st, R.bind, R.opt, R.frz, PD.frz, frzS, pvS, evS, gvS, cS, pkS, rsS, fzE, opS, cmS, blS, biS, nlS, cnS, trS, ntS, nvS, neS, itS, tuS, liS, ixS, slS, isS, lrS, caS, ckS, dnS, yesS, tnS, tlN, tlC, ttS, andE, orE, andT, orT, chnE, chnK, lookP, lookPs, callE, strM, getE, partE, bo, blO, setFd, unfd, addD, subD, mulD, fdivD, modD, powD, leD, gtD, geD, cmpI, neD, isnD, ninD, truthD, gInt, gLen, gStr, PD.gTup, gList, gMax, gMin, isi1, isi2, isiD, isiS, tyN, noScr, idxD, atI, ixN, List.getElem?_cons_zero, List.getElem?_cons_succ, List.set_cons_zero, List.set_cons_succ, List.cons_append, List.nil_append, List.length_cons, List.length_nil, List.replicate_succ, List.replicate_zero, Option.map_some, Option.map_none, Option.bind_some, Option.bind_none, Bool.false_eq_true, if_true, if_false, true_and, and_true, and_false, false_and, Option.isSome_some, Option.isSome_none, List.any_cons, List.any_nil, Bool.or_true, Bool.or_false, Bool.true_or, Bool.false_or, Bool.not_true, Bool.not_false, Bool.and_true, Bool.true_and, Bool.and_false, Bool.false_and, decide_true, decide_false, eq_self, reduceIte, reduceCtorEq, e1], F1⟩
theorem turns_ok {a b c d e : Sl} : ∀ (items : List D) (B : Nat) (xs : List D) (s3 : Sl), FeedOk B xs → B + 6000 * items.length < 10000000000000000 → ∃ ys s3', forGo (tnS 3) turnB items [a, b, .fd, s3, c, d, e] (some (false, xs)) = .nx [a, b, .fd, s3', c, d, e] (some (false, ys))
  | [], B, xs, s3, F, _ => ⟨xs, s3, rfl⟩
  | x :: l, B, xs, s3, F, hB => by
    simp only [List.length_cons] at hB
    obtain ⟨y1, e1, F1⟩ := turn_ok (a := a) (b := b) (c := c) (d := d) (e := e) x F (by omega)
    obtain ⟨y2, s3', e2⟩ := turns_ok (a := a) (b := b) (c := c) (d := d) (e := e) l (B + 6000) y1 .no F1 (by omega)
    refine ⟨y2, s3', ?_⟩
    unfold forGo
    show (match turnB [a, b, .fd, .val x, c, d, e] (some (false, xs)) with
      | .nx sl2 fd2 => forGo (tnS 3) turnB l sl2 fd2
      | .ct sl2 fd2 => forGo (tnS 3) turnB l sl2 fd2
      | .brk sl2 fd2 => .nx sl2 fd2
      | o => o) = _
    rw [e1]
    exact e2
theorem feed_turn (ns : List Int) (i : Int) (h0 : 0 ≤ i) (h3 : i < 3) (fd : Fd) : ∃ ys, feedB [.val (scrD ns), .val (.int i), .no, .no, .no, .no, .no] fd = .nx [.val (scrD ns), .no, .no, .no, .no, .no, .no] (some (false, ys)) := by
  obtain ⟨xs, e1, F⟩ := feed_ok ns i h0 h3
  obtain ⟨ys, s3', e2⟩ := turns_ok (a := .val (scrD ns)) (b := .no) (c := .no) (d := .no) (e := .no) (rangeD 0 3) 0 xs .no F (by decide)
  have sm : smallI 3 = true := by decide
  have key : ∀ (mb : Fs) (tt : D → List Sl → Option (List Sl)), forGo tt mb (rangeD 0 3) [.val (scrD ns), .no, .fd, .no, .no, .no, .no] (some (false, xs)) = .nx [.val (scrD ns), .no, .fd, s3', .no, .no, .no] (some (false, ys)) →
      (sqO (klO [1] (setFd 2 (caS 2 m_law_feed (cnS (gvS 0) (cnS (gvS 1) nlS))))) (klO [2, 3] (forO (rng1E (cnS (cS (.int 3)) nlS)) tt mb))) [.val (scrD ns), .val (.int i), .no, .no, .no, .no, .no] fd = .nx [.val (scrD ns), .no, .no, .no, .no, .no, .no] (some (false, ys)) := by
    intro mb tt e
    simp [fnM, outFd, O.sq, O.kl, kill, sqO, klO, pkO, nilO, ifO, reO, rvO, rnO, exO, raO, setO, parO, tgO, forO, stO, putO, appO, extO, appM, popM, R.st, R.bind, R.opt, R.frz, PD.frz, frzS, pvS, evS, gvS, cS, pkS, rsS, fzE, opS, cmS, blS, biS, nlS, cnS, trS, ntS, nvS, neS, itS, tuS, liS, ixS, slS, isS, lrS, caS, ckS, dnS, yesS, tnS, tlN, tlC, ttS, andE, orE, andT, orT, chnE, chnK, lookP, lookPs, callE, strM, getE, partE, bo, blO, setFd, unfd, addD, subD, mulD, fdivD, modD, powD, leD, gtD, geD, cmpI, neD, isnD, ninD, truthD, gInt, gLen, gStr, PD.gTup, gList, gMax, gMin, isi1, isi2, isiD, isiS, tyN, noScr, idxD, atI, ixN, List.getElem?_cons_zero, List.getElem?_cons_succ, List.set_cons_zero, List.set_cons_succ, List.cons_append, List.nil_append, List.length_cons, List.length_nil, List.replicate_succ, List.replicate_zero, Option.map_some, Option.map_none, Option.bind_some, Option.bind_none, Bool.false_eq_true, if_true, if_false, true_and, and_true, and_false, false_and, Option.isSome_some, Option.isSome_none, List.any_cons, List.any_nil, Bool.or_true, Bool.or_false, Bool.true_or, Bool.false_or, Bool.not_true, Bool.not_false, Bool.and_true, Bool.true_and, Bool.and_false, Bool.false_and, decide_true, decide_false, eq_self, reduceIte, reduceCtorEq, e1, rng1E, sm, e]
  exact ⟨ys, key turnB (tnS 3) e2⟩
theorem feeds_ok (ns : List Int) : ∀ (items : List D) (fd : Fd) (s1 : Sl), (∀ d ∈ items, ∃ i : Int, d = .int i ∧ 0 ≤ i ∧ i < 3) → ∃ fd' s1', forGo (tnS 1) feedB items [.val (scrD ns), s1, .no, .no, .no, .no, .no] fd = .nx [.val (scrD ns), s1', .no, .no, .no, .no, .no] fd'
  | [], fd, s1, _ => ⟨fd, s1, rfl⟩
  | x :: l, fd, s1, h => by
    obtain ⟨i, rfl, i0, i3⟩ := h x (by simp)
    obtain ⟨ys, e1⟩ := feed_turn ns i i0 i3 fd
    obtain ⟨fd', s1', e2⟩ := feeds_ok ns l (some (false, ys)) .no (fun d hd => h d (by simp [hd]))
    refine ⟨fd', s1', ?_⟩
    unfold forGo
    show (match feedB [.val (scrD ns), .val (.int i), .no, .no, .no, .no, .no] fd with
      | .nx sl2 fd2 => forGo (tnS 1) feedB l sl2 fd2
      | .ct sl2 fd2 => forGo (tnS 1) feedB l sl2 fd2
      | .brk sl2 fd2 => .nx sl2 fd2
      | o => o) = _
    rw [e1]
    exact e2
/-! by hand -/
theorem p1 : PlanOk 1 [] [] := ⟨by decide, by decide, by decide, by simp, by simp, by decide, by simp⟩
theorem p2 : PlanOk 2 [(0, 1, 5), (1, 0, -3)] [(0, 1), (0, 1)] := ⟨by decide, by decide, by decide, by simp, by simp [wLt], by decide, by simp⟩
theorem p3 : PlanOk 3 [] [(2, 0)] := ⟨by decide, by decide, by decide, by simp, by simp, by decide, by simp⟩
theorem tx1 : textS 1 [] [] = "events 1" := by decide +kernel
theorem tx2 : textS 2 [(0, 1, 5), (1, 0, -3)] [(0, 1), (0, 1)] = "events 2\nwait 0 1 5\nwait 1 0 -3\nwork 0 1\nwork 0 1" := by decide +kernel
theorem tx3 : textS 3 [] [(2, 0)] = "events 3\nwork 2 0" := by decide +kernel
abbrev cntE : Fe Sl := biS gMax (cnS (pkS (cS (.int 1))) (cnS (pkS (fzE (biS gMin (cnS (pkS (fzE (biS gLen (cnS (pvS 0) nlS)))) (cnS (pkS (cS (.int 3))) nlS))))) nlS))
theorem cnt_ok (ns : List Int) : ∃ c : Int, 1 ≤ c ∧ c ≤ 3 ∧ cntE [.val (scrD ns), .no, .no, .no, .no, .no, .no] none = .ok (.val (.int c)) none := by
  have ln : lenD (scrD ns) = some ns.length := by simp [lenD, scrD]
  have mn : ∀ a b : Int, gMin [.int a, .int b] = some (.val (.int (if b < a then b else a))) := fun _ _ => rfl
  have mx : ∀ a b : Int, gMax [.int a, .int b] = some (.val (.int (if b > a then b else a))) := fun _ _ => rfl
  refine ⟨if (if (3 : Int) < ns.length then 3 else (ns.length : Int)) > 1 then (if (3 : Int) < ns.length then 3 else (ns.length : Int)) else 1, ?_, ?_, ?_⟩
  · split <;> split <;> omega
  · split <;> split <;> omega
  · simp [cntE, fnM, outFd, O.sq, O.kl, kill, sqO, klO, pkO, nilO, ifO, reO, rvO, rnO, exO, raO, setO, parO, tgO, forO, stO, putO, appO, extO, appM, popM, R.st, R.bind, R.opt, R.frz, PD.frz, frzS, pvS, evS, gvS, cS, pkS, rsS, fzE, opS, cmS, blS, biS, nlS, cnS, trS, ntS, nvS, neS, itS, tuS, liS, ixS, slS, isS, lrS, caS, ckS, dnS, yesS, tnS, tlN, tlC, ttS, andE, orE, andT, orT, chnE, chnK, lookP, lookPs, callE, strM, getE, partE, bo, blO, setFd, unfd, addD, subD, mulD, fdivD, modD, powD, leD, gtD, geD, cmpI, neD, isnD, ninD, truthD, gInt, gLen, gStr, PD.gTup, gList, isi1, isi2, isiD, isiS, tyN, noScr, idxD, atI, ixN, List.getElem?_cons_zero, List.getElem?_cons_succ, List.set_cons_zero, List.set_cons_succ, List.cons_append, List.nil_append, List.length_cons, List.length_nil, List.replicate_succ, List.replicate_zero, Option.map_some, Option.map_none, Option.bind_some, Option.bind_none, Bool.false_eq_true, if_true, if_false, true_and, and_true, and_false, false_and, Option.isSome_some, Option.isSome_none, List.any_cons, List.any_nil, Bool.or_true, Bool.or_false, Bool.true_or, Bool.false_or, Bool.not_true, Bool.not_false, Bool.and_true, Bool.true_and, Bool.and_false, Bool.false_and, decide_true, decide_false, eq_self, reduceIte, reduceCtorEq, ln, mn, mx]
theorem range_mem {c : Int} (h : c ≤ 3) : ∀ d ∈ rangeD 0 c, ∃ i : Int, d = .int i ∧ 0 ≤ i ∧ i < 3 := by
  intro d hd
  unfold rangeD at hd
  obtain ⟨k, hk, rfl⟩ := List.mem_map.mp hd
  have := List.mem_range.mp hk
  exact ⟨0 + (k : Nat), rfl, by omega, by omega⟩
abbrev handT : Fe Bool := ntS (trS (pkS (fzE (caS 2 (m_law_same 10) (cnS (rsS (fzE (liS (cnS (fzE (caS 1 m_plan_text (cnS (gvS 5) nlS))) (cnS (fzE (caS 1 m_read_plan (cnS (gvS 6) nlS))) nlS))))) (cnS (rsS (fzE (liS (cnS (evS 6) (cnS (evS 5) nlS))))) nlS))))))
def handL : List D := [.tuple [planD 1 [] [], .str (textS 1 [] [])], .tuple [planD 2 [(0, 1, 5), (1, 0, -3)] [(0, 1), (0, 1)], .str (textS 2 [(0, 1, 5), (1, 0, -3)] [(0, 1), (0, 1)])], .tuple [planD 3 [] [(2, 0)], .str (textS 3 [] [(2, 0)])]]
theorem hand_turn {n : Int} {ws : List Wt} {ks : List Wk} (P : PlanOk n ws ks) (L : Sl) (fd : Fd) : handT [.no, .no, .no, .no, L, .val (planD n ws ks), .val (.str (textS n ws ks))] fd = .ok false fd := by
  have pt := plantext_ok P
  have rp := readplan_ok P
  have okt : okD 9 (.str (textS n ws ks)) = true := rfl
  have okp := ok_plan n ws ks (by have := P.wl; omega) (by have := P.kl; omega) 5
  have s1 := same2 okt okp
  have z2 : (2 : Nat) ≤ sizeLine := Nat.le_trans (by decide) sizeLine_big
  simp [handT, fnM, outFd, O.sq, O.kl, kill, sqO, klO, pkO, nilO, ifO, reO, rvO, rnO, exO, raO, setO, parO, tgO, forO, stO, putO, appO, extO, appM, popM, R.st, R.bind, R.opt, R.frz, PD.frz, frzS, pvS, evS, gvS, cS, pkS, rsS, fzE, opS, cmS, blS, biS, nlS, cnS, trS, ntS, nvS, neS, itS, tuS, liS, ixS, slS, isS, lrS, caS, ckS, dnS, yesS, tnS, tlN, tlC, ttS, andE, orE, andT, orT, chnE, chnK, lookP, lookPs, callE, strM, getE, partE, bo, blO, setFd, unfd, addD, subD, mulD, fdivD, modD, powD, leD, gtD, geD, cmpI, neD, isnD, ninD, truthD, gInt, gLen, gStr, PD.gTup, gList, gMax, gMin, isi1, isi2, isiD, isiS, tyN, noScr, idxD, atI, ixN, List.getElem?_cons_zero, List.getElem?_cons_succ, List.set_cons_zero, List.set_cons_succ, List.cons_append, List.nil_append, List.length_cons, List.length_nil, List.replicate_succ, List.replicate_zero, Option.map_some, Option.map_none, Option.bind_some, Option.bind_none, Bool.false_eq_true, if_true, if_false, true_and, and_true, and_false, false_and, Option.isSome_some, Option.isSome_none, List.any_cons, List.any_nil, Bool.or_true, Bool.or_false, Bool.true_or, Bool.false_or, Bool.not_true, Bool.not_false, Bool.and_true, Bool.true_and, Bool.and_false, Bool.false_and, decide_true, decide_false, eq_self, reduceIte, reduceCtorEq, pt, rp, s1, z2]
theorem hand_go (fd : Fd) : lcE [5, 6] (seqE (pvS 4)) (ttS 2 (tlC (tnS 5) (tlC (tnS 6) tlN))) handT (cS (.int 1)) [.no, .no, .no, .no, .val (.list handL), .no, .no] fd = .ok (.lst []) fd := by
  have go := lcGo_map (ft := ttS 2 (tlC (tnS 5) (tlC (tnS 6) tlN))) (fT := handT) (fE := cS (.int 1)) (sl := [.no, .no, .no, .no, .val (.list handL), .no, .no]) (fd := fd) (fun _ => false) id handL (fun x hx => by
    simp only [handL, List.mem_cons, List.not_mem_nil, or_false] at hx
    rcases hx with rfl | rfl | rfl
    · exact ⟨_, rfl, hand_turn p1 _ fd, fun z => by cases z⟩
    · exact ⟨_, rfl, hand_turn p2 _ fd, fun z => by cases z⟩
    · exact ⟨_, rfl, hand_turn p3 _ fd, fun z => by cases z⟩)
  exact lcE_ok (own := [5, 6]) (fz := true) (items := handL) (fd1 := fd) rfl (by decide) (by rw [show handL.filter (fun _ => false) = [] by simp] at go; exact go)
theorem law_ok (ns : List Int) (h : ns.length ≤ 63) : m_law [.val (scrD ns)] none = .ok (.val (.bool true)) none := by
  obtain ⟨c, c1, c2, ec⟩ := cnt_ok ns
  obtain ⟨fd', s1', lp⟩ := feeds_ok ns (rangeD 0 c) none .no (range_mem c2)
  have hg := hand_go fd'
  have sm : smallI c = true := sm_int (by omega) (by omega)
  have z1 : (1 : Nat) ≤ sizeLine := Nat.le_trans (by decide) sizeLine_big
  have z2 : (2 : Nat) ≤ sizeLine := Nat.le_trans (by decide) sizeLine_big
  have z3 : (3 : Nat) ≤ sizeLine := Nat.le_trans (by decide) sizeLine_big
  unfold handL at hg
  rw [tx1, tx2, tx3] at hg
  simp only [planD, wD, kkD, List.map_cons, List.map_nil] at hg
  have key : ∀ (bm : Fe Sl) (mb : Fs) (hT : Fe Bool), bm [.val (scrD ns), .no, .no, .no, .no, .no, .no] none = .ok (.val (.int c)) none → forGo (tnS 1) mb (rangeD 0 c) [.val (scrD ns), .no, .no, .no, .no, .no, .no] none = .nx [.val (scrD ns), s1', .no, .no, .no, .no, .no] fd' →
      (lcE [5, 6] (seqE (pvS 4)) (ttS 2 (tlC (tnS 5) (tlC (tnS 6) tlN))) hT (cS (.int 1)) [.no, .no, .no, .no, .val (.list [.tuple [.tuple [.int 1, .tuple [], .tuple []], .str "events 1"], .tuple [.tuple [.int 2, .tuple [.tuple [.int 0, .int 1, .int 5], .tuple [.int 1, .int 0, .int (-3)]], .tuple [.tuple [.int 0, .int 1], .tuple [.int 0, .int 1]]], .str "events 2\nwait 0 1 5\nwait 1 0 -3\nwork 0 1\nwork 0 1"], .tuple [.tuple [.int 3, .tuple [], .tuple [.tuple [.int 2, .int 0]]], .str "events 3\nwork 2 0"]]), .no, .no] fd' = .ok (.lst []) fd') →
      fnM true 7 (sqO (klO [0, 1] (forO (rng1E (cnS (fzE bm) nlS)) (tnS 1) mb))
  (sqO (setO 4 (frzS (liS (cnS (fzE (tuS (cnS (fzE (tuS (cnS (cS (.int 1)) (cnS (fzE (tuS nlS)) (cnS (fzE (tuS nlS)) nlS))))) (cnS (cS (.str "events 1")) nlS)))) (cnS (fzE (tuS (cnS (fzE (tuS (cnS (cS (.int 2)) (cnS (fzE (tuS (cnS (fzE (tuS (cnS (cS (.int 0)) (cnS (cS (.int 1)) (cnS (cS (.int 5)) nlS))))) (cnS (fzE (tuS (cnS (cS (.int 1)) (cnS (cS (.int 0)) (cnS (neS (cS (.int 3))) nlS))))) nlS)))) (cnS (fzE (tuS (cnS (fzE (tuS (cnS (cS (.int 0)) (cnS (cS (.int 1)) nlS)))) (cnS (fzE (tuS (cnS (cS (.int 0)) (cnS (cS (.int 1)) nlS)))) nlS)))) nlS))))) (cnS (cS (.str "events 2\nwait 0 1 5\nwait 1 0 -3\nwork 0 1\nwork 0 1")) nlS)))) (cnS (fzE (tuS (cnS (fzE (tuS (cnS (cS (.int 3)) (cnS (fzE (tuS nlS)) (cnS (fzE (tuS (cnS (fzE (tuS (cnS (cS (.int 2)) (cnS (cS (.int 0)) nlS)))) nlS))) nlS))))) (cnS (cS (.str "events 3\nwork 2 0")) nlS)))) nlS))))))
  (reO (opS (bo eqD) (pkS (fzE (lcE [5, 6] (seqE (pvS 4)) (ttS 2 (tlC (tnS 5) (tlC (tnS 6) tlN))) hT (cS (.int 1))))) (pkS (fzE (liS nlS))))))) [.val (scrD ns)] none = .ok (.val (.bool true)) none := by
    intro bm mb hT e1 e2 e3
    simp [fnM, outFd, O.sq, O.kl, kill, sqO, klO, pkO, nilO, ifO, reO, rvO, rnO, exO, raO, setO, parO, tgO, forO, stO, putO, appO, extO, appM, popM, R.st, R.bind, R.opt, R.frz, PD.frz, frzS, pvS, evS, gvS, cS, pkS, rsS, fzE, opS, cmS, blS, biS, nlS, cnS, trS, ntS, nvS, neS, itS, tuS, liS, ixS, slS, isS, lrS, caS, ckS, dnS, yesS, tnS, tlN, tlC, ttS, andE, orE, andT, orT, chnE, chnK, lookP, lookPs, callE, strM, getE, partE, bo, blO, setFd, unfd, addD, subD, mulD, fdivD, modD, powD, leD, gtD, geD, cmpI, neD, isnD, ninD, truthD, gInt, gLen, gStr, PD.gTup, gList, gMax, gMin, isi1, isi2, isiD, isiS, tyN, noScr, idxD, atI, ixN, List.getElem?_cons_zero, List.getElem?_cons_succ, List.set_cons_zero, List.set_cons_succ, List.cons_append, List.nil_append, List.length_cons, List.length_nil, List.replicate_succ, List.replicate_zero, Option.map_some, Option.map_none, Option.bind_some, Option.bind_none, Bool.false_eq_true, if_true, if_false, true_and, and_true, and_false, false_and, Option.isSome_some, Option.isSome_none, List.any_cons, List.any_nil, Bool.or_true, Bool.or_false, Bool.true_or, Bool.false_or, Bool.not_true, Bool.not_false, Bool.and_true, Bool.true_and, Bool.and_false, Bool.false_and, decide_true, decide_false, eq_self, reduceIte, reduceCtorEq, e1, e2, e3, rng1E, sm, z1, z2, z3, liS_nil, eqD_nil]
  exact key cntE feedB handT ec lp hg
end K73

namespace K73
open PySem PySem.Spec PyProof.Rows L2 PD
def dD (x : Str) (i : Nat) : He.DefD := ⟨(x, none), x, x, defArgs (top i), defBody (top i), defScope (top i), [], []⟩
def fn : List He.DefD := [dD "is_integer" 9, dD "are_ascending" 10, dD "is_wait" 11, dD "is_work" 12, dD "is_plan_form" 13, dD "need_plan_form" 14, dD "plan_text" 17, dD "is_number_text" 18, dD "read_plan" 19, dD "is_plan" 21, dD "_law_feed" 23, dD "_law_draw" 24, dD "_law_one" 25, dD "_law_same" 26, dD "_law_mixed" 27, dD "_law_any" 28, dD "_law_text" 29, dD "_law_right" 30, dD "law" 31]
def fa : List He.Fa := [.glo "is_integer", .glo "are_ascending", .glo "is_wait", .glo "is_work", .glo "is_plan_form", .glo "need_plan_form", .glo "plan_text", .glo "is_number_text", .glo "read_plan", .glo "is_plan", .glo "_law_feed", .glo "_law_draw", .glo "_law_one", .glo "_law_same", .glo "_law_mixed", .glo "_law_any", .glo "_law_text", .glo "_law_right", .glo "law", .free "all", .free "bool", .free "int", .free "isinstance", .free "len", .free "list", .free "max", .free "min", .free "range", .free "sorted", .free "str", .free "sum", .free "tuple", .free "zip", .int "MOST_EVENTS" (40), .int "MOST_TEXT" (20000), .int "MOST_WAIT" (1000000), .int "MOST_WAITS" (300), .int "MOST_WORKS" (40), .glo "BadPlan", .exc "BadPlan", .glo "BadText", .exc "BadText"]
abbrev Rw : PySem.W.OpenRow := PySem.W.OpenLaw.row PySem.Challenge.rw_relaysandrows_k73_whole_texts_of_plans
abbrev hk : PySem.W.Hook := He.hookD 19 fa fn
def ob (s : PySem.W.SharedT) : He.AlD := He.obsDG 19 fa fn (HandSHeadRun.getT s)
theorem ob_eq (s : PySem.W.SharedT) : ob s = hk.obs s.abs := He.obsDG_eq (HandSHeadRun.getT_eq s)
abbrev loose : List Str := ["PlanError", "BadPlan", "BadText", "MOST_EVENTS", "MOST_WAITS", "MOST_WORKS", "MOST_WAIT", "is_integer", "are_ascending", "is_wait", "is_work", "is_plan_form", "need_plan_form", "MOST_TEXT", "plan_text", "is_number_text", "read_plan", "is_plan", "_law_feed", "_law_draw", "_law_one", "_law_same", "_law_mixed", "_law_any", "_law_text", "_law_right"]
theorem run (w : World) : HandSHeadRun.RunEq Rw (PySem.W.view Rw.prog [31]) hk ob 4000 loose w := by
  intro os
  kernel_rfl
theorem txt {K : PySem.W.Frag} {h : Heap} {mg : Str → Option Value} (X : K.In h) (G : h.Ns mainGlobals mg) (c : He.SaysD fa fn K) : Txt K mg where
  d_is_integer := by
    obtain ⟨fd, F⟩ := c.def_ 0 (d := dD "is_integer" 9) rfl
    exact ⟨_, fd, F, He.glo_ok X G (c.fact 0 (f := .glo "is_integer") rfl)⟩
  d_are_ascending := by
    obtain ⟨fd, F⟩ := c.def_ 1 (d := dD "are_ascending" 10) rfl
    exact ⟨_, fd, F, He.glo_ok X G (c.fact 1 (f := .glo "are_ascending") rfl)⟩
  d_is_wait := by
    obtain ⟨fd, F⟩ := c.def_ 2 (d := dD "is_wait" 11) rfl
    exact ⟨_, fd, F, He.glo_ok X G (c.fact 2 (f := .glo "is_wait") rfl)⟩
  d_is_work := by
    obtain ⟨fd, F⟩ := c.def_ 3 (d := dD "is_work" 12) rfl
    exact ⟨_, fd, F, He.glo_ok X G (c.fact 3 (f := .glo "is_work") rfl)⟩
  d_is_plan_form := by
    obtain ⟨fd, F⟩ := c.def_ 4 (d := dD "is_plan_form" 13) rfl
    exact ⟨_, fd, F, He.glo_ok X G (c.fact 4 (f := .glo "is_plan_form") rfl)⟩
  d_need_plan_form := by
    obtain ⟨fd, F⟩ := c.def_ 5 (d := dD "need_plan_form" 14) rfl
    exact ⟨_, fd, F, He.glo_ok X G (c.fact 5 (f := .glo "need_plan_form") rfl)⟩
  d_plan_text := by
    obtain ⟨fd, F⟩ := c.def_ 6 (d := dD "plan_text" 17) rfl
    exact ⟨_, fd, F, He.glo_ok X G (c.fact 6 (f := .glo "plan_text") rfl)⟩
  d_is_number_text := by
    obtain ⟨fd, F⟩ := c.def_ 7 (d := dD "is_number_text" 18) rfl
    exact ⟨_, fd, F, He.glo_ok X G (c.fact 7 (f := .glo "is_number_text") rfl)⟩
  d_read_plan := by
    obtain ⟨fd, F⟩ := c.def_ 8 (d := dD "read_plan" 19) rfl
    exact ⟨_, fd, F, He.glo_ok X G (c.fact 8 (f := .glo "read_plan") rfl)⟩
  d_is_plan := by
    obtain ⟨fd, F⟩ := c.def_ 9 (d := dD "is_plan" 21) rfl
    exact ⟨_, fd, F, He.glo_ok X G (c.fact 9 (f := .glo "is_plan") rfl)⟩
  d__law_feed := by
    obtain ⟨fd, F⟩ := c.def_ 10 (d := dD "_law_feed" 23) rfl
    exact ⟨_, fd, F, He.glo_ok X G (c.fact 10 (f := .glo "_law_feed") rfl)⟩
  d__law_draw := by
    obtain ⟨fd, F⟩ := c.def_ 11 (d := dD "_law_draw" 24) rfl
    exact ⟨_, fd, F, He.glo_ok X G (c.fact 11 (f := .glo "_law_draw") rfl)⟩
  d__law_one := by
    obtain ⟨fd, F⟩ := c.def_ 12 (d := dD "_law_one" 25) rfl
    exact ⟨_, fd, F, He.glo_ok X G (c.fact 12 (f := .glo "_law_one") rfl)⟩
  d__law_same := by
    obtain ⟨fd, F⟩ := c.def_ 13 (d := dD "_law_same" 26) rfl
    exact ⟨_, fd, F, He.glo_ok X G (c.fact 13 (f := .glo "_law_same") rfl)⟩
  d__law_mixed := by
    obtain ⟨fd, F⟩ := c.def_ 14 (d := dD "_law_mixed" 27) rfl
    exact ⟨_, fd, F, He.glo_ok X G (c.fact 14 (f := .glo "_law_mixed") rfl)⟩
  d__law_any := by
    obtain ⟨fd, F⟩ := c.def_ 15 (d := dD "_law_any" 28) rfl
    exact ⟨_, fd, F, He.glo_ok X G (c.fact 15 (f := .glo "_law_any") rfl)⟩
  d__law_text := by
    obtain ⟨fd, F⟩ := c.def_ 16 (d := dD "_law_text" 29) rfl
    exact ⟨_, fd, F, He.glo_ok X G (c.fact 16 (f := .glo "_law_text") rfl)⟩
  d__law_right := by
    obtain ⟨fd, F⟩ := c.def_ 17 (d := dD "_law_right" 30) rfl
    exact ⟨_, fd, F, He.glo_ok X G (c.fact 17 (f := .glo "_law_right") rfl)⟩
  d_law := by
    obtain ⟨fd, F⟩ := c.def_ 18 (d := dD "law" 31) rfl
    exact ⟨_, fd, F, He.glo_ok X G (c.fact 18 (f := .glo "law") rfl)⟩
  b_all := He.free_ok X G (c.fact 19 (f := .free "all") rfl)
  b_bool := He.free_ok X G (c.fact 20 (f := .free "bool") rfl)
  b_int := He.free_ok X G (c.fact 21 (f := .free "int") rfl)
  b_isinstance := He.free_ok X G (c.fact 22 (f := .free "isinstance") rfl)
  b_len := He.free_ok X G (c.fact 23 (f := .free "len") rfl)
  b_list := He.free_ok X G (c.fact 24 (f := .free "list") rfl)
  b_max := He.free_ok X G (c.fact 25 (f := .free "max") rfl)
  b_min := He.free_ok X G (c.fact 26 (f := .free "min") rfl)
  b_range := He.free_ok X G (c.fact 27 (f := .free "range") rfl)
  b_sorted := He.free_ok X G (c.fact 28 (f := .free "sorted") rfl)
  b_str := He.free_ok X G (c.fact 29 (f := .free "str") rfl)
  b_sum := He.free_ok X G (c.fact 30 (f := .free "sum") rfl)
  b_tuple := He.free_ok X G (c.fact 31 (f := .free "tuple") rfl)
  b_zip := He.free_ok X G (c.fact 32 (f := .free "zip") rfl)
  g_MOST_EVENTS := He.int_ok X G (c.fact 33 (f := .int "MOST_EVENTS" (40)) rfl)
  g_MOST_TEXT := He.int_ok X G (c.fact 34 (f := .int "MOST_TEXT" (20000)) rfl)
  g_MOST_WAIT := He.int_ok X G (c.fact 35 (f := .int "MOST_WAIT" (1000000)) rfl)
  g_MOST_WAITS := He.int_ok X G (c.fact 36 (f := .int "MOST_WAITS" (300)) rfl)
  g_MOST_WORKS := He.int_ok X G (c.fact 37 (f := .int "MOST_WORKS" (40)) rfl)
  c_BadPlan := by
    obtain ⟨c1, c2, c3, c4⟩ := He.exc_ok (K := K) (x := "BadPlan") (c.fact 39 (f := .exc "BadPlan") rfl)
    exact ⟨He.ga K "BadPlan", _, _, _, He.veBase, PySem.F.excBase_ValueError, c1, He.glo_ok X G (c.fact 38 (f := .glo "BadPlan") rfl), c2, c3, c4⟩
  c_BadText := by
    obtain ⟨c1, c2, c3, c4⟩ := He.exc_ok (K := K) (x := "BadText") (c.fact 41 (f := .exc "BadText") rfl)
    exact ⟨He.ga K "BadText", _, _, _, He.veBase, PySem.F.excBase_ValueError, c1, He.glo_ok X G (c.fact 40 (f := .glo "BadText") rfl), c2, c3, c4⟩
theorem law_sp {K : Frag} {mg : Str → Option Value} (H : Hp) (a : Addr) (ns : List Int) (hl : ns.length ≤ 63) (hS : SqL K H a (ns.map V.int)) : spD K mg 1 m_law [.ref a] H (fun v _ => v = .bl true) fun _ _ _ => False := by
  refine ⟨none, H, [.val (scrD ns)], none, ⟨Nat.le_refl _, Sub.refl, fun i s e => ?_, fun i j b h1 => ?_, fun b e => (nomatch e), fun p ds e => (nomatch e), fun b xs e => e⟩, fun _ => rfl, rfl, rfl, rfl, ?_⟩
  · match i, e with
    | 0, e => injection e with e; subst e; exact ⟨.ref a, rfl, .scr hS⟩
    | i + 1, e => simp at e
  · obtain ⟨_, s, e, o⟩ := h1
    match i, e with
    | 0, e => injection e with e; subst e; cases o
    | i + 1, e => simp at e
  · rw [law_ok ns hl]
    intro v H' G' _ _ _ r
    replace r : Rep K G' v (.bool true) := r
    cases r
    rfl
theorem facts {P : Program} {w : World} {K : PySem.W.Frag} {h : Heap} {mg : Str → Option Value} {f : Addr} (X : K.In h) (G : h.Ns mainGlobals mg) (hfa : mg ("law" : Str) = some (.ref f)) (c : He.SaysD fa fn K) :
    ∃ fd : FuncData, (∀ (s : Shared) (v : Value), BindsTo s fd ⟨[v], []⟩ [("script", v)]) ∧ ∀ base : Heap, K.In base → base.Ns mainGlobals mg → FnOk P w K mg base (fun _ _ _ _ _ _ => False) 13 f fd ["script"] (fun vs H Q _ => spD K mg 1 m_law vs H Q fun _ _ _ => False) := by
  obtain ⟨fd, F⟩ := c.def_ 18 (d := dD "law" 31) rfl
  have e := hfa.symm.trans (He.glo_ok X G (c.fact 18 (f := .glo "law") rfl))
  cases e
  have b := FunD.bindsA (ps := ["script"]) F fun _ _ _ _ _ _ us hl => match us, hl with | [_], _ => rfl
  exact ⟨fd, fun s v => b s [v] rfl, fun base _ _ => fn_calm (o_law (txt X G c) F)⟩
end K73
open PySem PySem.W PySem.Calls PyProof.Rows
theorem PySem.Challenge.cw_relaysandrows_k73_whole_texts_of_plans_holds : PySem.Challenge.rw_relaysandrows_k73_whole_texts_of_plans.Holds := by
  w_on; o_law
  refine HandSHeadRun.head_any (r := OpenLaw.row PySem.Challenge.rw_relaysandrows_k73_whole_texts_of_plans) (q := view (OpenLaw.row PySem.Challenge.rw_relaysandrows_k73_whole_texts_of_plans).prog [31]) (H := K73.hk) (ob := K73.ob) (M := 4000) (loose := K73.loose) (d := HandSHeadRun.topDef (OpenLaw.row PySem.Challenge.rw_relaysandrows_k73_whole_texts_of_plans).prog 31) (kwd := []) K73.ob_eq
    (by kernel_rfl) (fun s => by kernel_rfl) K73.run (by kernel_rfl) (by kernel_rfl) (by kernel_rfl) (by rfl) (by first | assumption | decide +kernel) (by decide +kernel) ⟨rfl, rfl, rfl, rfl, rfl, by decide +kernel⟩ ?hw ?hc
  case hw => w_witness2
  case hc =>
    refine L2.walk_ofE (l := PySem.Challenge.rw_relaysandrows_k73_whole_texts_of_plans) (n := 63) (k := 13) (x := "script") (CX := fun _ _ _ _ _ _ => False) rfl (by decide) (by kernel_rfl) ⟨rfl, by decide, by decide⟩ ?F (fun _ _ _ _ z => z)
    case F =>
      intro w mg fa h Y G hmg0
      obtain ⟨K, KX, c⟩ := Y
      have hmg : mg ("law" : PySem.Str) = some (.ref fa) := by
        have e : (HandSHeadRun.topDef (OpenLaw.row PySem.Challenge.rw_relaysandrows_k73_whole_texts_of_plans).prog 31).name = ("law" : PySem.Str) := by kernel_rfl
        rw [← e]
        exact hmg0
      obtain ⟨fd, hb, hF⟩ := K73.facts (P := (PySem.Challenge.rw_relaysandrows_k73_whole_texts_of_plans).prog) (w := w) KX G hmg c
      exact ⟨K, fd, fun vs H Q _ => PD.spD K mg 1 K73.m_law vs H Q fun _ _ _ => False, KX, hb, fun H a ns hl _ hS => K73.law_sp H a ns hl hS, hF⟩

