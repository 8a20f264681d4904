import PyProof.Rows.All
import Wide.All
import OpenK.AllK
import Wide.FinOn
import HandS.ForMost
import HandS.ForExc
import HandS.Defaults
import HandS.Wide
import HandS.HeadHook1
import HandS.IsInst
import HandS.TupAny
import HandS.TupLe
import HandS.WideBits
import HandS.Gcd
import HandS.Conv
import HandS.Flow
import HandS.Property
import HandS.Zip
import HandS.ExcOwn
import HandS.Comp
import HandS.SortRule
import PyProof.P3In
import Flt.RightSqrt
import HandS.ExcInit
import HandS.ExcField
import HandS.TryMany
import HandS.HeadHook2
import PySem.Challenge.RW_heardmarks_k90_whole_good_lines
import KE.KStateDown
import HandS.Head0
import HandS.Head1
import HandS.Head2
import HandS.Head3
import HandS.HeadEnd
set_option Elab.async false
set_option linter.all false
set_option maxRecDepth 100000
set_option maxHeartbeats 4000000
/-! HMBase: plain data D, how a value of the abstract heap stands for it, slots, the agreement of a pure state with slots and heap. -/
namespace HM
open PySem PySem.Spec PyProof.Rows L2

/-- plain data -/
inductive D where
  | non | bl (b : Bool) | int (i : Int) | str (s : Str)
  | tup (ds : List D) | lst (ds : List D) | scr (ns : List Int)
  | ktp (ds : List D)
  | ins (C : Str) (ns : List Str) (ds : List D)

mutual
/-- v stands for d, by the frozen heap F -/
def Rep (K : PySem.W.Frag) (F : Hp) : D → V → Prop
  | .non, v => v = .non
  | .bl b, v => v = .bl b
  | .int i, v => v = .int i
  | .str s, v => v = .str s
  | .tup ds, v => ∃ a vs, v = .ref a ∧ F a = some (.tup vs) ∧ Reps K F ds vs
  | .ktp ds, v => ∃ a vs, v = .ref a ∧ SqT K F a vs ∧ Reps K F ds vs
  | .lst ds, v => ∃ a vs, v = .ref a ∧ F a = some (.lst vs) ∧ Reps K F ds vs
  | .scr ns, v => ∃ a, v = .ref a ∧ SqL K F a (ns.map V.int)
  | .ins C ns ds, v => ∃ a dx fs, v = .ref a ∧ F a = some (.ins (He.ga K C) dx fs) ∧ fs.map (·.1) = ns ∧ Reps K F ds (fs.map (·.2))
def Reps (K : PySem.W.Frag) (F : Hp) : List D → List V → Prop
  | [], vs => vs = []
  | d :: ds, vs => ∃ v ws, vs = v :: ws ∧ Rep K F d v ∧ Reps K F ds ws
end

theorem seqT {K : PySem.W.Frag} {F H : Hp} {a : Addr} {xs : List V} (e : Same F H) (h : SqT K F a xs) : SqT K H a xs := by
  rcases h with (h | ⟨o, h⟩) | h
  · exact Or.inl (Or.inl (e _ _ h))
  · exact Or.inl (Or.inr ⟨o, e _ _ h⟩)
  · exact Or.inr h

theorem tupS {K : PySem.W.Frag} {F H : Hp} {a : Addr} {xs : List V} (e : Same F H) (h : F a = some (.tup xs)) : SqT K H a xs := SqT.of (e _ _ h)

mutual
theorem Rep.mono {K : PySem.W.Frag} {F F' : Hp} (e : Same F F') : ∀ (d : D) (v : V), Rep K F d v → Rep K F' d v
  | .non, _, h => h
  | .bl _, _, h => h
  | .int _, _, h => h
  | .str _, _, h => h
  | .tup ds, _, ⟨a, vs, ev, hs, hr⟩ => ⟨a, vs, ev, e _ _ hs, Reps.mono e ds vs hr⟩
  | .ktp ds, _, ⟨a, vs, ev, hs, hr⟩ => ⟨a, vs, ev, seqT e hs, Reps.mono e ds vs hr⟩
  | .lst ds, _, ⟨a, vs, ev, hs, hr⟩ => ⟨a, vs, ev, e _ _ hs, Reps.mono e ds vs hr⟩
  | .scr _, _, ⟨a, ev, hs⟩ => ⟨a, ev, e.seq hs⟩
  | .ins _ _ ds, _, ⟨a, dx, fs, ev, hs, hn, hr⟩ => ⟨a, dx, fs, ev, e _ _ hs, hn, Reps.mono e ds _ hr⟩
theorem Reps.mono {K : PySem.W.Frag} {F F' : Hp} (e : Same F F') : ∀ (ds : List D) (vs : List V), Reps K F ds vs → Reps K F' ds vs
  | [], _, h => h
  | d :: ds, _, ⟨v, ws, ev, h1, h2⟩ => ⟨v, ws, ev, Rep.mono e d v h1, Reps.mono e ds ws h2⟩
end

section
variable {K : PySem.W.Frag} {F : Hp}
theorem Reps.length : ∀ {ds : List D} {vs : List V}, Reps K F ds vs → ds.length = vs.length
  | [], _, h => by
    have e : _ = ([] : List V) := h
    rw [e]
    rfl
  | d :: ds, _, ⟨v, ws, ev, _, h2⟩ => by
    rw [ev, List.length_cons, List.length_cons, Reps.length h2]
theorem Reps.get : ∀ {ds : List D} {vs : List V} {i : Nat} {d : D}, Reps K F ds vs → ds[i]? = some d → ∃ v, vs[i]? = some v ∧ Rep K F d v
  | [], _, _, _, _, e => by simp at e
  | _ :: _, _, 0, _, ⟨v, ws, ev, h1, _⟩, e => by
    simp at e
    subst e ev
    exact ⟨v, rfl, h1⟩
  | _ :: _, _, i + 1, d, ⟨v, ws, ev, _, h2⟩, e => by
    subst ev
    obtain ⟨x, hx, hr⟩ := Reps.get (i := i) (d := d) h2 (by simpa using e)
    exact ⟨x, by simpa using hx, hr⟩
theorem Reps.append : ∀ {ds es : List D} {vs ws : List V}, Reps K F ds vs → Reps K F es ws → Reps K F (ds ++ es) (vs ++ ws)
  | [], _, _, _, h, h2 => by
    have e : _ = ([] : List V) := h
    rw [e]
    exact h2
  | d :: ds, _, _, _, ⟨v, us, ev, h1, h3⟩, h2 => ⟨v, _, by rw [ev]; rfl, h1, Reps.append h3 h2⟩
theorem Reps.take : ∀ {ds : List D} {vs : List V} (n : Nat), Reps K F ds vs → Reps K F (ds.take n) (vs.take n)
  | _, _, 0, _ => rfl
  | [], _, n + 1, h => by
    have e : _ = ([] : List V) := h
    rw [e]
    rfl
  | d :: ds, _, n + 1, ⟨v, us, ev, h1, h3⟩ => ⟨v, us.take n, by rw [ev]; rfl, h1, Reps.take n h3⟩
theorem Reps.drop : ∀ {ds : List D} {vs : List V} (n : Nat), Reps K F ds vs → Reps K F (ds.drop n) (vs.drop n)
  | _, _, 0, h => h
  | [], _, n + 1, h => by
    have e : _ = ([] : List V) := h
    rw [e]
    rfl
  | d :: ds, _, n + 1, ⟨v, us, ev, h1, h3⟩ => by
    rw [ev]
    exact Reps.drop n h3
theorem Reps.reverse : ∀ {ds : List D} {vs : List V}, Reps K F ds vs → Reps K F ds.reverse vs.reverse
  | [], _, h => by
    have e : _ = ([] : List V) := h
    rw [e]
    rfl
  | d :: ds, _, ⟨v, us, ev, h1, h3⟩ => by
    rw [ev, List.reverse_cons, List.reverse_cons]
    exact Reps.append (Reps.reverse h3) ⟨v, [], rfl, h1, rfl⟩
theorem Reps.set : ∀ {ds : List D} {vs : List V} {d : D} {v : V} (i : Nat), Reps K F ds vs → Rep K F d v → Reps K F (ds.set i d) (vs.set i v)
  | [], _, _, _, _, h, _ => by
    have e : _ = ([] : List V) := h
    rw [e]
    rfl
  | _ :: _, _, d, v, 0, ⟨x, us, ev, _, h3⟩, hr => ⟨v, us, by rw [ev]; rfl, hr, h3⟩
  | _ :: _, _, d, v, i + 1, ⟨x, us, ev, h1, h3⟩, hr => ⟨x, us.set i v, by rw [ev]; rfl, h1, Reps.set i h3 hr⟩
theorem reps1 {d : D} {v : V} (h : Rep K F d v) : Reps K F [d] [v] := ⟨v, [], rfl, h, rfl⟩
theorem reps_nil : Reps K F [] [] := rfl
theorem reps_cons {d : D} {v : V} {ds : List D} {vs : List V} (h : Rep K F d v) (hs : Reps K F ds vs) : Reps K F (d :: ds) (v :: vs) := ⟨v, vs, rfl, h, hs⟩
theorem Reps.two {d e : D} {vs : List V} (h : Reps K F [d, e] vs) : ∃ x y, vs = [x, y] ∧ Rep K F d x ∧ Rep K F e y := by
  obtain ⟨x, ws, e1, h1, y, us, e2, h2, e3⟩ := h
  have e4 : us = [] := e3
  subst e4 e2 e1
  exact ⟨x, y, rfl, h1, h2⟩
theorem Reps.one {d : D} {vs : List V} (h : Reps K F [d] vs) : ∃ x, vs = [x] ∧ Rep K F d x := by
  obtain ⟨x, ws, e1, h1, e3⟩ := h
  have e4 : ws = [] := e3
  subst e4 e1
  exact ⟨x, rfl, h1⟩
theorem Reps.none_of {vs : List V} (h : Reps K F [] vs) : vs = [] := h
end

/-- a mutable thing of the def's own at a: its children are frozen -/
def OwnAt (K : PySem.W.Frag) (F H : Hp) : D → Addr → Prop
  | .lst ds, a => ∃ vs, H a = some (.lst vs) ∧ Reps K F ds vs
  | .ins C ns ds, a => ∃ dx fs, H a = some (.ins (He.ga K C) dx fs) ∧ fs.map (·.1) = ns ∧ Reps K F ds (fs.map (·.2))
  | _, _ => False
theorem OwnAt.there {K : PySem.W.Frag} {F H : Hp} {d : D} {a : Addr} (h : OwnAt K F H d a) : ∃ o, H a = some o := by
  cases d with
  | lst ds => exact ⟨_, h.choose_spec.1⟩
  | ins C ns ds =>
    obtain ⟨dx, fs, e, _⟩ := h
    exact ⟨_, e⟩
  | _ => exact False.elim h
theorem OwnAt.mono {K : PySem.W.Frag} {F H F' H' : Hp} {d : D} {a : Addr} (h : OwnAt K F H d a) (e : Same F F') (k : H' a = H a) : OwnAt K F' H' d a := by
  cases d with
  | lst ds =>
    obtain ⟨vs, q, r⟩ := h
    exact ⟨vs, k.trans q, Reps.mono e _ _ r⟩
  | ins C ns ds =>
    obtain ⟨dx, fs, q, n, r⟩ := h
    exact ⟨dx, fs, k.trans q, n, Reps.mono e _ _ r⟩
  | _ => exact False.elim h
/-- frozen, it stands for the data -/
theorem OwnAt.rep {K : PySem.W.Frag} {F H F' : Hp} {d : D} {a : Addr} (h : OwnAt K F H d a) (e : Same F F') (k : F' a = H a) : Rep K F' d (.ref a) := by
  cases d with
  | lst ds =>
    obtain ⟨vs, q, r⟩ := h
    exact ⟨a, vs, rfl, k.trans q, Reps.mono e _ _ r⟩
  | ins C ns ds =>
    obtain ⟨dx, fs, q, n, r⟩ := h
    exact ⟨a, dx, fs, rfl, k.trans q, n, Reps.mono e _ _ r⟩
  | _ => exact False.elim h

/-- what a slot holds: nothing known; frozen data; a mutable thing of one's own; one that the caller lent -/
inductive Sl where
  | non | val (d : D) | own (d : D) | inp (d : D) | pnd
def Sl.mut : Sl → Bool
  | .own _ => true
  | .inp _ => true
  | _ => false
abbrev Rho := List Sl

/-- static through a def's run: the slots at the entry, what others hold, what was frozen at the entry; a further fact of the frozen heap -/
structure Bs where
  pin : L2.St
  G : Hp
  F0 : Hp

def SlOk (K : PySem.W.Frag) (B : Bs) (F H : Hp) (i : Nat) : Sl → Option V → Prop
  | .non, _ => True
  | .pnd, o => (∃ w, o = some w) ∧ B.pin[i]? = some o
  | .val d, o => ∃ v, o = some v ∧ Rep K F d v
  | .own d, o => ∃ a, o = some (.ref a) ∧ F a = none ∧ B.G a = none ∧ OwnAt K F H d a
  | .inp d, o => B.pin[i]? = some o ∧ ∃ a, o = some (.ref a) ∧ F a = none ∧ B.G a = none ∧ OwnAt K F H d a

structure Agr (K : PySem.W.Frag) (ex : L2.St → Hp → Prop) (B : Bs) (F : Hp) (ρ : Rho) (σ : L2.St) (H : Hp) : Prop where
  sub : Same F H
  ground : Same B.G H
  from0 : Same B.F0 F
  new : ∀ a o, F a = some o → B.F0 a = some o ∨ B.G a = none
  extra : ex B.pin F
  len : ρ.length = σ.length
  ok : ∀ (i : Nat) (s : Sl) (o : Option V), ρ[i]? = some s → σ[i]? = some o → SlOk K B F H i s o
  inj : ∀ (i j : Nat) (s t : Sl) (a : Addr), i ≠ j → ρ[i]? = some s → ρ[j]? = some t → s.mut = true → t.mut = true → σ[i]? = some (some (V.ref a)) → σ[j]? = some (some (V.ref a)) → False

/-- a step that only makes new things: some are frozen -/
structure Grow (F H F' H' : Hp) : Prop where
  f : Same F F'
  h : Same H H'
  sub : Same F' H'
  new : ∀ a o, F' a = some o → F a = some o ∨ H a = none

theorem Grow.refl {F H : Hp} (s : Same F H) : Grow F H F H := ⟨Same.refl F, Same.refl H, s, fun _ _ e => Or.inl e⟩
theorem Grow.trans {F H F1 H1 F2 H2 : Hp} (a : Grow F H F1 H1) (b : Grow F1 H1 F2 H2) : Grow F H F2 H2 where
  f := a.f.trans b.f
  h := a.h.trans b.h
  sub := b.sub
  new := fun x o e => by
    rcases b.new x o e with q | q
    · exact a.new x o q
    · exact Or.inr (a.h.free q)
theorem same_upd {H : Hp} {p : Addr} {o : HO} (h : H p = none) : Same H (upd H p o) := fun b x e => by
  rw [upd_ne (ne_of_none e h)]
  exact e
theorem same_upd2 {F H : Hp} {p : Addr} {o : HO} (s : Same F H) : Same (upd F p o) (upd H p o) := fun b x e => by
  by_cases hb : b = p
  · subst hb
    rw [upd_same] at e ⊢
    exact e
  · rw [upd_ne hb] at e ⊢
    exact s b x e
/-- a new thing, frozen at once -/
theorem Grow.alloc {F H : Hp} {p : Addr} {o : HO} (s : Same F H) (hp : H p = none) : Grow F H (upd F p o) (upd H p o) where
  f := same_upd (s.free hp)
  h := same_upd hp
  sub := same_upd2 s
  new := fun x u e => by
    by_cases hx : x = p
    · rw [hx]
      exact Or.inr hp
    · rw [upd_ne hx] at e
      exact Or.inl e
/-- a new thing, not frozen -/
theorem Grow.fresh {F H : Hp} {p : Addr} {o : HO} (s : Same F H) (hp : H p = none) : Grow F H F (upd H p o) where
  f := Same.refl F
  h := same_upd hp
  sub := s.trans (same_upd hp)
  new := fun x u e => Or.inl e

section
variable {K : PySem.W.Frag} {ex : L2.St → Hp → Prop} {B : Bs} {F F' H H' : Hp} {ρ : Rho} {σ : L2.St}
theorem Agr.grow (A : Agr K ex B F ρ σ H) (g : Grow F H F' H') (hx : ∀ q F F', Same F F' → ex q F → ex q F') : Agr K ex B F' ρ σ H' where
  sub := g.sub
  ground := A.ground.trans g.h
  from0 := A.from0.trans g.f
  new := fun a o e => by
    rcases g.new a o e with q | q
    · exact A.new a o q
    · exact Or.inr (A.ground.free q)
  extra := hx _ _ _ g.f A.extra
  len := A.len
  ok := fun i s o e1 e2 => by
    have h := A.ok i s o e1 e2
    have own : ∀ {d : D} {a : Addr}, F a = none → OwnAt K F H d a → F' a = none ∧ OwnAt K F' H' d a := fun {d a} n w => by
      obtain ⟨u, eu⟩ := w.there
      refine ⟨?_, w.mono g.f ((g.h a u eu).trans eu.symm)⟩
      cases q : F' a with
      | none => rfl
      | some z =>
        rcases g.new a z q with y | y
        · rw [n] at y
          cases y
        · rw [eu] at y
          cases y
    cases s with
    | non => trivial
    | pnd => exact h
    | val d =>
      obtain ⟨v, ev, r⟩ := h
      exact ⟨v, ev, Rep.mono g.f d v r⟩
    | own d =>
      obtain ⟨a, ea, n, m, w⟩ := h
      exact ⟨a, ea, (own n w).1, m, (own n w).2⟩
    | inp d =>
      obtain ⟨p, a, ea, n, m, w⟩ := h
      exact ⟨p, a, ea, (own n w).1, m, (own n w).2⟩
  inj := A.inj

theorem Agr.own_at {i : Nat} {s : Sl} {d : D} (A : Agr K ex B F ρ σ H) (e : ρ[i]? = some s) (hd : s = .own d ∨ s = .inp d) : ∃ a, σ[i]? = some (some (.ref a)) ∧ F a = none ∧ B.G a = none ∧ OwnAt K F H d a := by
  have hi : i < σ.length := by
    rw [← A.len]
    exact (List.getElem?_eq_some_iff.mp e).1
  have h := A.ok i s σ[i] e (List.getElem?_eq_getElem hi)
  rcases hd with z | z
  · subst z
    obtain ⟨a, ea, n, m, w⟩ := h
    exact ⟨a, by rw [List.getElem?_eq_getElem hi, ea], n, m, w⟩
  · subst z
    obtain ⟨_, a, ea, n, m, w⟩ := h
    exact ⟨a, by rw [List.getElem?_eq_getElem hi, ea], n, m, w⟩
theorem Agr.val_at {i : Nat} {d : D} (A : Agr K ex B F ρ σ H) (e : ρ[i]? = some (.val d)) : ∃ v, σ[i]? = some (some v) ∧ Rep K F d v := by
  have hi : i < σ.length := by
    rw [← A.len]
    exact (List.getElem?_eq_some_iff.mp e).1
  obtain ⟨v, ev, r⟩ := A.ok i _ σ[i] e (List.getElem?_eq_getElem hi)
  exact ⟨v, by rw [List.getElem?_eq_getElem hi, ev], r⟩

/-- the slot i's own thing is frozen -/
theorem Agr.freeze {i : Nat} {d : D} (A : Agr K ex B F ρ σ H) (e : ρ[i]? = some (.own d)) (hx : ∀ q F F', Same F F' → ex q F → ex q F') :
    ∃ F' a, σ[i]? = some (some (.ref a)) ∧ Same F F' ∧ Agr K ex B F' (ρ.set i (.val d)) σ H ∧ Rep K F' d (.ref a) := by
  obtain ⟨a, ea, n, m, w⟩ := A.own_at e (Or.inl rfl)
  obtain ⟨u, eu⟩ := w.there
  have sF : Same F (upd F a u) := same_upd n
  have r : Rep K (upd F a u) d (.ref a) := w.rep sF (by rw [upd_same, eu])
  refine ⟨upd F a u, a, ea, sF, ⟨?_, A.ground, A.from0.trans sF, ?_, hx _ _ _ sF A.extra, by rw [List.length_set]; exact A.len, ?_, ?_⟩, r⟩
  · intro b o eb
    by_cases hb : b = a
    · subst hb
      rw [upd_same] at eb
      rw [eu, ← eb]
    · rw [upd_ne hb] at eb
      exact A.sub b o eb
  · intro b o eb
    by_cases hb : b = a
    · rw [hb]
      exact Or.inr m
    · rw [upd_ne hb] at eb
      exact A.new b o eb
  · intro j s o e1 e2
    by_cases hj : j = i
    · subst hj
      rw [List.getElem?_set_self ((List.getElem?_eq_some_iff.mp e).1)] at e1
      cases e1
      rw [ea] at e2
      cases e2
      exact ⟨_, rfl, r⟩
    · rw [List.getElem?_set_ne (Ne.symm hj)] at e1
      have h := A.ok j s o e1 e2
      have ne : ∀ {b : Addr}, o = some (.ref b) → s.mut = true → b ≠ a := fun {b} eo hm z => by
        subst z
        rw [eo] at e2
        exact A.inj j i s _ _ hj e1 e hm rfl e2 ea
      cases s with
      | non => trivial
      | pnd => exact h
      | val d' =>
        obtain ⟨v, ev, r'⟩ := h
        exact ⟨v, ev, Rep.mono sF d' v r'⟩
      | own d' =>
        obtain ⟨b, eb, n', m', w'⟩ := h
        exact ⟨b, eb, by rw [upd_ne (ne eb rfl)]; exact n', m', w'.mono sF rfl⟩
      | inp d' =>
        obtain ⟨p, b, eb, n', m', w'⟩ := h
        exact ⟨p, b, eb, by rw [upd_ne (ne eb rfl)]; exact n', m', w'.mono sF rfl⟩
  · intro j k s t b hjk e1 e2 hs ht e3 e4
    have nj : j ≠ i := fun z => by
      subst z
      rw [List.getElem?_set_self ((List.getElem?_eq_some_iff.mp e).1)] at e1
      cases e1
      cases hs
    have nk : k ≠ i := fun z => by
      subst z
      rw [List.getElem?_set_self ((List.getElem?_eq_some_iff.mp e).1)] at e2
      cases e2
      cases ht
    rw [List.getElem?_set_ne (Ne.symm nj)] at e1
    rw [List.getElem?_set_ne (Ne.symm nk)] at e2
    exact A.inj j k s t b hjk e1 e2 hs ht e3 e4

/-- the slot's thing with other data -/
def Sl.put : Sl → D → Sl
  | .own _, d => .own d
  | .inp _, d => .inp d
  | s, _ => s
/-- the slot i's own thing is written -/
theorem Agr.write {i : Nat} {s : Sl} {d d' : D} {a : Addr} {u : HO} (A : Agr K ex B F ρ σ H) (e : ρ[i]? = some s) (hd : s = .own d ∨ s = .inp d) (ea : σ[i]? = some (some (.ref a)))
    (w : OwnAt K F (upd H a u) d' a) : Agr K ex B F (ρ.set i (s.put d')) σ (upd H a u) := by
  obtain ⟨a', ea', n, m, w0⟩ := A.own_at e hd
  rw [ea] at ea'
  cases ea'
  have hi := (List.getElem?_eq_some_iff.mp e).1
  have hm : s.mut = true := by rcases hd with z | z <;> (subst z; rfl)
  have hm' : (s.put d').mut = true := by rcases hd with z | z <;> (subst z; rfl)
  refine ⟨fun b o eb => ?_, fun b o eb => ?_, A.from0, A.new, A.extra, by rw [List.length_set]; exact A.len, ?_, ?_⟩
  · have hb : b ≠ a := fun z => by
      subst z
      rw [n] at eb
      cases eb
    rw [upd_ne hb]
    exact A.sub b o eb
  · have hb : b ≠ a := fun z => by
      subst z
      rw [m] at eb
      cases eb
    rw [upd_ne hb]
    exact A.ground b o eb
  · intro j t o e1 e2
    by_cases hj : j = i
    · subst hj
      rw [List.getElem?_set_self hi] at e1
      cases e1
      rw [ea] at e2
      cases e2
      have h := A.ok j s _ e ea
      rcases hd with z | z
      · subst z
        exact ⟨a, rfl, n, m, w⟩
      · subst z
        exact ⟨h.1, a, rfl, n, m, w⟩
    · rw [List.getElem?_set_ne (Ne.symm hj)] at e1
      have h := A.ok j t o e1 e2
      have ne : ∀ {b : Addr}, o = some (.ref b) → t.mut = true → b ≠ a := fun {b} eo hm2 z => by
        subst z
        rw [eo] at e2
        exact A.inj j i t _ _ hj e1 e hm2 hm e2 ea
      cases t with
      | non => trivial
      | pnd => exact h
      | val d2 => exact h
      | own d2 =>
        obtain ⟨b, eb, n', m', w'⟩ := h
        exact ⟨b, eb, n', m', w'.mono (Same.refl F) (upd_ne (ne eb rfl))⟩
      | inp d2 =>
        obtain ⟨p, b, eb, n', m', w'⟩ := h
        exact ⟨p, b, eb, n', m', w'.mono (Same.refl F) (upd_ne (ne eb rfl))⟩
  · intro j k s' t' b hjk e1 e2 hs ht e3 e4
    have back : ∀ {l : Nat} {x : Sl}, (ρ.set i (s.put d'))[l]? = some x → x.mut = true → ∃ y, ρ[l]? = some y ∧ y.mut = true := fun {l x} q hx => by
      by_cases hl : l = i
      · subst hl
        exact ⟨s, e, hm⟩
      · rw [List.getElem?_set_ne (Ne.symm hl)] at q
        exact ⟨x, q, hx⟩
    obtain ⟨y1, q1, h1⟩ := back e1 hs
    obtain ⟨y2, q2, h2⟩ := back e2 ht
    exact A.inj j k y1 y2 b hjk q1 q2 h1 h2 e3 e4

/-- what an expression's result must be to be kept in a slot -/
def ResOk (K : PySem.W.Frag) (B : Bs) (F : Hp) (ρ : Rho) (σ : L2.St) (H : Hp) : Sl → V → Prop
  | .val d, v => Rep K F d v
  | .own d, v => ∃ a, v = .ref a ∧ F a = none ∧ B.G a = none ∧ OwnAt K F H d a ∧ ∀ (i : Nat) (t : Sl), ρ[i]? = some t → t.mut = true → σ[i]? ≠ some (some (V.ref a))
  | _, _ => False
theorem Agr.assign {i : Nat} {s : Sl} {v : V} (A : Agr K ex B F ρ σ H) (r : ResOk K B F ρ σ H s v) : Agr K ex B F (ρ.set i s) (σ.set i (some v)) H := by
  refine ⟨A.sub, A.ground, A.from0, A.new, A.extra, by rw [List.length_set, List.length_set]; exact A.len, ?_, ?_⟩
  · intro j t o e1 e2
    by_cases hj : j = i
    · subst hj
      by_cases hl : j < ρ.length
      · rw [List.getElem?_set_self hl] at e1
        rw [List.getElem?_set_self (by rw [← A.len]; exact hl)] at e2
        cases e1
        cases e2
        cases s with
        | non => exact False.elim r
        | pnd => exact False.elim r
        | inp d => exact False.elim r
        | val d => exact ⟨v, rfl, r⟩
        | own d =>
          obtain ⟨a, ev, n, m, w, _⟩ := r
          exact ⟨a, by rw [ev], n, m, w⟩
      · rw [List.getElem?_eq_none (by rw [List.length_set]; omega)] at e1
        cases e1
    · rw [List.getElem?_set_ne (Ne.symm hj)] at e1 e2
      exact A.ok j t o e1 e2
  · intro j k x y b hjk e1 e2 hs ht e3 e4
    have key : ∀ {l : Nat} {z : Sl}, l = i → (ρ.set i s)[l]? = some z → z.mut = true → (σ.set i (some v))[l]? = some (some (.ref b)) → ∃ d, s = .own d ∧ v = .ref b := fun {l z} hl q hm q2 => by
      subst hl
      have hlt : l < ρ.length := by
        rcases Nat.lt_or_ge l ρ.length with h | h
        · exact h
        · rw [List.getElem?_eq_none (by rw [List.length_set]; omega)] at q
          cases q
      rw [List.getElem?_set_self hlt] at q
      rw [List.getElem?_set_self (by rw [← A.len]; exact hlt)] at q2
      cases q
      cases q2
      cases s with
      | own d => exact ⟨d, rfl, rfl⟩
      | inp d => exact False.elim r
      | non => cases hm
      | pnd => cases hm
      | val d => cases hm
    by_cases hj : j = i
    · obtain ⟨d, es, ev⟩ := key hj e1 hs e3
      have hk : k ≠ i := fun z => hjk (hj.trans z.symm)
      rw [List.getElem?_set_ne (Ne.symm hk)] at e2 e4
      subst es
      obtain ⟨a, ea, _, _, _, q⟩ := r
      rw [ev] at ea
      cases ea
      exact q k y e2 ht e4
    · rw [List.getElem?_set_ne (Ne.symm hj)] at e1 e3
      by_cases hk : k = i
      · obtain ⟨d, es, ev⟩ := key hk e2 ht e4
        subst es
        obtain ⟨a, ea, _, _, _, q⟩ := r
        rw [ev] at ea
        cases ea
        exact q j x e1 hs e3
      · rw [List.getElem?_set_ne (Ne.symm hk)] at e2 e4
        exact A.inj j k x y b hjk e1 e2 hs ht e3 e4
/-- a slot is forgotten, its value may be any -/
theorem Agr.forget {i : Nat} {o : Option V} (A : Agr K ex B F ρ σ H) : Agr K ex B F (ρ.set i .non) (σ.set i o) H := by
  refine ⟨A.sub, A.ground, A.from0, A.new, A.extra, by rw [List.length_set, List.length_set]; exact A.len, ?_, ?_⟩
  · intro j t u e1 e2
    by_cases hj : j = i
    · subst hj
      by_cases hl : j < ρ.length
      · rw [List.getElem?_set_self hl] at e1
        cases e1
        trivial
      · rw [List.getElem?_eq_none (by rw [List.length_set]; omega)] at e1
        cases e1
    · rw [List.getElem?_set_ne (Ne.symm hj)] at e1 e2
      exact A.ok j t u e1 e2
  · intro j k x y b hjk e1 e2 hs ht e3 e4
    have key : ∀ {l : Nat} {z : Sl}, (ρ.set i .non)[l]? = some z → z.mut = true → l ≠ i := fun {l z} q hm hl => by
      subst hl
      have hlt : l < ρ.length := by
        rcases Nat.lt_or_ge l ρ.length with h | h
        · exact h
        · rw [List.getElem?_eq_none (by rw [List.length_set]; omega)] at q
          cases q
      rw [List.getElem?_set_self hlt] at q
      cases q
      cases hm
    have hj := key e1 hs
    have hk := key e2 ht
    rw [List.getElem?_set_ne (Ne.symm hj)] at e1 e3
    rw [List.getElem?_set_ne (Ne.symm hk)] at e2 e4
    exact A.inj j k x y b hjk e1 e2 hs ht e3 e4
theorem Agr.forget0 {i : Nat} (A : Agr K ex B F ρ σ H) : Agr K ex B F (ρ.set i .non) σ H := by
  have h := A.forget (i := i) (o := (σ[i]?).getD none)
  have e : σ.set i ((σ[i]?).getD none) = σ := by
    apply List.ext_getElem?
    intro j
    by_cases hj : j = i
    · subst hj
      by_cases hl : j < σ.length
      · rw [List.getElem?_set_self hl, List.getElem?_eq_getElem hl]
        rfl
      · rw [List.getElem?_eq_none (by rw [List.length_set]; omega), List.getElem?_eq_none (by omega)]
    · rw [List.getElem?_set_ne (Ne.symm hj)]
  rw [e] at h
  exact h
end
end HM

set_option Elab.async false
set_option linter.all false
set_option maxRecDepth 100000
set_option maxHeartbeats 4000000
/-! HMExpr: outcomes, readings by a pure function, expressions. -/
namespace HM
open PySem PySem.Spec PyProof.Rows L2

/-- the class of an exception: an own one by its name, a built-in one -/
inductive XC where
  | own (x : Str) | ty (n : String)
def XC.v (K : PySem.W.Frag) : XC → Value
  | .own x => .ref (He.ga K x)
  | .ty n => .type n

/-- how an expression ends -/
inductive Out (α : Type) where
  | ok (a : α) (ρ : Rho) | exc (c : XC) (ns : List Str) (ds : List D) (ρ : Rho) | stuck
def Out.bind {α β : Type} : Out α → (α → Rho → Out β) → Out β
  | .ok a ρ, k => k a ρ
  | .exc c ns ds ρ, _ => .exc c ns ds ρ
  | .stuck, _ => .stuck
def Out.of {α : Type} (o : Option α) (ρ : Rho) : Out α := match o with
  | some a => .ok a ρ
  | none => .stuck

/-- what is wished of exceptions; what the frozen heap bears besides -/
structure Gam where
  W : WX
  ex : L2.St → Hp → Prop
  mono : ∀ q F F', Same F F' → ex q F → ex q F'

def ExOk (K : PySem.W.Frag) (F : Hp) (ns : List Str) (ds : List D) (d : Option Addr) : Prop :=
  (ns = [] ∧ ds = [] ∧ d = none) ∨ ∃ dd fs, d = some dd ∧ F dd = some (.xd fs) ∧ fs.map (·.1) = ns ∧ Reps K F ds (fs.map (·.2))

section
variable (K : PySem.W.Frag) (Γ : Gam)
/-- what must follow an outcome -/
def After {α : Type} (B : Bs) (F : Hp) (σ : L2.St) (o : Out α) (P : α → Rho → Hp → Hp → Prop) : Prop := match o with
  | .ok a ρ' => ∀ F' H', Same F F' → Agr K Γ.ex B F' ρ' σ H' → P a ρ' F' H'
  | .exc c ns ds ρ' => ∀ d F' H', Same F F' → Agr K Γ.ex B F' ρ' σ H' → ExOk K F' ns ds d → Γ.W (c.v K) d σ H'
  | .stuck => False
/-- an expression's value, frozen -/
def rdE (f : Rho → Out D) : TE := fun σ H Q => ∃ B F ρ, Agr K Γ.ex B F ρ σ H ∧ After K Γ B F σ (f ρ) fun d _ F' H' => ∀ v, Rep K F' d v → Q v H'
/-- an expression's value, perhaps a new mutable thing -/
def rdO (f : Rho → Out Sl) : TE := fun σ H Q => ∃ B F ρ, Agr K Γ.ex B F ρ σ H ∧ After K Γ B F σ (f ρ) fun s ρ' F' H' => ∀ v, ResOk K B F' ρ' σ H' s v → Q v H'
def rdT (f : Rho → Out Bool) : TT := fun σ H Q => ∃ B F ρ, Agr K Γ.ex B F ρ σ H ∧ After K Γ B F σ (f ρ) fun b _ _ H' => Q b H'
def rdA (f : Rho → Out (List D)) : TA := fun σ H Q => ∃ B F ρ, Agr K Γ.ex B F ρ σ H ∧ After K Γ B F σ (f ρ) fun ds _ F' H' => ∀ vs, Reps K F' ds vs → Q vs H'
end
section
variable {K : PySem.W.Frag} {Γ : Gam} {B : Bs} {F : Hp} {σ : L2.St}
theorem After.mono {α : Type} {o : Out α} {P P' : α → Rho → Hp → Hp → Prop} (h : After K Γ B F σ o P) (q : ∀ a ρ' F' H', Same F F' → Agr K Γ.ex B F' ρ' σ H' → P a ρ' F' H' → P' a ρ' F' H') : After K Γ B F σ o P' := by
  cases o with
  | ok a ρ => exact fun F' H' s A => q a ρ F' H' s A (h F' H' s A)
  | exc c ns ds ρ => exact h
  | stuck => exact h
theorem After.bind {α β : Type} {o : Out α} {k : α → Rho → Out β} {P : β → Rho → Hp → Hp → Prop} (h : After K Γ B F σ (o.bind k) P) :
    After K Γ B F σ o fun a ρ' F' _ => After K Γ B F' σ (k a ρ') P := by
  cases o with
  | ok a ρ =>
    intro F' H' s A
    show After K Γ B F' σ (k a ρ) P
    have h2 : After K Γ B F σ (k a ρ) P := h
    cases e : k a ρ with
    | ok b ρ2 =>
      rw [e] at h2
      exact fun F2 H2 s2 A2 => h2 F2 H2 (s.trans s2) A2
    | exc c ns ds ρ2 =>
      rw [e] at h2
      exact fun d F2 H2 s2 A2 => h2 d F2 H2 (s.trans s2) A2
    | stuck =>
      rw [e] at h2
      exact h2
  | exc c ns ds ρ => exact h
  | stuck => exact h
theorem After.of {α : Type} {o : Option α} {ρ : Rho} {P : α → Rho → Hp → Hp → Prop} (h : After K Γ B F σ (Out.of o ρ) P) : ∃ a, o = some a ∧ ∀ F' H', Same F F' → Agr K Γ.ex B F' ρ σ H' → P a ρ F' H' := by
  cases o with
  | none => exact h.elim
  | some a => exact ⟨a, rfl, h⟩
end

/-! ### the judgements -/
theorem pe_weak {X : Cx} {e : Expr} {t t' : TE} (h : PE X e t) (w : ∀ σ H Q, t' σ H Q → t σ H Q) : PE X e t' := ⟨fun pins s σ H Q I q => h.run pins s σ H Q I (w σ H Q q)⟩
theorem pt_weak {X : Cx} {e : Expr} {t t' : TT} (h : PT X e t) (w : ∀ σ H Q, t' σ H Q → t σ H Q) : PT X e t' := ⟨fun pins s σ H Q I q => h.run pins s σ H Q I (w σ H Q q)⟩
theorem pw_weak {X : Cx} {e : Expr} {t t' : TT} (h : PW X e t) (w : ∀ σ H Q, t' σ H Q → t σ H Q) : PW X e t' := ⟨fun wh pins s σ H Q I q => h.run wh pins s σ H Q I (w σ H Q q)⟩
theorem pa_weak {X : Cx} {e : List Expr} {t t' : TA} (h : PA X e t) (w : ∀ σ H Q, t' σ H Q → t σ H Q) : PA X e t' := ⟨fun pos pins s σ H Q I q => h.run pos pins s σ H Q I (w σ H Q q)⟩
def QE (X : Cx) (Γ : Gam) (e : Expr) (f : Rho → Out D) : Prop := PE X e (rdE X.K Γ f)
def QO (X : Cx) (Γ : Gam) (e : Expr) (f : Rho → Out Sl) : Prop := PE X e (rdO X.K Γ f)
def QT (X : Cx) (Γ : Gam) (e : Expr) (f : Rho → Out Bool) : Prop := PT X e (rdT X.K Γ f)
def QW (X : Cx) (Γ : Gam) (e : Expr) (f : Rho → Out Bool) : Prop := PW X e (rdT X.K Γ f)
def QA (X : Cx) (Γ : Gam) (es : List Expr) (f : Rho → Out (List D)) : Prop := PA X es (rdA X.K Γ f)

/-! ### semantic pieces -/
abbrev EV := Rho → Out D
abbrev EO := Rho → Out Sl
abbrev EB := Rho → Out Bool
abbrev EA := Rho → Out (List D)
def Sl.data : Sl → Option D
  | .non => none
  | .pnd => none
  | .val d => some d
  | .own d => some d
  | .inp d => some d
/-- the data of slot i as it stands -/
def peek (i : Nat) (ρ : Rho) : Option D := (ρ[i]?).bind Sl.data
def cst (d : D) : EV := fun ρ => .ok d ρ
/-- a name's value: a thing of one's own is frozen -/
def var (i : Nat) : EV := fun ρ => match ρ[i]? with
  | some (.val d) => .ok d ρ
  | some (.own d) => .ok d (ρ.set i (.val d))
  | _ => .stuck
def op1 (g : D → Option D) (f : EV) : EV := fun ρ => (f ρ).bind fun d ρ1 => Out.of (g d) ρ1
def op2 (g : D → D → Option D) (f f' : EV) : EV := fun ρ => (f ρ).bind fun d ρ1 => (f' ρ1).bind fun d' ρ2 => Out.of (g d d') ρ2
/-- the first operand a name, looked at behind the second -/
def opV2 (g : D → D → Option D) (i : Nat) (f' : EV) : EV := fun ρ => (Out.of (peek i ρ) ρ).bind fun _ ρ1 => (f' ρ1).bind fun d' ρ2 => Out.of ((peek i ρ2).bind fun d => g d d') ρ2
def opV1 (g : D → Option D) (i : Nat) : EV := fun ρ => Out.of ((peek i ρ).bind g) ρ
def opN (g : List D → Option D) (f : EA) : EV := fun ρ => (f ρ).bind fun ds ρ1 => Out.of (g ds) ρ1
def aNil : EA := fun ρ => .ok [] ρ
def aCons (f : EV) (r : EA) : EA := fun ρ => (f ρ).bind fun d ρ1 => (r ρ1).bind fun ds ρ2 => .ok (d :: ds) ρ2
def asB (f : EV) : EB := fun ρ => (f ρ).bind fun d ρ1 => match d with
  | .bl b => .ok b ρ1
  | _ => .stuck
def ofB (f : EB) : EV := fun ρ => (f ρ).bind fun b ρ1 => .ok (.bl b) ρ1
def andB (f g : EB) : EB := fun ρ => (f ρ).bind fun b ρ1 => match b with
  | true => g ρ1
  | false => .ok false ρ1
def orB (f g : EB) : EB := fun ρ => (f ρ).bind fun b ρ1 => match b with
  | true => .ok true ρ1
  | false => g ρ1
def notB (f : EB) : EB := fun ρ => (f ρ).bind fun b ρ1 => .ok (!b) ρ1
def ifE {α : Type} (c : EB) (f g : Rho → Out α) : Rho → Out α := fun ρ => (c ρ).bind fun b ρ1 => match b with
  | true => f ρ1
  | false => g ρ1
def frz (f : EO) : EV := fun ρ => (f ρ).bind fun s ρ1 => Out.of s.data ρ1
def thw (f : EV) : EO := fun ρ => (f ρ).bind fun d ρ1 => .ok (.val d) ρ1
/-- a name handed on whole -/
def move (i : Nat) : EO := fun ρ => match ρ[i]? with
  | some (.val d) => .ok (.val d) ρ
  | some (.own d) => .ok (.own d) (ρ.set i .non)
  | _ => .stuck

/-! ### rules of operators by data -/
/-- r does what g says, making at most new things -/
def Op2 (K : PySem.W.Frag) (r : R2) (g : D → D → Option D) : Prop := ∀ (d e z : D), g d e = some z → ∀ (F H : Hp) (x y : V) (Q : VK), Same F H → Rep K F d x → Rep K F e y → (∀ F' H' v, Grow F H F' H' → Rep K F' z v → Q v H') → r x y H Q
def Op1 (K : PySem.W.Frag) (r : V → Hp → VK → Prop) (g : D → Option D) : Prop := ∀ (d z : D), g d = some z → ∀ (F H : Hp) (x : V) (Q : VK), Same F H → Rep K F d x → (∀ F' H' v, Grow F H F' H' → Rep K F' z v → Q v H') → r x H Q
def OpN (K : PySem.W.Frag) (r : List V → Hp → VK → Prop) (g : List D → Option D) : Prop := ∀ (ds : List D) (z : D), g ds = some z → ∀ (F H : Hp) (xs : List V) (Q : VK), Same F H → Reps K F ds xs → (∀ F' H' v, Grow F H F' H' → Rep K F' z v → Q v H') → r xs H Q
/-- the data as it stands in H: frozen, or a thing of one's own -/
def Seen (K : PySem.W.Frag) (F H : Hp) (d : D) (v : V) : Prop := Rep K F d v ∨ ∃ a, v = .ref a ∧ OwnAt K F H d a
def OpV2 (K : PySem.W.Frag) (r : R2) (g : D → D → Option D) : Prop := ∀ (d e z : D), g d e = some z → ∀ (F H : Hp) (x y : V) (Q : VK), Same F H → Seen K F H d x → Rep K F e y → (∀ F' H' v, Grow F H F' H' → Rep K F' z v → Q v H') → r x y H Q
def OpV1 (K : PySem.W.Frag) (r : V → Hp → VK → Prop) (g : D → Option D) : Prop := ∀ (d z : D), g d = some z → ∀ (F H : Hp) (x : V) (Q : VK), Same F H → Seen K F H d x → (∀ F' H' v, Grow F H F' H' → Rep K F' z v → Q v H') → r x H Q
theorem OpV2.op {K : PySem.W.Frag} {r : R2} {g : D → D → Option D} (h : OpV2 K r g) : Op2 K r g := fun d e z hg F H x y Q s r1 r2 q => h d e z hg F H x y Q s (Or.inl r1) r2 q
theorem OpV1.op {K : PySem.W.Frag} {r : V → Hp → VK → Prop} {g : D → Option D} (h : OpV1 K r g) : Op1 K r g := fun d z hg F H x Q s r1 q => h d z hg F H x Q s (Or.inl r1) q

section
variable {X : Cx} {Γ : Gam} {e e' : Expr} {f f' : EV} {pos : Pos}

theorem seen_at {K : PySem.W.Frag} {ex : L2.St → Hp → Prop} {B : Bs} {F H : Hp} {ρ : Rho} {σ : L2.St} {i : Nat} {d : D} (A : Agr K ex B F ρ σ H) (h : peek i ρ = some d) : ∃ v, σ[i]? = some (some v) ∧ Seen K F H d v := by
  unfold peek at h
  cases e : ρ[i]? with
  | none =>
    rw [e] at h
    cases h
  | some s =>
    rw [e] at h
    have h2 : s.data = some d := h
    cases s with
    | non => cases h2
    | pnd => cases h2
    | val d' =>
      cases h2
      obtain ⟨v, ev, r⟩ := A.val_at e
      exact ⟨v, ev, Or.inl r⟩
    | own d' =>
      cases h2
      obtain ⟨a, ea, _, _, w⟩ := A.own_at e (Or.inl rfl)
      exact ⟨_, ea, Or.inr ⟨a, rfl, w⟩⟩
    | inp d' =>
      cases h2
      obtain ⟨a, ea, _, _, w⟩ := A.own_at e (Or.inr rfl)
      exact ⟨_, ea, Or.inr ⟨a, rfl, w⟩⟩

/-- a result that is a thing of one's own is frozen -/
theorem freeze_res {K : PySem.W.Frag} {ex : L2.St → Hp → Prop} {B : Bs} {F' H' : Hp} {ρ' : Rho} {σ : L2.St} {d : D} {v : V} (A' : Agr K ex B F' ρ' σ H') (r : ResOk K B F' ρ' σ H' (.own d) v) (hx : ∀ q F F', Same F F' → ex q F → ex q F') :
    ∃ F2, Same F' F2 ∧ Agr K ex B F2 ρ' σ H' ∧ Rep K F2 d v := by
  obtain ⟨a, ev, n, m, w, un⟩ := r
  obtain ⟨u, eu⟩ := w.there
  -- the new thing is frozen
  have L : Agr K ex B F' (ρ' ++ [.own d]) (σ ++ [some (.ref a)]) H' := by
    have ll := A'.len
    refine ⟨A'.sub, A'.ground, A'.from0, A'.new, A'.extra, by rw [List.length_append, List.length_append, ll]; rfl, fun i s o e1 e2 => ?_, fun i j s t b hij e1 e2 hs ht e3 e4 => ?_⟩
    · by_cases hi : i < ρ'.length
      · rw [List.getElem?_append_left hi] at e1
        rw [List.getElem?_append_left (by omega)] at e2
        exact A'.ok i s o e1 e2
      · have hi2 : i = ρ'.length := by
          have := (List.getElem?_eq_some_iff.mp e1).1
          rw [List.length_append] at this
          have h1 : ([Sl.own d] : Rho).length = 1 := rfl
          omega
        subst hi2
        rw [List.getElem?_append_right (Nat.le_refl _), Nat.sub_self] at e1
        rw [ll, List.getElem?_append_right (Nat.le_refl _), Nat.sub_self] at e2
        cases e1
        cases e2
        exact ⟨a, rfl, n, m, w⟩
    · have split : ∀ {l : Nat} {y : Sl}, (ρ' ++ [Sl.own d])[l]? = some y → (l < ρ'.length ∧ ρ'[l]? = some y ∧ (σ ++ [some (V.ref a)])[l]? = σ[l]?) ∨ (l = ρ'.length ∧ (σ ++ [some (V.ref a)])[l]? = some (some (.ref a))) := fun {l y} q => by
        by_cases hl : l < ρ'.length
        · rw [List.getElem?_append_left hl] at q
          exact Or.inl ⟨hl, q, List.getElem?_append_left (by omega)⟩
        · have hl2 : l = ρ'.length := by
            have := (List.getElem?_eq_some_iff.mp q).1
            rw [List.length_append] at this
            have h1 : ([Sl.own d] : Rho).length = 1 := rfl
            omega
          refine Or.inr ⟨hl2, ?_⟩
          subst hl2
          rw [ll, List.getElem?_append_right (Nat.le_refl _), Nat.sub_self]
          rfl
      rcases split e1 with ⟨l1, q1, k1⟩ | ⟨l1, k1⟩
      · rcases split e2 with ⟨l2, q2, k2⟩ | ⟨l2, k2⟩
        · rw [k1] at e3
          rw [k2] at e4
          exact A'.inj i j s t b hij q1 q2 hs ht e3 e4
        · rw [k2] at e4
          cases e4
          rw [k1] at e3
          exact un i s q1 hs e3
      · rcases split e2 with ⟨l2, q2, k2⟩ | ⟨l2, k2⟩
        · rw [k1] at e3
          cases e3
          rw [k2] at e4
          exact un j t q2 ht e4
        · exact hij (l1.trans l2.symm)
  obtain ⟨F2, a2, ea2, s2, A2, r2⟩ := L.freeze (i := ρ'.length) (d := d) (by rw [List.getElem?_append_right (Nat.le_refl _), Nat.sub_self]; rfl) hx
  have ea3 : a2 = a := by
    rw [A'.len, List.getElem?_append_right (Nat.le_refl _), Nat.sub_self] at ea2
    cases ea2
    rfl
  subst ea3
  have es : (ρ' ++ [Sl.own d]).set ρ'.length (.val d) = ρ' ++ [.val d] := by
    rw [List.set_append_right _ _ (Nat.le_refl _), Nat.sub_self]
    rfl
  rw [es] at A2
  have A3 : Agr K ex B F2 ρ' σ H' := by
    have ll := A'.len
    refine ⟨A2.sub, A2.ground, A2.from0, A2.new, A2.extra, A'.len, fun i s o e1 e2 => ?_, A'.inj⟩
    have hi := (List.getElem?_eq_some_iff.mp e1).1
    exact A2.ok i s o (by rw [List.getElem?_append_left hi]; exact e1) (by rw [List.getElem?_append_left (by omega)]; exact e2)
  exact ⟨F2, s2, A3, by rw [ev]; exact r2⟩
theorem qe_cst {d : D} {v : V} (h : PE X e (tC v)) (r : ∀ F, Rep X.K F d v) : QE X Γ e (cst d) := pe_weak h fun σ H Q ⟨B, F, ρ, A, q⟩ => q F H (Same.refl F) A v (r F)
theorem qe_int {i : Int} {j : Nat} : QE X Γ (.Constant (.int i) j pos) (cst (.int i)) := qe_cst pe_int fun _ => rfl
theorem qe_bl {b : Bool} {j : Nat} : QE X Γ (.Constant (.bool b) j pos) (cst (.bl b)) := qe_cst pe_bl fun _ => rfl
theorem qe_non {j : Nat} : QE X Γ (.Constant .none j pos) (cst .non) := qe_cst pe_non fun _ => rfl
theorem qe_str {x : Str} {j : Nat} : QE X Γ (.Constant (.str x) j pos) (cst (.str x)) := qe_cst pe_str fun _ => rfl
theorem qe_var {i : Nat} (h : PE X e (tVar i)) : QE X Γ e (var i) := pe_weak h fun σ H Q ⟨B, F, ρ, A, q⟩ => by
  unfold var at q
  cases er : ρ[i]? with
  | none =>
    rw [er] at q
    exact q.elim
  | some s =>
    rw [er] at q
    cases s with
    | non => exact q.elim
    | pnd => exact q.elim
    | inp d => exact q.elim
    | val d =>
      obtain ⟨v, ev, r⟩ := A.val_at er
      exact ⟨v, ev, q F H (Same.refl F) A v r⟩
    | own d =>
      obtain ⟨F', a, ea, sF, A', r⟩ := A.freeze er Γ.mono
      exact ⟨_, ea, q F' H sF A' _ r⟩
theorem qo_move {i : Nat} (h : PE X e (tVar i)) : QO X Γ e (move i) := pe_weak h fun σ H Q ⟨B, F, ρ, A, q⟩ => by
  unfold move at q
  cases er : ρ[i]? with
  | none =>
    rw [er] at q
    exact q.elim
  | some s =>
    rw [er] at q
    cases s with
    | non => exact q.elim
    | pnd => exact q.elim
    | inp d => exact q.elim
    | val d =>
      obtain ⟨v, ev, r⟩ := A.val_at er
      exact ⟨v, ev, q F H (Same.refl F) A v r⟩
    | own d =>
      obtain ⟨a, ea, n, m, w⟩ := A.own_at er (Or.inl rfl)
      refine ⟨_, ea, q F H (Same.refl F) A.forget0 _ ⟨a, rfl, n, m, w, fun j t ej hm e2 => ?_⟩⟩
      have hi := (List.getElem?_eq_some_iff.mp er).1
      by_cases hj : j = i
      · subst hj
        rw [List.getElem?_set_self hi] at ej
        cases ej
        cases hm
      · rw [List.getElem?_set_ne (Ne.symm hj)] at ej
        exact A.inj j i t _ a hj ej er hm rfl e2 ea
theorem qo_thw (h : QE X Γ e f) : QO X Γ e (thw f) := pe_weak h fun σ H Q ⟨B, F, ρ, A, q⟩ => ⟨B, F, ρ, A, (After.bind (o := f ρ) q).mono fun d ρ' F' H' s A' z v r => z F' H' (Same.refl F') A' v r⟩
theorem qe_frz {f : EO} (h : QO X Γ e f) : QE X Γ e (frz f) := pe_weak h fun σ H Q ⟨B, F, ρ, A, q⟩ => ⟨B, F, ρ, A, (After.bind (o := f ρ) q).mono fun s ρ' F' H' sF A' z v r => by
  obtain ⟨d, ed, z⟩ := After.of z
  cases s with
  | non => exact r.elim
  | pnd => exact r.elim
  | inp d' => exact r.elim
  | val d' =>
    cases ed
    exact z F' H' (Same.refl F') A' v r
  | own d' =>
    cases ed
    obtain ⟨F2, s2, A3, r2⟩ := freeze_res A' r Γ.mono
    exact z F2 H' s2 A3 _ r2⟩

theorem qe_op2 {op : Operator} {r : R2} {g : D → D → Option D} (ho : OpR X (binaryOp op) r) (hg : Op2 X.K r g) (ha : QE X Γ e f) (hb : QE X Γ e' f') : QE X Γ (.BinOp e op e' pos) (op2 g f f') :=
  pe_weak (pe_op ho ha hb) fun σ H Q ⟨B, F, ρ, A, q⟩ => ⟨B, F, ρ, A, (After.bind (o := f ρ) q).mono fun d ρ1 F1 H1 s1 A1 q1 v r1 => ⟨B, F1, ρ1, A1, (After.bind (o := f' ρ1) q1).mono fun d' ρ2 F2 H2 s2 A2 q2 v' r2 => by
    obtain ⟨z, ez, q3⟩ := After.of q2
    exact hg d d' z ez F2 H2 v v' Q A2.sub (Rep.mono s2 _ _ r1) r2 fun F3 H3 w g3 r3 => q3 F3 H3 g3.f (A2.grow g3 Γ.mono) w r3⟩⟩
theorem qe_cmp {op : CmpOp} {r : R2} {g : D → D → Option D} (ho : OpR X (compareOp op) r) (hg : Op2 X.K r g) (ha : QE X Γ e f) (hb : QE X Γ e' f') (hm : behindInMarks op e' = false) : QE X Γ (.Compare e [op] [e'] pos) (op2 g f f') :=
  pe_weak (pe_cmpR ho ha hb hm) fun σ H Q ⟨B, F, ρ, A, q⟩ => ⟨B, F, ρ, A, (After.bind (o := f ρ) q).mono fun d ρ1 F1 H1 s1 A1 q1 v r1 => ⟨B, F1, ρ1, A1, (After.bind (o := f' ρ1) q1).mono fun d' ρ2 F2 H2 s2 A2 q2 v' r2 => by
    obtain ⟨z, ez, q3⟩ := After.of q2
    exact hg d d' z ez F2 H2 v v' Q A2.sub (Rep.mono s2 _ _ r1) r2 fun F3 H3 w g3 r3 => q3 F3 H3 g3.f (A2.grow g3 Γ.mono) w r3⟩⟩
theorem qe_ix {r : R2} {g : D → D → Option D} (hr : IxR X r) (hg : Op2 X.K r g) (ha : QE X Γ e f) (hb : QE X Γ e' f') (hs : PlainIx e') : QE X Γ (.Subscript e e' pos) (op2 g f f') :=
  pe_weak (pe_ix hr ha hb hs) fun σ H Q ⟨B, F, ρ, A, q⟩ => ⟨B, F, ρ, A, (After.bind (o := f ρ) q).mono fun d ρ1 F1 H1 s1 A1 q1 v r1 => ⟨B, F1, ρ1, A1, (After.bind (o := f' ρ1) q1).mono fun d' ρ2 F2 H2 s2 A2 q2 v' r2 => by
    obtain ⟨z, ez, q3⟩ := After.of q2
    exact hg d d' z ez F2 H2 v v' Q A2.sub (Rep.mono s2 _ _ r1) r2 fun F3 H3 w g3 r3 => q3 F3 H3 g3.f (A2.grow g3 Γ.mono) w r3⟩⟩
/-- a name's item: the name is looked at behind the index -/
theorem qe_ixV {i : Nat} {r : R2} {g : D → D → Option D} (hr : IxR X r) (hg : OpV2 X.K r g) (ha : PE X e (tVar i)) (hb : QE X Γ e' f') (hs : PlainIx e') : QE X Γ (.Subscript e e' pos) (opV2 g i f') :=
  pe_weak (pe_ix hr ha hb hs) fun σ H Q ⟨B, F, ρ, A, q⟩ => by
    obtain ⟨d0, e0, q⟩ := After.of (After.bind (o := Out.of (peek i ρ) ρ) q)
    obtain ⟨v, ev, _⟩ := seen_at A e0
    have q0 := After.bind (o := f' ρ) (q F H (Same.refl F) A)
    exact ⟨v, ev, B, F, ρ, A, q0.mono fun d' ρ2 F2 H2 s2 A2 q2 v' r2 => by
      obtain ⟨z, ez, q3⟩ := After.of q2
      obtain ⟨d, ed, ez⟩ := Option.bind_eq_some_iff.mp ez
      obtain ⟨v2, ev2, sn⟩ := seen_at A2 ed
      rw [ev] at ev2
      cases ev2
      exact hg d d' z ez F2 H2 v v' Q A2.sub sn r2 fun F3 H3 w g3 r3 => q3 F3 H3 g3.f (A2.grow g3 Γ.mono) w r3⟩
end
end HM

set_option Elab.async false
set_option linter.all false
set_option maxRecDepth 100000
set_option maxHeartbeats 4000000
/-! HMOps: operators and built-ins on plain data. -/
namespace HM
open PySem PySem.Spec PyProof.Rows L2

/-! ### the functions on data -/
def small (n : Nat) : Bool := decide (n ≤ 100000)
theorem small_le {n : Nat} (h : small n = true) : n ≤ sizeLine := Nat.le_trans (of_decide_eq_true h) (by decide)
theorem small_lt {n : Nat} (h : small n = true) : n < sizeLine := Nat.lt_of_le_of_lt (of_decide_eq_true h) (by decide)
def mulOk (i j : Int) : Bool := decide (i.natAbs.log2 + j.natAbs.log2 < 1000000)
def divOk (j : Int) : Bool := decide (j ≠ 0) && decide (j.natAbs.log2 < 9000)
def addI : D → D → Option D
  | .int i, .int j => some (.int (i + j))
  | _, _ => none
def catT : D → D → Option D
  | .tup xs, .tup ys => if small (xs.length + ys.length) then some (.tup (xs ++ ys)) else none
  | _, _ => none
def catL : D → D → Option D
  | .lst xs, .lst ys => if small (xs.length + ys.length) then some (.lst (xs ++ ys)) else none
  | _, _ => none
def addD : D → D → Option D
  | .int i, .int j => some (.int (i + j))
  | .tup xs, .tup ys => if small (xs.length + ys.length) then some (.tup (xs ++ ys)) else none
  | .lst xs, .lst ys => if small (xs.length + ys.length) then some (.lst (xs ++ ys)) else none
  | _, _ => none
def subD : D → D → Option D
  | .int i, .int j => some (.int (i - j))
  | _, _ => none
def mulD : D → D → Option D
  | .int i, .int j => if mulOk i j then some (.int (i * j)) else none
  | _, _ => none
def fdivD : D → D → Option D
  | .int i, .int j => if divOk j then some (.int (i.fdiv j)) else none
  | _, _ => none
def modD : D → D → Option D
  | .int i, .int j => if j ≠ 0 then some (.int (i.fmod j)) else none
  | _, _ => none
def powD : D → D → Option D
  | .int i, .int j => if 0 ≤ j ∧ j ≤ 1000000 ∧ i.natAbs < 2 ^ 64 then some (.int (i ^ j.toNat)) else none
  | _, _ => none
def negD : D → Option D
  | .int i => some (.int (-i))
  | _ => none
def cmpD (p : Int → Int → Bool) : D → D → Option D
  | .int i, .int j => some (.bl (p i j))
  | _, _ => none
def ltD := cmpD fun i j => decide (i < j)
def leD := cmpD fun i j => decide (i ≤ j)
def gtD := cmpD fun i j => decide (j < i)
def geD := cmpD fun i j => decide (j ≤ i)
mutual
def toPy : D → Option PyData
  | .non => some .none
  | .bl b => some (.bool b)
  | .int i => some (.int i)
  | .str s => some (.str s)
  | .tup ds => (toPys ds).map .tuple
  | .lst ds => (toPys ds).map .list
  | _ => none
def toPys : List D → Option (List PyData)
  | [] => some []
  | d :: ds => match toPy d, toPys ds with
    | some p, some ps => some (p :: ps)
    | _, _ => none
end
def eqvD (d e : D) : Option Bool := match toPy d, toPy e with
  | some a, some b => if SeqAt.shaped a && SeqAt.shaped b then some (PyData.eqv a b) else none
  | _, _ => none
def eqD (d e : D) : Option D := (eqvD d e).map .bl
def neD (d e : D) : Option D := (eqvD d e).map fun b => .bl (!b)
def isNon : D → Bool
  | .non => true
  | _ => false
def isNoneD : D → Option D := fun d => some (.bl (isNon d))
def isNotNoneD : D → Option D := fun d => some (.bl (!isNon d))
def isBl (e : Bool) : D → Option D
  | .bl b => some (.bl (decide (b = e)))
  | _ => none
def itemD : D → D → Option D
  | .lst ds, .int i => atI ds i
  | .tup ds, .int i => atI ds i
  | .ktp ds, .int i => atI ds i
  | .scr ns, .int i => (atI ns i).map .int
  | _, _ => none
def lenD : D → Option D
  | .lst ds => some (.int ds.length)
  | .tup ds => some (.int ds.length)
  | .ktp ds => some (.int ds.length)
  | .scr ns => some (.int ns.length)
  | _ => none
def absD : D → Option D
  | .int i => some (.int (if i < 0 then -i else i))
  | _ => none
def intD : D → Option D
  | .int i => some (.int i)
  | .bl b => some (.int (if b then 1 else 0))
  | _ => none
def bitsD : D → Option D
  | .int i => some (.int (Builtin.Int.intBits i))
  | _ => none
def gcdD : List D → Option D
  | [.int a, .int b] => some (.int ((Nat.gcd a.natAbs b.natAbs : Nat) : Int))
  | _ => none
def min2D : List D → Option D
  | [.int i, .int j] => some (.int (if j < i then j else i))
  | _ => none
def max2D : List D → Option D
  | [.int i, .int j] => some (.int (if j > i then j else i))
  | _ => none
def notD : D → Option D
  | .bl b => some (.bl (!b))
  | _ => none
def tupleD : D → Option D
  | .lst ds => some (.tup ds)
  | .tup ds => some (.tup ds)
  | _ => none
/-- the built-in class of a value -/
def clsD : D → String
  | .non => "NoneType"
  | .bl _ => "bool"
  | .int _ => "int"
  | .str _ => "str"
  | .tup _ => "tuple"
  | .ktp _ => "tuple"
  | .lst _ => "list"
  | .scr _ => "list"
  | .ins _ _ _ => ""
def isInsD (T : String) (d : D) : Option D := match kitB (clsD d) T with
  | some b => some (.bl b)
  | none => none

section
variable {K : PySem.W.Frag}
/-! ### helpers -/
theorem pureQ {F H : Hp} {z : D} {v : V} {Q : VK} (s : Same F H) (r : Rep K F z v) (q : ∀ F' H' v, Grow F H F' H' → Rep K F' z v → Q v H') : Q v H := q F H v (Grow.refl s) r
theorem rep_int {F : Hp} {i : Int} {v : V} (h : Rep K F (.int i) v) : v = .int i := h
theorem rep_bl {F : Hp} {b : Bool} {v : V} (h : Rep K F (.bl b) v) : v = .bl b := h
theorem rep_tup {F : Hp} {a : Addr} {vs : List V} {ds : List D} (h : F a = some (.tup vs)) (r : Reps K F ds vs) : Rep K F (.tup ds) (.ref a) := ⟨a, vs, rfl, h, r⟩
theorem rep_lst {F : Hp} {a : Addr} {vs : List V} {ds : List D} (h : F a = some (.lst vs)) (r : Reps K F ds vs) : Rep K F (.lst ds) (.ref a) := ⟨a, vs, rfl, h, r⟩
theorem rep_i {F : Hp} {i : Int} : Rep K F (.int i) (.int i) := rfl
theorem rep_b {F : Hp} {b : Bool} : Rep K F (.bl b) (.bl b) := rfl
theorem opr_or {X : Cx} {f : Value → Value → Sem Value} {r r' : R2} (h : OpR X f r) (h' : OpR X f r') : OpR X f (fun x y H Q => r x y H Q ∨ r' x y H Q) := OpR.or h h'
theorem op2_or {r r' : R2} {g g' : D → D → Option D} (h : Op2 K r g) (h' : Op2 K r' g') : Op2 K (fun x y H Q => r x y H Q ∨ r' x y H Q) fun d e => (g d e).or (g' d e) := fun d e z ez F H x y Q s r1 r2 q => by
  cases h1 : g d e with
  | some z' =>
    have ez' : ((some z').or (g' d e)) = some z := by rw [← h1]; exact ez
    cases ez'
    exact Or.inl (h d e z h1 F H x y Q s r1 r2 q)
  | none =>
    have ez' : ((none : Option D).or (g' d e)) = some z := by rw [← h1]; exact ez
    exact Or.inr (h' d e z ez' F H x y Q s r1 r2 q)

/-! ### arithmetic -/
theorem o_addI : Op2 K (rI0 fun i j => .int (i + j)) addI := fun d e z ez F H x y Q s r1 r2 q => by
  unfold addI at ez
  split at ez
  · cases ez
    exact ⟨_, _, r1, r2, pureQ s rep_i q⟩
  · cases ez
theorem o_sub : Op2 K (rI0 fun i j => .int (i - j)) subD := fun d e z ez F H x y Q s r1 r2 q => by
  unfold subD at ez
  split at ez
  · cases ez
    exact ⟨_, _, r1, r2, pureQ s rep_i q⟩
  · cases ez
theorem mulOk_ok {i j : Int} (h : mulOk i j = true) : CMulW i j := by
  unfold mulOk at h
  have h2 : i.natAbs.log2 + j.natAbs.log2 < 1000000 := of_decide_eq_true h
  exact h2
theorem o_mul : Op2 K (rI CMulW fun i j => .int (i * j)) mulD := fun d e z ez F H x y Q s r1 r2 q => by
  unfold mulD at ez
  split at ez
  · split at ez
    · rename_i i j hc
      cases ez
      exact ⟨_, _, r1, r2, mulOk_ok hc, pureQ s rep_i q⟩
    · cases ez
  · cases ez
/-- the divisor not 0, its size below 2 ^ 9000 -/
def CDivZ (_ j : Int) : Prop := j ≠ 0 ∧ j.natAbs.log2 < 9000
theorem op_fdivZ {X : Cx} : OpR X (binaryOp .FloorDiv) (rI CDivZ fun i j => .int (i.fdiv j)) := opI fun i j t u Q E s hc q => floordiv_int hc.1 q (Or.inl (PyProof.noPylong_of_log2 hc.2))
theorem o_fdiv : Op2 K (rI CDivZ fun i j => .int (i.fdiv j)) fdivD := fun d e z ez F H x y Q s r1 r2 q => by
  unfold fdivD at ez
  split at ez
  · split at ez
    · rename_i i j hc
      cases ez
      obtain ⟨h1, h2⟩ := Bool.and_eq_true_iff.mp hc
      exact ⟨_, _, r1, r2, ⟨of_decide_eq_true h1, of_decide_eq_true h2⟩, pureQ s rep_i q⟩
    · cases ez
  · cases ez
theorem o_mod : Op2 K (rI (fun _ j => j ≠ 0) fun i j => .int (i.fmod j)) modD := fun d e z ez F H x y Q s r1 r2 q => by
  unfold modD at ez
  split at ez
  · split at ez
    · rename_i i j hc
      cases ez
      exact ⟨_, _, r1, r2, hc, pureQ s rep_i q⟩
    · cases ez
  · cases ez
theorem o_pow : Op2 K (rI CPow fun i j => .int (i ^ j.toNat)) powD := fun d e z ez F H x y Q s r1 r2 q => by
  unfold powD at ez
  split at ez
  · split at ez
    · rename_i i j hc
      cases ez
      exact ⟨_, _, r1, r2, hc, pureQ s rep_i q⟩
    · cases ez
  · cases ez
theorem o_neg : Op1 K (rU fun i => .int (-i)) negD := fun d z ez F H x Q s r1 q => by
  unfold negD at ez
  split at ez
  · cases ez
    exact ⟨_, r1, pureQ s rep_i q⟩
  · cases ez
theorem o_cmp {p : Int → Int → Bool} : Op2 K (rI0 fun i j => .bl (p i j)) (cmpD p) := fun d e z ez F H x y Q s r1 r2 q => by
  unfold cmpD at ez
  split at ez
  · cases ez
    exact ⟨_, _, r1, r2, pureQ s rep_b q⟩
  · cases ez
theorem o_lt : Op2 K (rI0 fun i j => .bl (decide (i < j))) ltD := o_cmp
theorem o_le : Op2 K (rI0 fun i j => .bl (decide (i ≤ j))) leD := o_cmp
theorem o_gt : Op2 K (rI0 fun i j => .bl (decide (j < i))) gtD := o_cmp
theorem o_ge : Op2 K (rI0 fun i j => .bl (decide (j ≤ i))) geD := o_cmp

/-! ### tuples and lists put together -/
theorem reps_ne {F : Hp} {ds : List D} {vs : List V} (r : Reps K F ds vs) : ds = [] ↔ vs = [] := by
  cases ds with
  | nil =>
    have e : vs = [] := r
    exact Iff.intro (fun _ => e) (fun _ => rfl)
  | cons d ds =>
    obtain ⟨v, ws, ev, r1, r2⟩ := r
    rw [ev]
    exact Iff.intro (fun h => nomatch h) (fun h => nomatch h)
theorem o_catT : Op2 K (rCatA K) catT := fun d e z ez F H x y Q s r1 r2 q => by
  unfold catT at ez
  split at ez
  · rename_i xs ys
    split at ez
    · rename_i hc
      cases ez
      obtain ⟨a, vs, ea, ha, ra⟩ := r1
      obtain ⟨b, ws, eb, hb, rb⟩ := r2
      refine ⟨a, b, vs, ws, ea, eb, tupS s ha, tupS s hb, by rw [← ra.length, ← rb.length]; exact small_le hc, fun h0 => ?_, fun h1 h0 => ?_, fun h1 h2 p hp => ?_⟩
      · have e0 := (reps_ne ra).mpr h0
        subst e0
        exact pureQ s (rep_tup hb rb) q
      · have e0 := (reps_ne rb).mpr h0
        subst e0
        rw [List.append_nil] at q
        exact pureQ s (rep_tup ha ra) q
      · exact q _ _ _ (Grow.alloc s hp) ⟨p, vs ++ ws, rfl, upd_same, Reps.mono (Grow.alloc s hp).f _ _ (ra.append rb)⟩
    · cases ez
  · cases ez
theorem o_catL : Op2 K rCat catL := fun d e z ez F H x y Q s r1 r2 q => by
  unfold catL at ez
  split at ez
  · rename_i xs ys
    split at ez
    · rename_i hc
      cases ez
      obtain ⟨a, vs, ea, ha, ra⟩ := r1
      obtain ⟨b, ws, eb, hb, rb⟩ := r2
      refine ⟨a, b, vs, ws, ea, eb, s _ _ ha, s _ _ hb, by rw [← ra.length, ← rb.length]; exact small_le hc, fun p hp => ?_⟩
      exact q _ _ _ (Grow.alloc s hp) ⟨p, vs ++ ws, rfl, upd_same, Reps.mono (Grow.alloc s hp).f _ _ (ra.append rb)⟩
    · cases ez
  · cases ez
abbrev rAddA (K : PySem.W.Frag) : R2 := fun x y H Q => (rI0 fun i j => .int (i + j)) x y H Q ∨ (rCatA K x y H Q ∨ rCat x y H Q)
theorem op_addA {X : Cx} : OpR X (binaryOp .Add) (rAddA X.K) := OpR.or op_add (OpR.or op_catA op_cat)
theorem o_add : Op2 K (rAddA K) addD := fun d e z ez F H x y Q s r1 r2 q => by
  unfold addD at ez
  split at ez
  · exact Or.inl (o_addI (.int _) (.int _) z ez F H x y Q s r1 r2 q)
  · exact Or.inr (Or.inl (o_catT (.tup _) (.tup _) z ez F H x y Q s r1 r2 q))
  · exact Or.inr (Or.inr (o_catL (.lst _) (.lst _) z ez F H x y Q s r1 r2 q))
  · cases ez

/-! ### equality -/
mutual
theorem dp_of {F H : Hp} (s : Same F H) : ∀ (d : D) (p : PyData) (v : V), toPy d = some p → Rep K F d v → Dp K H v p
  | .non, p, v, h, r => by
    have e : PyData.none = p := Option.some.inj h
    rw [show v = V.non from r, ← e]
    exact Dp.non
  | .bl b, p, v, h, r => by
    have e : PyData.bool b = p := Option.some.inj h
    rw [show v = V.bl b from r, ← e]
    exact Dp.bl b
  | .int b, p, v, h, r => by
    have e : PyData.int b = p := Option.some.inj h
    rw [show v = V.int b from r, ← e]
    exact Dp.int b
  | .str b, p, v, h, r => by
    have e : PyData.str b = p := Option.some.inj h
    rw [show v = V.str b from r, ← e]
    exact Dp.str b
  | .tup ds, p, v, h, r => by
    have h2 : (toPys ds).map PyData.tuple = some p := h
    obtain ⟨ps, e1, e2⟩ := Option.map_eq_some_iff.mp h2
    obtain ⟨a, vs, ea, ha, ra⟩ := r
    rw [ea, ← e2]
    exact Dp.tup (tupS s ha) (dps_of s ds ps vs e1 ra)
  | .lst ds, p, v, h, r => by
    have h2 : (toPys ds).map PyData.list = some p := h
    obtain ⟨ps, e1, e2⟩ := Option.map_eq_some_iff.mp h2
    obtain ⟨a, vs, ea, ha, ra⟩ := r
    rw [ea, ← e2]
    exact Dp.lst (SqL.of (s _ _ ha)) (dps_of s ds ps vs e1 ra)
  | .scr _, _, _, h, _ => by cases h
  | .ktp _, _, _, h, _ => by cases h
  | .ins _ _ _, _, _, h, _ => by cases h
theorem dps_of {F H : Hp} (s : Same F H) : ∀ (ds : List D) (ps : List PyData) (vs : List V), toPys ds = some ps → Reps K F ds vs → DpAll K H vs ps
  | [], ps, vs, h, r => by
    have e : ([] : List PyData) = ps := Option.some.inj h
    rw [show vs = [] from r, ← e]
    exact DpAll.nil
  | d :: ds, ps, vs, h, r => by
    have h2 : (match toPy d, toPys ds with
      | some p, some ps => some (p :: ps)
      | _, _ => none) = some ps := h
    obtain ⟨v, ws, ev, rv, rw'⟩ := r
    split at h2
    · rename_i p qs e1 e2
      cases h2
      rw [ev]
      exact DpAll.cons (dp_of s d p v e1 rv) (dps_of s ds qs ws e2 rw')
    · cases h2
end
theorem eqvD_some {d e : D} {b : Bool} (h : eqvD d e = some b) : ∃ a c, toPy d = some a ∧ toPy e = some c ∧ SeqAt.shaped a = true ∧ SeqAt.shaped c = true ∧ PyData.eqv a c = b := by
  unfold eqvD at h
  split at h
  · rename_i a c e1 e2
    split at h
    · rename_i hc
      obtain ⟨h1, h2⟩ := Bool.and_eq_true_iff.mp hc
      exact ⟨a, c, e1, e2, h1, h2, Option.some.inj h⟩
    · cases h
  · cases h
theorem o_eq : Op2 K (rEqD K) eqD := fun d e z ez F H x y Q s r1 r2 q => by
  obtain ⟨b, e1, e2⟩ := Option.map_eq_some_iff.mp ez
  obtain ⟨p, p', h1, h2, s1, s2, h3⟩ := eqvD_some e1
  subst e2 h3
  exact ⟨p, p', dp_of s d p x h1 r1, dp_of s e p' y h2 r2, s1, s2, pureQ s rep_b q⟩
theorem o_ne : Op2 K (rNeD K) neD := fun d e z ez F H x y Q s r1 r2 q => by
  obtain ⟨b, e1, e2⟩ := Option.map_eq_some_iff.mp ez
  obtain ⟨p, p', h1, h2, s1, s2, h3⟩ := eqvD_some e1
  subst e2 h3
  exact ⟨p, p', dp_of s d p x h1 r1, dp_of s e p' y h2 r2, s1, s2, pureQ s rep_b q⟩
theorem rep_non {F : Hp} : ∀ {d : D} {v : V}, Rep K F d v → decide (v = .non) = isNon d
  | .non, _, r => by
    rw [show _ = V.non from r]
    rfl
  | .bl b, _, r => by
    rw [show _ = V.bl b from r]
    rfl
  | .int b, _, r => by
    rw [show _ = V.int b from r]
    rfl
  | .str b, _, r => by
    rw [show _ = V.str b from r]
    rfl
  | .tup _, _, ⟨a, _, e, _⟩ => by
    rw [e]
    rfl
  | .ktp _, _, ⟨a, _, e, _⟩ => by
    rw [e]
    rfl
  | .lst _, _, ⟨a, _, e, _⟩ => by
    rw [e]
    rfl
  | .scr _, _, ⟨a, e, _⟩ => by
    rw [e]
    rfl
  | .ins _ _ _, _, ⟨a, _, _, e, _⟩ => by
    rw [e]
    rfl

/-! ### items, lengths -/
theorem atI_map {α β : Type} (f : α → β) (xs : List α) (i : Int) : atI (xs.map f) i = (atI xs i).map f := by
  unfold atI
  rw [List.length_map]
  cases ixN xs.length i with
  | none => rfl
  | some j =>
    show (xs.map f)[j]? = (xs[j]?).map f
    rw [List.getElem?_map]
theorem reps_at {F : Hp} {ds : List D} {vs : List V} {i : Int} {d : D} (r : Reps K F ds vs) (h : atI ds i = some d) : ∃ v, atI vs i = some v ∧ Rep K F d v := by
  unfold atI at h ⊢
  rw [← r.length]
  cases e : ixN ds.length i with
  | none =>
    rw [e] at h
    cases h
  | some j =>
    rw [e] at h
    exact r.get h
abbrev rItm (K : PySem.W.Frag) : R2 := fun x y H Q => rIxL K x y H Q ∨ rIxT K x y H Q
theorem ix_itm {X : Cx} : IxR X (rItm X.K) := ix_list.or ix_tup
theorem o_item : OpV2 K (rItm K) itemD := fun d e z ez F H x y Q s sn r2 q => by
  unfold itemD at ez
  split at ez
  · rename_i ds i
    rcases sn with ⟨a, vs, ea, ha, ra⟩ | ⟨a, ea, vs, ha, ra⟩
    · obtain ⟨v, hv, rv⟩ := reps_at ra ez
      exact Or.inl ⟨a, vs, i, v, ea, r2, SqL.of (s _ _ ha), hv, pureQ s rv q⟩
    · obtain ⟨v, hv, rv⟩ := reps_at ra ez
      exact Or.inl ⟨a, vs, i, v, ea, r2, SqL.of ha, hv, pureQ s rv q⟩
  · rename_i ds i
    rcases sn with ⟨a, vs, ea, ha, ra⟩ | ⟨a, ea, w⟩
    · obtain ⟨v, hv, rv⟩ := reps_at ra ez
      exact Or.inr ⟨a, vs, i, v, ea, r2, tupS s ha, hv, pureQ s rv q⟩
    · exact w.elim
  · rename_i ds i
    rcases sn with ⟨a, vs, ea, ha, ra⟩ | ⟨a, ea, w⟩
    · obtain ⟨v, hv, rv⟩ := reps_at ra ez
      exact Or.inr ⟨a, vs, i, v, ea, r2, seqT s ha, hv, pureQ s rv q⟩
    · exact w.elim
  · rename_i ns i
    rcases sn with ⟨a, ea, ha⟩ | ⟨a, ea, w⟩
    · obtain ⟨n, hn, ez⟩ := Option.map_eq_some_iff.mp ez
      subst ez
      exact Or.inl ⟨a, _, i, .int n, ea, r2, s.seq ha, by rw [atI_map, hn] <;> rfl, pureQ s rep_i q⟩
    · exact w.elim
  · cases ez
abbrev rLenA (K : PySem.W.Frag) : List V → Hp → VK → Prop := fun xs H Q => ∃ p ys, xs = [.ref p] ∧ (SqL K H p ys ∨ SqT K H p ys) ∧ Q (.int ys.length) H
theorem o_len : OpV1 K (fun x H Q => rLenA K [x] H Q) lenD := fun d z ez F H x Q s sn q => by
  unfold lenD at ez
  split at ez
  · rename_i ds
    cases ez
    rcases sn with ⟨a, vs, ea, ha, ra⟩ | ⟨a, ea, vs, ha, ra⟩
    · rw [ra.length] at q
      exact ⟨a, vs, by rw [ea], Or.inl (SqL.of (s _ _ ha)), pureQ s rep_i q⟩
    · rw [ra.length] at q
      exact ⟨a, vs, by rw [ea], Or.inl (SqL.of ha), pureQ s rep_i q⟩
  · rename_i ds
    cases ez
    rcases sn with ⟨a, vs, ea, ha, ra⟩ | ⟨a, ea, w⟩
    · rw [ra.length] at q
      exact ⟨a, vs, by rw [ea], Or.inr (tupS s ha), pureQ s rep_i q⟩
    · exact w.elim
  · rename_i ds
    cases ez
    rcases sn with ⟨a, vs, ea, ha, ra⟩ | ⟨a, ea, w⟩
    · rw [ra.length] at q
      exact ⟨a, vs, by rw [ea], Or.inr (seqT s ha), pureQ s rep_i q⟩
    · exact w.elim
  · rename_i ns
    cases ez
    rcases sn with ⟨a, ea, ha⟩ | ⟨a, ea, w⟩
    · refine ⟨a, _, by rw [ea], Or.inl (s.seq ha), ?_⟩
      rw [List.length_map]
      exact pureQ s rep_i q
    · exact w.elim
  · cases ez
theorem o_abs : Op1 K (fun x H Q => ∃ i, [x] = [V.int i] ∧ Q (.int (if i < 0 then -i else i)) H) absD := fun d z ez F H x Q s r1 q => by
  unfold absD at ez
  split at ez
  · cases ez
    exact ⟨_, by rw [show x = _ from r1], pureQ s rep_i q⟩
  · cases ez
theorem o_int : Op1 K (fun x H Q => (∃ i, [x] = [V.int i] ∧ Q (.int i) H) ∨ ∃ k, [x] = [V.bl k] ∧ Q (.int (if k then 1 else 0)) H) intD := fun d z ez F H x Q s r1 q => by
  unfold intD at ez
  split at ez
  · cases ez
    exact Or.inl ⟨_, by rw [show x = _ from r1], pureQ s rep_i q⟩
  · cases ez
    exact Or.inr ⟨_, by rw [show x = _ from r1], pureQ s rep_i q⟩
  · cases ez
theorem o_gcd : OpN K rGcd gcdD := fun ds z ez F H xs Q s r q => by
  unfold gcdD at ez
  split at ez
  · cases ez
    obtain ⟨x, y, e, r1, r2⟩ := r.two
    exact ⟨_, _, by rw [e, show x = _ from r1, show y = _ from r2], pureQ s rep_i q⟩
  · cases ez
theorem o_min2 : OpN K (fun xs H Q => ∃ i j, xs = [V.int i, .int j] ∧ Q (.int (if j < i then j else i)) H) min2D := fun ds z ez F H xs Q s r q => by
  unfold min2D at ez
  split at ez
  · cases ez
    obtain ⟨x, y, e, r1, r2⟩ := r.two
    exact ⟨_, _, by rw [e, show x = _ from r1, show y = _ from r2], pureQ s rep_i q⟩
  · cases ez
theorem o_max2 : OpN K (fun xs H Q => ∃ i j, xs = [V.int i, .int j] ∧ Q (.int (if j > i then j else i)) H) max2D := fun ds z ez F H xs Q s r q => by
  unfold max2D at ez
  split at ez
  · cases ez
    obtain ⟨x, y, e, r1, r2⟩ := r.two
    exact ⟨_, _, by rw [e, show x = _ from r1, show y = _ from r2], pureQ s rep_i q⟩
  · cases ez
abbrev rTuple (K : PySem.W.Frag) : List V → Hp → VK → Prop := fun xs H Q => ∃ p ys, xs = [.ref p] ∧ ((SqL K H p ys ∧ ∀ l, H l = none → Q (.ref l) (upd H l (.tup ys))) ∨ (SqT K H p ys ∧ Q (.ref p) H))
theorem o_tuple : OpV1 K (fun x H Q => rTuple K [x] H Q) tupleD := fun d z ez F H x Q s sn q => by
  unfold tupleD at ez
  split at ez
  · rename_i ds
    cases ez
    rcases sn with ⟨a, vs, ea, ha, ra⟩ | ⟨a, ea, vs, ha, ra⟩
    · exact ⟨a, vs, by rw [ea], Or.inl ⟨SqL.of (s _ _ ha), fun p hp => q _ _ _ (Grow.alloc s hp) ⟨p, vs, rfl, upd_same, Reps.mono (Grow.alloc s hp).f _ _ ra⟩⟩⟩
    · exact ⟨a, vs, by rw [ea], Or.inl ⟨SqL.of ha, fun p hp => q _ _ _ (Grow.alloc s hp) ⟨p, vs, rfl, upd_same, Reps.mono (Grow.alloc s hp).f _ _ ra⟩⟩⟩
  · rename_i ds
    cases ez
    rcases sn with ⟨a, vs, ea, ha, ra⟩ | ⟨a, ea, w⟩
    · exact ⟨a, vs, by rw [ea], Or.inr ⟨tupS s ha, pureQ s (rep_tup ha ra) q⟩⟩
    · exact w.elim
  · cases ez
end
end HM

set_option Elab.async false
set_option linter.all false
set_option maxRecDepth 100000
set_option maxHeartbeats 4000000
/-! HMRules: expressions and tests by data, continued. -/
namespace HM
open PySem PySem.Spec PyProof.Rows L2

section
variable {X : Cx} {Γ : Gam} {e e' : Expr} {es : List Expr} {f f' : EV} {fa : EA} {pos p : Pos} {x : Str}

/-! ### arguments, displays -/
theorem qa_nil : QA X Γ [] aNil := pa_weak pa_nil fun σ H Q ⟨B, F, ρ, A, q⟩ => q F H (Same.refl F) A [] rfl
theorem qa_cons (ha : QE X Γ e f) (hr : QA X Γ es fa) (hs : starEach (e :: es) X.env = (false, eval e X.env) :: starEach es X.env := by rfl) : QA X Γ (e :: es) (aCons f fa) :=
  pa_weak (pa_cons ha hr hs) fun σ H Q ⟨B, F, ρ, A, q⟩ => ⟨B, F, ρ, A, (After.bind (o := f ρ) q).mono fun d ρ1 F1 H1 s1 A1 q1 v r1 => ⟨B, F1, ρ1, A1, (After.bind (o := fa ρ1) q1).mono fun ds ρ2 F2 H2 s2 A2 q2 vs r2 =>
    q2 F2 H2 (Same.refl F2) A2 _ (reps_cons (Rep.mono s2 _ _ r1) r2)⟩⟩
def tupE (f : EA) : EV := fun ρ => (f ρ).bind fun ds ρ1 => Out.of (if small ds.length then some (.tup ds) else none) ρ1
def lstE (f : EA) : EO := fun ρ => (f ρ).bind fun ds ρ1 => Out.of (if small ds.length then some (.own (.lst ds)) else none) ρ1
theorem qe_tup {k : Nat} (h : QA X Γ es fa) : QE X Γ (.Tuple es k pos) (tupE fa) :=
  pe_weak (pe_tup h) fun σ H Q ⟨B, F, ρ, A, q⟩ => ⟨B, F, ρ, A, (After.bind (o := fa ρ) q).mono fun ds ρ1 F1 H1 s1 A1 q1 vs r1 => by
    obtain ⟨z, ez, q2⟩ := After.of q1
    split at ez
    · rename_i hc
      cases ez
      exact ⟨by rw [← r1.length]; exact small_le hc, fun p hp => q2 _ _ (Grow.alloc A1.sub hp).f (A1.grow (Grow.alloc A1.sub hp) Γ.mono) _ (rep_tup upd_same (Reps.mono (Grow.alloc A1.sub hp).f _ _ r1))⟩
    · cases ez⟩
theorem new_own {K : PySem.W.Frag} {ex : L2.St → Hp → Prop} {B : Bs} {F H : Hp} {ρ : Rho} {σ : L2.St} {p : Addr} {vs : List V} {ds : List D} (A : Agr K ex B F ρ σ H) (hx : ∀ q F F', Same F F' → ex q F → ex q F') (hp : H p = none) (r : Reps K F ds vs) :
    Agr K ex B F ρ σ (upd H p (.lst vs)) ∧ ResOk K B F ρ σ (upd H p (.lst vs)) (.own (.lst ds)) (.ref p) := by
  refine ⟨A.grow (Grow.fresh A.sub hp) hx, p, rfl, A.sub.free hp, A.ground.free hp, ⟨vs, upd_same, r⟩, fun i t ei hm es => ?_⟩
  obtain ⟨d, hd⟩ : ∃ d, t = .own d ∨ t = .inp d := by
    cases t with
    | own d => exact ⟨d, Or.inl rfl⟩
    | inp d => exact ⟨d, Or.inr rfl⟩
    | non => cases hm
    | pnd => cases hm
    | val d => cases hm
  obtain ⟨a, ea, _, _, w⟩ := A.own_at ei hd
  rw [es] at ea
  cases ea
  obtain ⟨o, eo⟩ := w.there
  rw [hp] at eo
  cases eo
theorem qo_lst (h : QA X Γ es fa) : QO X Γ (.List es pos) (lstE fa) :=
  pe_weak (pe_lst h) fun σ H Q ⟨B, F, ρ, A, q⟩ => ⟨B, F, ρ, A, (After.bind (o := fa ρ) q).mono fun ds ρ1 F1 H1 s1 A1 q1 vs r1 => by
    obtain ⟨z, ez, q2⟩ := After.of q1
    split at ez
    · rename_i hc
      cases ez
      refine ⟨by rw [← r1.length]; exact small_le hc, fun p hp => ?_⟩
      obtain ⟨A2, r2⟩ := new_own A1 Γ.mono hp r1
      exact q2 _ _ (Same.refl F1) A2 _ r2
    · cases ez⟩

/-! ### built-ins -/
theorem qe_callB {id : String} {r : List V → Hp → VK → Prop} {g : List D → Option D} (hc : CallR X (.builtin id) r) (hop : OpN X.K r g) (hg : Gl X x) (hm : X.mg x = none) (hv : bootBuiltins x = some (.builtin id)) (ha : QA X Γ (e :: es) fa)
    (hn : x ≠ "__name__" := by decide) (hdb : (x == ("__debug__" : Str)) = false := by decide)
    (he : starEach (e :: es) X.env = (false, eval e X.env) :: starEach es X.env := by rfl) (hpl : (backTo pos (starEach es X.env)).any (·.1) = false := by rfl) : QE X Γ (.Call (.Name x p) (e :: es) [] pos) (opN g fa) :=
  pe_weak (pe_callB hc hg hm hv ha hn hdb he hpl) fun σ H Q ⟨B, F, ρ, A, q⟩ => ⟨B, F, ρ, A, (After.bind (o := fa ρ) q).mono fun ds ρ1 F1 H1 s1 A1 q1 vs r1 => by
    obtain ⟨z, ez, q2⟩ := After.of q1
    exact hop ds z ez F1 H1 vs Q A1.sub r1 fun F2 H2 w g2 r2 => q2 F2 H2 g2.f (A1.grow g2 Γ.mono) w r2⟩
theorem qe_callFun {id : String} {r : List V → Hp → VK → Prop} {g : List D → Option D} (hc : CallR X (.builtin id) r) (hop : OpN X.K r g) (hg : Gl X x) (hm : X.mg x = some (.builtin id)) (ha : QA X Γ (e :: es) fa)
    (hdb : (x == ("__debug__" : Str)) = false := by decide)
    (he : starEach (e :: es) X.env = (false, eval e X.env) :: starEach es X.env := by rfl) (hpl : (backTo pos (starEach es X.env)).any (·.1) = false := by rfl) : QE X Γ (.Call (.Name x p) (e :: es) [] pos) (opN g fa) :=
  pe_weak (pe_callBfun hc hg hm ha hdb he hpl) fun σ H Q ⟨B, F, ρ, A, q⟩ => ⟨B, F, ρ, A, (After.bind (o := fa ρ) q).mono fun ds ρ1 F1 H1 s1 A1 q1 vs r1 => by
    obtain ⟨z, ez, q2⟩ := After.of q1
    exact hop ds z ez F1 H1 vs Q A1.sub r1 fun F2 H2 w g2 r2 => q2 F2 H2 g2.f (A1.grow g2 Γ.mono) w r2⟩
/-- one argument, by value -/
theorem one_run {r : List V → Hp → VK → Prop} {g : D → Option D} {f : EV} {σ : L2.St} {H : Hp} {Q : VK} (hop : Op1 X.K (fun x H Q => r [x] H Q) g) (h : rdE X.K Γ (op1 g f) σ H Q) :
    tCB r (tCons (rdE X.K Γ f) tNil) σ H Q := by
  obtain ⟨B, F, ρ, A, q⟩ := h
  exact ⟨B, F, ρ, A, (After.bind (o := f ρ) q).mono fun d ρ1 F1 H1 s1 A1 q1 v r1 => by
    obtain ⟨z, ez, q2⟩ := After.of q1
    exact hop d z ez F1 H1 v Q A1.sub r1 fun F2 H2 w g2 r2 => q2 F2 H2 g2.f (A1.grow g2 Γ.mono) w r2⟩
theorem oneV_run {r : List V → Hp → VK → Prop} {g : D → Option D} {i : Nat} {σ : L2.St} {H : Hp} {Q : VK} (hop : OpV1 X.K (fun x H Q => r [x] H Q) g) (h : rdE X.K Γ (opV1 g i) σ H Q) :
    tCB r (tCons (tVar i) tNil) σ H Q := by
  obtain ⟨B, F, ρ, A, q⟩ := h
  obtain ⟨z, ez, q2⟩ := After.of q
  obtain ⟨d, ed, ez⟩ := Option.bind_eq_some_iff.mp ez
  obtain ⟨v, ev, sn⟩ := seen_at A ed
  exact ⟨v, ev, hop d z ez F H v Q A.sub sn fun F2 H2 w g2 r2 => q2 F2 H2 g2.f (A.grow g2 Γ.mono) w r2⟩
theorem qe_call1 {id : String} {r : List V → Hp → VK → Prop} {g : D → Option D} (hc : CallR X (.builtin id) r) (hop : Op1 X.K (fun x H Q => r [x] H Q) g) (hg : Gl X x) (hm : X.mg x = none) (hv : bootBuiltins x = some (.builtin id)) (ha : QE X Γ e f)
    (hs : starEach [e] X.env = (false, eval e X.env) :: starEach [] X.env := by rfl)
    (hn : x ≠ "__name__" := by decide) (hdb : (x == ("__debug__" : Str)) = false := by decide) : QE X Γ (.Call (.Name x p) [e] [] pos) (op1 g f) :=
  pe_weak (pe_callB hc hg hm hv (pa_cons ha pa_nil hs) hn hdb hs (by rfl)) fun σ H Q h => one_run hop h
theorem qe_callV1 {id : String} {r : List V → Hp → VK → Prop} {g : D → Option D} {i : Nat} (hc : CallR X (.builtin id) r) (hop : OpV1 X.K (fun x H Q => r [x] H Q) g) (hg : Gl X x) (hm : X.mg x = none) (hv : bootBuiltins x = some (.builtin id)) (ha : PE X e (tVar i))
    (hs : starEach [e] X.env = (false, eval e X.env) :: starEach [] X.env := by rfl)
    (hn : x ≠ "__name__" := by decide) (hdb : (x == ("__debug__" : Str)) = false := by decide) : QE X Γ (.Call (.Name x p) [e] [] pos) (opV1 g i) :=
  pe_weak (pe_callB hc hg hm hv (pa_cons ha pa_nil hs) hn hdb hs (by rfl)) fun σ H Q h => oneV_run hop h
theorem qe_ty1 {T : String} {r : List V → Hp → VK → Prop} {g : D → Option D} (hc : CallR X (.type T) r) (hop : Op1 X.K (fun x H Q => r [x] H Q) g) (hg : Gl X x) (hm : X.mg x = none) (hv : bootBuiltins x = some (.type T)) (ha : QE X Γ e f)
    (hs : starEach [e] X.env = (false, eval e X.env) :: starEach [] X.env := by rfl)
    (hn : x ≠ "__name__" := by decide) (hdb : (x == ("__debug__" : Str)) = false := by decide) : QE X Γ (.Call (.Name x p) [e] [] pos) (op1 g f) :=
  pe_weak (pe_callTy hc hg hm hv (pa_cons ha pa_nil hs) hn hdb hs (by rfl)) fun σ H Q h => one_run hop h
theorem qe_tyV1 {T : String} {r : List V → Hp → VK → Prop} {g : D → Option D} {i : Nat} (hc : CallR X (.type T) r) (hop : OpV1 X.K (fun x H Q => r [x] H Q) g) (hg : Gl X x) (hm : X.mg x = none) (hv : bootBuiltins x = some (.type T)) (ha : PE X e (tVar i))
    (hs : starEach [e] X.env = (false, eval e X.env) :: starEach [] X.env := by rfl)
    (hn : x ≠ "__name__" := by decide) (hdb : (x == ("__debug__" : Str)) = false := by decide) : QE X Γ (.Call (.Name x p) [e] [] pos) (opV1 g i) :=
  pe_weak (pe_callTy hc hg hm hv (pa_cons ha pa_nil hs) hn hdb hs (by rfl)) fun σ H Q h => oneV_run hop h
/-- a call that makes a new list of one's own -/
def OpV1L (K : PySem.W.Frag) (r : V → Hp → VK → Prop) (g : D → Option (List D)) : Prop := ∀ (d : D) (z : List D), g d = some z → ∀ (F H : Hp) (x : V) (Q : VK), Same F H → Seen K F H d x → (∀ p vs, H p = none → Reps K F z vs → Q (.ref p) (upd H p (.lst vs))) → r x H Q
def newV1 (g : D → Option (List D)) (i : Nat) : EO := fun ρ => Out.of (((peek i ρ).bind g).map fun ds => Sl.own (.lst ds)) ρ
def new1 (g : D → Option (List D)) (f : EV) : EO := fun ρ => (f ρ).bind fun d ρ1 => Out.of ((g d).map fun ds => Sl.own (.lst ds)) ρ1
theorem newV_run {r : List V → Hp → VK → Prop} {g : D → Option (List D)} {i : Nat} {σ : L2.St} {H : Hp} {Q : VK} (hop : OpV1L X.K (fun x H Q => r [x] H Q) g) (h : rdO X.K Γ (newV1 g i) σ H Q) :
    tCB r (tCons (tVar i) tNil) σ H Q := by
  obtain ⟨B, F, ρ, A, q⟩ := h
  obtain ⟨z, ez, q2⟩ := After.of q
  obtain ⟨zs, e1, ez⟩ := Option.map_eq_some_iff.mp ez
  obtain ⟨d, ed, e1⟩ := Option.bind_eq_some_iff.mp e1
  obtain ⟨v, ev, sn⟩ := seen_at A ed
  subst ez
  refine ⟨v, ev, hop d zs e1 F H v Q A.sub sn fun p vs hp rs => ?_⟩
  obtain ⟨A2, r2⟩ := new_own A Γ.mono hp rs
  exact q2 _ _ (Same.refl F) A2 _ r2
theorem new_run {r : List V → Hp → VK → Prop} {g : D → Option (List D)} {σ : L2.St} {H : Hp} {Q : VK} (hop : OpV1L X.K (fun x H Q => r [x] H Q) g) (h : rdO X.K Γ (new1 g f) σ H Q) :
    tCB r (tCons (rdE X.K Γ f) tNil) σ H Q := by
  obtain ⟨B, F, ρ, A, q⟩ := h
  exact ⟨B, F, ρ, A, (After.bind (o := f ρ) q).mono fun d ρ1 F1 H1 s1 A1 q1 v r1 => by
    obtain ⟨z, ez, q2⟩ := After.of q1
    obtain ⟨zs, e1, ez⟩ := Option.map_eq_some_iff.mp ez
    subst ez
    refine hop d zs e1 F1 H1 v Q A1.sub (Or.inl r1) fun p vs hp rs => ?_
    obtain ⟨A2, r2⟩ := new_own A1 Γ.mono hp rs
    exact q2 _ _ (Same.refl F1) A2 _ r2⟩
theorem qo_callV1 {id : String} {r : List V → Hp → VK → Prop} {g : D → Option (List D)} {i : Nat} (hc : CallR X (.builtin id) r) (hop : OpV1L X.K (fun x H Q => r [x] H Q) g) (hg : Gl X x) (hm : X.mg x = none) (hv : bootBuiltins x = some (.builtin id)) (ha : PE X e (tVar i))
    (hs : starEach [e] X.env = (false, eval e X.env) :: starEach [] X.env := by rfl)
    (hn : x ≠ "__name__" := by decide) (hdb : (x == ("__debug__" : Str)) = false := by decide) : QO X Γ (.Call (.Name x p) [e] [] pos) (newV1 g i) :=
  pe_weak (pe_callB hc hg hm hv (pa_cons ha pa_nil hs) hn hdb hs (by rfl)) fun σ H Q h => newV_run hop h
theorem qo_call1 {id : String} {r : List V → Hp → VK → Prop} {g : D → Option (List D)} (hc : CallR X (.builtin id) r) (hop : OpV1L X.K (fun x H Q => r [x] H Q) g) (hg : Gl X x) (hm : X.mg x = none) (hv : bootBuiltins x = some (.builtin id)) (ha : QE X Γ e f)
    (hs : starEach [e] X.env = (false, eval e X.env) :: starEach [] X.env := by rfl)
    (hn : x ≠ "__name__" := by decide) (hdb : (x == ("__debug__" : Str)) = false := by decide) : QO X Γ (.Call (.Name x p) [e] [] pos) (new1 g f) :=
  pe_weak (pe_callB hc hg hm hv (pa_cons ha pa_nil hs) hn hdb hs (by rfl)) fun σ H Q h => new_run hop h
theorem qo_tyV1 {T : String} {r : List V → Hp → VK → Prop} {g : D → Option (List D)} {i : Nat} (hc : CallR X (.type T) r) (hop : OpV1L X.K (fun x H Q => r [x] H Q) g) (hg : Gl X x) (hm : X.mg x = none) (hv : bootBuiltins x = some (.type T)) (ha : PE X e (tVar i))
    (hs : starEach [e] X.env = (false, eval e X.env) :: starEach [] X.env := by rfl)
    (hn : x ≠ "__name__" := by decide) (hdb : (x == ("__debug__" : Str)) = false := by decide) : QO X Γ (.Call (.Name x p) [e] [] pos) (newV1 g i) :=
  pe_weak (pe_callTy hc hg hm hv (pa_cons ha pa_nil hs) hn hdb hs (by rfl)) fun σ H Q h => newV_run hop h
theorem qo_ty1 {T : String} {r : List V → Hp → VK → Prop} {g : D → Option (List D)} (hc : CallR X (.type T) r) (hop : OpV1L X.K (fun x H Q => r [x] H Q) g) (hg : Gl X x) (hm : X.mg x = none) (hv : bootBuiltins x = some (.type T)) (ha : QE X Γ e f)
    (hs : starEach [e] X.env = (false, eval e X.env) :: starEach [] X.env := by rfl)
    (hn : x ≠ "__name__" := by decide) (hdb : (x == ("__debug__" : Str)) = false := by decide) : QO X Γ (.Call (.Name x p) [e] [] pos) (new1 g f) :=
  pe_weak (pe_callTy hc hg hm hv (pa_cons ha pa_nil hs) hn hdb hs (by rfl)) fun σ H Q h => new_run hop h

/-! ### one-place operators, comparisons with a name in front -/
theorem qe_un {op : UnaryOp} {r : V → Hp → VK → Prop} {g : D → Option D} (ho : UnR X (unaryOp op) r) (hg : Op1 X.K r g) (ha : QE X Γ e f) : QE X Γ (.UnaryOp op e pos) (op1 g f) :=
  pe_weak (pe_un ho ha) fun σ H Q ⟨B, F, ρ, A, q⟩ => ⟨B, F, ρ, A, (After.bind (o := f ρ) q).mono fun d ρ1 F1 H1 s1 A1 q1 v r1 => by
    obtain ⟨z, ez, q2⟩ := After.of q1
    exact hg d z ez F1 H1 v Q A1.sub r1 fun F2 H2 w g2 r2 => q2 F2 H2 g2.f (A1.grow g2 Γ.mono) w r2⟩
theorem qe_not (ha : QE X Γ e f) : QE X Γ (.UnaryOp .Not e pos) (op1 notD f) :=
  pe_weak (pe_not ha) fun σ H Q ⟨B, F, ρ, A, q⟩ => ⟨B, F, ρ, A, (After.bind (o := f ρ) q).mono fun d ρ1 F1 H1 s1 A1 q1 v r1 => by
    obtain ⟨z, ez, q2⟩ := After.of q1
    unfold notD at ez
    split at ez
    · cases ez
      exact ⟨_, r1, q2 F1 H1 (Same.refl F1) A1 _ rep_b⟩
    · cases ez⟩
theorem qe_isN {j : Nat} {pos' : Pos} (ha : QE X Γ e f) : QE X Γ (.Compare e [.Is] [.Constant .none j pos'] pos) (op1 isNoneD f) :=
  pe_weak (pe_cmp (pc_isN ha) rfl) fun σ H Q ⟨B, F, ρ, A, q⟩ => ⟨B, F, ρ, A, (After.bind (o := f ρ) q).mono fun d ρ1 F1 H1 s1 A1 q1 v r1 => by
    obtain ⟨z, ez, q2⟩ := After.of q1
    cases ez
    rw [rep_non r1]
    exact q2 F1 H1 (Same.refl F1) A1 _ rep_b⟩
theorem qe_notN {j : Nat} {pos' : Pos} (ha : QE X Γ e f) : QE X Γ (.Compare e [.IsNot] [.Constant .none j pos'] pos) (op1 isNotNoneD f) :=
  pe_weak (pe_cmp (pc_notN ha) rfl) fun σ H Q ⟨B, F, ρ, A, q⟩ => ⟨B, F, ρ, A, (After.bind (o := f ρ) q).mono fun d ρ1 F1 H1 s1 A1 q1 v r1 => by
    obtain ⟨z, ez, q2⟩ := After.of q1
    cases ez
    rw [rep_non r1]
    exact q2 F1 H1 (Same.refl F1) A1 _ rep_b⟩
def isBD (neg : Bool) : D → D → Option D
  | .bl a, .bl b => some (.bl (if neg then !decide (a = b) else decide (a = b)))
  | _, _ => none
theorem o_isB {K : PySem.W.Frag} : Op2 K (fun x y H Q => ∃ a b, x = .bl a ∧ y = .bl b ∧ Q (.bl (decide (a = b))) H) (isBD false) := fun d e z ez F H x y Q s r1 r2 q => by
  unfold isBD at ez
  split at ez
  · cases ez
    exact ⟨_, _, r1, r2, pureQ s rep_b q⟩
  · cases ez
theorem o_isnB {K : PySem.W.Frag} : Op2 K (fun x y H Q => ∃ a b, x = .bl a ∧ y = .bl b ∧ Q (.bl (!decide (a = b))) H) (isBD true) := fun d e z ez F H x y Q s r1 r2 q => by
  unfold isBD at ez
  split at ez
  · cases ez
    exact ⟨_, _, r1, r2, pureQ s rep_b q⟩
  · cases ez

/-! ### and, or, if as values; tests -/
def andV (f g : EV) : EV := fun ρ => (f ρ).bind fun d ρ1 => match d with
  | .bl true => g ρ1
  | .bl false => .ok (.bl false) ρ1
  | _ => .stuck
def orV (f g : EV) : EV := fun ρ => (f ρ).bind fun d ρ1 => match d with
  | .bl true => .ok (.bl true) ρ1
  | .bl false => g ρ1
  | _ => .stuck
variable {b : Expr} {rest : List Expr}
theorem qe_one {op : BoolOp} (ha : QE X Γ e f) : QE X Γ (.BoolOp op [e] pos) f := pe_one ha
theorem qe_and (ha : QE X Γ e f) (hb : QE X Γ (.BoolOp .And (b :: rest) pos) f') : QE X Γ (.BoolOp .And (e :: b :: rest) pos) (andV f f') :=
  pe_weak (pe_and ha hb) fun σ H Q ⟨B, F, ρ, A, q⟩ => ⟨B, F, ρ, A, (After.bind (o := f ρ) q).mono fun d ρ1 F1 H1 s1 A1 q1 v r1 => by
    cases d with
    | bl k =>
      refine ⟨k, r1, ?_⟩
      cases k with
      | true => exact iteT ⟨B, F1, ρ1, A1, q1⟩
      | false => exact iteF (q1 F1 H1 (Same.refl F1) A1 _ rep_b)
    | _ => exact q1.elim⟩
theorem qe_or (ha : QE X Γ e f) (hb : QE X Γ (.BoolOp .Or (b :: rest) pos) f') : QE X Γ (.BoolOp .Or (e :: b :: rest) pos) (orV f f') :=
  pe_weak (pe_or ha hb) fun σ H Q ⟨B, F, ρ, A, q⟩ => ⟨B, F, ρ, A, (After.bind (o := f ρ) q).mono fun d ρ1 F1 H1 s1 A1 q1 v r1 => by
    cases d with
    | bl k =>
      refine ⟨k, r1, ?_⟩
      cases k with
      | true => exact iteT (q1 F1 H1 (Same.refl F1) A1 _ rep_b)
      | false => exact iteF ⟨B, F1, ρ1, A1, q1⟩
    | _ => exact q1.elim⟩
theorem qt_val (ha : QE X Γ e f) (he : ∀ whole, isTrue e X.env whole = (do let v ← whole; standAt e.pos; holding [v] (truthy v)) := by intro _; rfl) : QT X Γ e (asB f) :=
  pt_weak (pt_val ha he) fun σ H Q ⟨B, F, ρ, A, q⟩ => ⟨B, F, ρ, A, (After.bind (o := f ρ) q).mono fun d ρ1 F1 H1 s1 A1 q1 v r1 => by
    cases d with
    | bl k => exact ⟨k, r1, q1 F1 H1 (Same.refl F1) A1⟩
    | _ => exact q1.elim⟩
variable {g g' : EB}
theorem qt_cmp {op : CmpOp} {r : R2} {gg : D → D → Option D} (ho : OpR X (compareOp op) r) (hg : Op2 X.K r gg) (ha : QE X Γ e f) (hb : QE X Γ e' f') (hm : behindInMarks op e' = false) : QT X Γ (.Compare e [op] [e'] pos) (asB (op2 gg f f')) :=
  pt_weak (pt_cmpR ho ha hb hm) fun σ H Q ⟨B, F, ρ, A, q⟩ => by
    have q0 := After.bind (o := op2 gg f f' ρ) q
    exact ⟨B, F, ρ, A, (After.bind (o := f ρ) q0).mono fun d ρ1 F1 H1 s1 A1 q1 v r1 => ⟨B, F1, ρ1, A1, (After.bind (o := f' ρ1) q1).mono fun d' ρ2 F2 H2 s2 A2 q2 v' r2 => by
      obtain ⟨z, ez, q3⟩ := After.of q2
      refine hg d d' z ez F2 H2 v v' _ A2.sub (Rep.mono s2 _ _ r1) r2 fun F3 H3 w g3 r3 => ?_
      have q4 := q3 F3 H3 g3.f (A2.grow g3 Γ.mono)
      cases z with
      | bl k => exact ⟨k, r3, q4 F3 H3 (Same.refl F3) (A2.grow g3 Γ.mono)⟩
      | _ => exact q4.elim⟩⟩
theorem qt_not (ha : QT X Γ e g) : QT X Γ (.UnaryOp .Not e pos) (notB g) :=
  pt_weak (pt_not ha) fun σ H Q ⟨B, F, ρ, A, q⟩ => ⟨B, F, ρ, A, (After.bind (o := g ρ) q).mono fun d ρ1 F1 H1 s1 A1 q1 => q1 F1 H1 (Same.refl F1) A1⟩
theorem qw_and1 (ha : QT X Γ e g) : QW X Γ (.BoolOp .And [e] pos) g := pw_and1 ha
theorem qw_or1 (ha : QT X Γ e g) : QW X Γ (.BoolOp .Or [e] pos) g := pw_or1 ha
theorem qw_and (ha : QT X Γ e g) (hb : QW X Γ (.BoolOp .And (b :: rest) pos) g') : QW X Γ (.BoolOp .And (e :: b :: rest) pos) (andB g g') :=
  pw_weak (pw_and ha hb) fun σ H Q ⟨B, F, ρ, A, q⟩ => ⟨B, F, ρ, A, (After.bind (o := g ρ) q).mono fun k ρ1 F1 H1 s1 A1 q1 => by
    cases k with
    | true => exact iteT ⟨B, F1, ρ1, A1, q1⟩
    | false => exact iteF (q1 F1 H1 (Same.refl F1) A1)⟩
theorem qw_or (ha : QT X Γ e g) (hb : QW X Γ (.BoolOp .Or (b :: rest) pos) g') : QW X Γ (.BoolOp .Or (e :: b :: rest) pos) (orB g g') :=
  pw_weak (pw_or ha hb) fun σ H Q ⟨B, F, ρ, A, q⟩ => ⟨B, F, ρ, A, (After.bind (o := g ρ) q).mono fun k ρ1 F1 H1 s1 A1 q1 => by
    cases k with
    | true => exact iteT (q1 F1 H1 (Same.refl F1) A1)
    | false => exact iteF ⟨B, F1, ρ1, A1, q1⟩⟩
theorem qw_t (h : QW X Γ e g) : QT X Γ e g := PW.pt h
theorem qe_if {c : Expr} (hc : QT X Γ c g) (ha : QE X Γ e f) (hb : QE X Γ e' f') : QE X Γ (.IfExp c e e' pos) (ifE g f f') :=
  pe_weak (pe_ifExp hc ha hb) fun σ H Q ⟨B, F, ρ, A, q⟩ => ⟨B, F, ρ, A, (After.bind (o := g ρ) q).mono fun k ρ1 F1 H1 s1 A1 q1 => by
    cases k with
    | true => exact iteT ⟨B, F1, ρ1, A1, q1⟩
    | false => exact iteF ⟨B, F1, ρ1, A1, q1⟩⟩
/-- the truth of any of these values -/
def truD : D → Option Bool
  | .non => some false
  | .bl b => some b
  | .int i => some (i != 0)
  | .tup ds => some (!ds.isEmpty)
  | .lst ds => some (!ds.isEmpty)
  | _ => none
def truB (f : EV) : EB := fun ρ => (f ρ).bind fun d ρ1 => Out.of (truD d) ρ1
def truV (i : Nat) : EB := fun ρ => Out.of ((peek i ρ).bind truD) ρ
theorem reps_empty {K : PySem.W.Frag} {F : Hp} {ds : List D} {vs : List V} (r : Reps K F ds vs) : ds.isEmpty = vs.isEmpty := by
  cases ds with
  | nil =>
    have e : vs = [] := r
    rw [e]
    rfl
  | cons d ds =>
    obtain ⟨v, ws, ev, _⟩ := r
    rw [ev]
    rfl
theorem tru_seen {K : PySem.W.Frag} {F H : Hp} {d : D} {v : V} {k : Bool} (s : Same F H) (sn : Seen K F H d v) (h : truD d = some k) : TruV K v H k := by
  unfold truD at h
  split at h
  · cases h
    rcases sn with r | ⟨a, _, w⟩
    · rw [show v = V.non from r]
      exact rfl
    · exact w.elim
  · cases h
    rcases sn with r | ⟨a, _, w⟩
    · rw [show v = V.bl _ from r]
      exact rfl
    · exact w.elim
  · cases h
    rcases sn with r | ⟨a, _, w⟩
    · rw [show v = V.int _ from r]
      exact rfl
    · exact w.elim
  · cases h
    rcases sn with ⟨a, vs, ea, ha, ra⟩ | ⟨a, _, w⟩
    · rw [ea, reps_empty ra]
      exact Or.inr (Or.inl ⟨vs, tupS s ha, rfl⟩)
    · exact w.elim
  · cases h
    rcases sn with ⟨a, vs, ea, ha, ra⟩ | ⟨a, ea, vs, ha, ra⟩
    · rw [ea, reps_empty ra]
      exact Or.inl ⟨vs, SqL.of (s _ _ ha), rfl⟩
    · rw [ea, reps_empty ra]
      exact Or.inl ⟨vs, SqL.of ha, rfl⟩
  · cases h
theorem qt_truth (ha : QE X Γ e f) (he : ∀ whole, isTrue e X.env whole = (do let v ← whole; standAt e.pos; holding [v] (truthy v)) := by intro _; rfl) : QT X Γ e (truB f) :=
  pt_weak (pt_truth ha he) fun σ H Q ⟨B, F, ρ, A, q⟩ => ⟨B, F, ρ, A, (After.bind (o := f ρ) q).mono fun d ρ1 F1 H1 s1 A1 q1 v r1 => by
    obtain ⟨k, ek, q2⟩ := After.of q1
    exact ⟨k, tru_seen A1.sub (Or.inl r1) ek, q2 F1 H1 (Same.refl F1) A1⟩⟩
theorem qt_truthV {i : Nat} (ha : PE X e (tVar i)) (he : ∀ whole, isTrue e X.env whole = (do let v ← whole; standAt e.pos; holding [v] (truthy v)) := by intro _; rfl) : QT X Γ e (truV i) :=
  pt_weak (pt_truth ha he) fun σ H Q ⟨B, F, ρ, A, q⟩ => by
    obtain ⟨k, ek, q2⟩ := After.of q
    obtain ⟨d, ed, ek⟩ := Option.bind_eq_some_iff.mp ek
    obtain ⟨v, ev, sn⟩ := seen_at A ed
    exact ⟨v, ev, k, tru_seen A.sub sn ek, q2 F H (Same.refl F) A⟩
/-- a < b <= c -/
def chain (g1 g2 : D → D → Option D) (f f' f'' : EV) : EV := fun ρ => (f ρ).bind fun d ρ1 => (f' ρ1).bind fun d' ρ2 => (Out.of (g1 d d') ρ2).bind fun z ρ3 => match z with
  | .bl true => (f'' ρ3).bind fun d'' ρ4 => Out.of (g2 d' d'') ρ4
  | .bl false => .ok (.bl false) ρ3
  | _ => .stuck
theorem chain_run {f'' : EV} {r r' : R2} {g1 g2 : D → D → Option D} {σ : L2.St} {H : Hp} {Q : VK} (h1 : Op2 X.K r g1) (h2 : Op2 X.K r' g2) (h : rdE X.K Γ (chain g1 g2 f f' f'') σ H Q) :
    tChain r r' (rdE X.K Γ f) (rdE X.K Γ f') (rdE X.K Γ f'') σ H Q := by
  obtain ⟨B, F, ρ, A, q⟩ := h
  exact ⟨B, F, ρ, A, (After.bind (o := f ρ) q).mono fun d ρ1 F1 H1 s1 A1 q1 v r1 => ⟨B, F1, ρ1, A1, (After.bind (o := f' ρ1) q1).mono fun d' ρ2 F2 H2 s2 A2 q2 v' r2 => by
    obtain ⟨z, ez, q3⟩ := After.of (After.bind (o := Out.of (g1 d d') ρ2) q2)
    refine h1 d d' z ez F2 H2 v v' _ A2.sub (Rep.mono s2 _ _ r1) r2 fun F3 H3 w g3 r3 => ?_
    have A3 := A2.grow g3 Γ.mono
    have q4 := q3 F3 H3 g3.f A3
    cases z with
    | bl k =>
      refine ⟨k, r3, ?_⟩
      cases k with
      | true =>
        exact iteT ⟨B, F3, ρ2, A3, (After.bind (o := f'' ρ2) q4).mono fun d'' ρ4 F4 H4 s4 A4 q5 v'' r4 => by
          obtain ⟨y, ey, q6⟩ := After.of q5
          exact h2 d' d'' y ey F4 H4 v' v'' Q A4.sub (Rep.mono (g3.f.trans s4) _ _ r2) r4 fun F5 H5 w5 g5 r5 => q6 F5 H5 g5.f (A4.grow g5 Γ.mono) w5 r5⟩
      | false => exact iteF (q4 F3 H3 (Same.refl F3) A3 _ rep_b)
    | _ => exact q4.elim⟩⟩
theorem qe_chain {op op' : CmpOp} {c : Expr} {f'' : EV} {r r' : R2} {g1 g2 : D → D → Option D} (ho : OpR X (compareOp op) r) (ho' : OpR X (compareOp op') r') (h1 : Op2 X.K r g1) (h2 : Op2 X.K r' g2) (ha : QE X Γ e f) (hb : QE X Γ e' f') (hc : QE X Γ c f'')
    (hm : lastMarks [op, op'] [e', c] = false := by with_unfolding_all rfl) : QE X Γ (.Compare e [op, op'] [e', c] pos) (chain g1 g2 f f' f'') :=
  pe_weak (pe_chain ho ho' ha hb hc hm) fun σ H Q h => chain_run h1 h2 h
theorem qt_chain {op op' : CmpOp} {c : Expr} {f'' : EV} {r r' : R2} {g1 g2 : D → D → Option D} (ho : OpR X (compareOp op) r) (ho' : OpR X (compareOp op') r') (h1 : Op2 X.K r g1) (h2 : Op2 X.K r' g2) (ha : QE X Γ e f) (hb : QE X Γ e' f') (hc : QE X Γ c f'')
    (hm : lastMarks [op, op'] [e', c] = false := by with_unfolding_all rfl) : QT X Γ (.Compare e [op, op'] [e', c] pos) (asB (chain g1 g2 f f' f'')) :=
  pt_weak (pt_chain ho ho' ha hb hc hm) fun σ H Q ⟨B, F, ρ, A, q⟩ => chain_run h1 h2 ⟨B, F, ρ, A, (After.bind (o := chain g1 g2 f f' f'' ρ) q).mono fun d ρ1 F1 H1 s1 A1 q1 v r1 => by
    cases d with
    | bl k => exact ⟨k, r1, q1 F1 H1 (Same.refl F1) A1⟩
    | _ => exact q1.elim⟩
end
end HM

set_option Elab.async false
set_option linter.all false
set_option maxRecDepth 100000
set_option maxHeartbeats 4000000
/-! HMStmt: statements, targets, loops. -/
namespace HM
open PySem PySem.Spec PyProof.Rows L2

/-- how a statement ends -/
inductive SOut where
  | nx (ρ : Rho) | rt (s : Sl) (ρ : Rho) | bk (ρ : Rho) | ct (ρ : Rho) | exc (c : XC) (ns : List Str) (ds : List D) (ρ : Rho) | stuck
abbrev SV := Rho → SOut
def Out.stm {α : Type} : Out α → (α → Rho → SOut) → SOut
  | .ok a ρ, k => k a ρ
  | .exc c ns ds ρ, _ => .exc c ns ds ρ
  | .stuck, _ => .stuck
def SOut.seq : SOut → SV → SOut
  | .nx ρ, k => k ρ
  | o, _ => o
section
variable (K : PySem.W.Frag) (Γ : Gam)
def AfterS (B : Bs) (F : Hp) (E : Ends) (o : SOut) : Prop := match o with
  | .nx ρ => ∀ F' σ' H', Same F F' → Agr K Γ.ex B F' ρ σ' H' → E.nx σ' H'
  | .rt s ρ => ∀ F' σ' H' v, Same F F' → Agr K Γ.ex B F' ρ σ' H' → ResOk K B F' ρ σ' H' s v → E.rt v H'
  | .bk ρ => ∀ F' σ' H', Same F F' → Agr K Γ.ex B F' ρ σ' H' → E.bk σ' H'
  | .ct ρ => ∀ F' σ' H', Same F F' → Agr K Γ.ex B F' ρ σ' H' → E.ct σ' H'
  | .exc c ns ds ρ => ∀ d F' σ' H', Same F F' → Agr K Γ.ex B F' ρ σ' H' → ExOk K F' ns ds d → Γ.W (c.v K) d σ' H'
  | .stuck => False
def rdS (f : SV) : TS := fun E σ H => ∃ B F ρ, Agr K Γ.ex B F ρ σ H ∧ AfterS K Γ B F E (f ρ)
end
section
variable {K : PySem.W.Frag} {Γ : Gam} {B : Bs} {F F1 : Hp} {σ : L2.St} {E : Ends}
theorem AfterS.later {o : SOut} (h : AfterS K Γ B F E o) (s : Same F F1) : AfterS K Γ B F1 E o := by
  cases o with
  | nx ρ => exact fun F' σ' H' s' A => h F' σ' H' (s.trans s') A
  | rt z ρ => exact fun F' σ' H' v s' A => h F' σ' H' v (s.trans s') A
  | bk ρ => exact fun F' σ' H' s' A => h F' σ' H' (s.trans s') A
  | ct ρ => exact fun F' σ' H' s' A => h F' σ' H' (s.trans s') A
  | exc c ns ds ρ => exact fun d F' σ' H' s' A => h d F' σ' H' (s.trans s') A
  | stuck => exact h
theorem AfterS.of {α : Type} {o : Out α} {k : α → Rho → SOut} {H : Hp} {ρ : Rho} (A : Agr K Γ.ex B F ρ σ H) (h : AfterS K Γ B F E (o.stm k)) : After K Γ B F σ o fun a ρ' F' _ => AfterS K Γ B F' E (k a ρ') := by
  cases o with
  | ok a ρ => exact fun F' H' s A => AfterS.later (o := k a ρ) h s
  | exc c ns ds ρ => exact fun d F' H' s A x => h d F' σ H' s A x
  | stuck => exact h
end
theorem ps_weak {X : Cx} {e : Stmt} {t t' : TS} (h : PS X e t) (w : ∀ E σ H, t' E σ H → t E σ H) : PS X e t' := ⟨fun pins s σ H E I q => h.run pins s σ H E I (w E σ H q)⟩
theorem pss_weak {X : Cx} {e : List Stmt} {t t' : TS} (h : PSs X e t) (w : ∀ E σ H, t' E σ H → t E σ H) : PSs X e t' := ⟨fun pins s σ H E I q => h.run pins s σ H E I (w E σ H q)⟩
theorem pg_weak {X : Cx} {e : Expr} {t t' : TG} (h : PG X e t) (w : ∀ v σ H Q, t' v σ H Q → t v σ H Q) : PG X e t' := ⟨fun pins s σ H v u Q I r q => h.run pins s σ H v u Q I r (w v σ H Q q)⟩
theorem pgs_weak {X : Cx} {e : List Expr} {t t' : TGs} (h : PGs X e t) (w : ∀ v σ H Q, t' v σ H Q → t v σ H Q) : PGs X e t' := ⟨fun pins s σ H v u Q I r q => h.run pins s σ H v u Q I r (w v σ H Q q)⟩
theorem pi_weak {X : Cx} {tg e : Expr} {t t' : TI} (h : PI X tg e t) (w : ∀ σ H Q, t' σ H Q → t σ H Q) : PI X tg e t' := ⟨fun pins s σ H Q I q => h.run pins s σ H Q I (w σ H Q q)⟩
def QS (X : Cx) (Γ : Gam) (e : Stmt) (f : SV) : Prop := PS X e (rdS X.K Γ f)
def QSs (X : Cx) (Γ : Gam) (e : List Stmt) (f : SV) : Prop := PSs X e (rdS X.K Γ f)

/-! ### semantic pieces -/
def skp : SV := fun ρ => .nx ρ
def sq (f g : SV) : SV := fun ρ => (f ρ).seq g
def asg (i : Nat) (f : EO) : SV := fun ρ => (f ρ).stm fun s ρ1 => .nx (ρ1.set i s)
def dropS (f : EO) : SV := fun ρ => (f ρ).stm fun _ ρ1 => .nx ρ1
def retS (f : EO) : SV := fun ρ => (f ρ).stm fun s ρ1 => .rt s ρ1
def retN : SV := fun ρ => .rt (.val .non) ρ
def ifS (c : EB) (f g : SV) : SV := fun ρ => (c ρ).stm fun b ρ1 => match b with
  | true => f ρ1
  | false => g ρ1
/-- slots forgotten -/
def fgt (is : List Nat) : SV := fun ρ => .nx (is.foldl (fun r i => r.set i .non) ρ)
abbrev Tg := D → Rho → Option Rho
def tgN (i : Nat) : Tg := fun d ρ => some (ρ.set i (.val d))
def tgs : List Tg → List D → Rho → Option Rho
  | [], [], ρ => some ρ
  | t :: ts, d :: ds, ρ => (t d ρ).bind (tgs ts ds)
  | _, _, _ => none
def tgT (ts : List Tg) : Tg := fun d ρ => match d with
  | .tup ds => tgs ts ds ρ
  | _ => none
def asgT (t : Tg) (f : EV) : SV := fun ρ => (f ρ).stm fun d ρ1 => match t d ρ1 with
  | some ρ2 => .nx ρ2
  | none => .stuck
def asg2 (i j : Nat) (f : EA) : SV := fun ρ => (f ρ).stm fun ds ρ1 => match ds with
  | [d, e] => .nx ((ρ1.set i (.val d)).set j (.val e))
  | _ => .stuck
def valAt (i : Nat) (ρ : Rho) : Option D := match ρ[i]? with
  | some (.val d) => some d
  | _ => none
def augS (i : Nat) (g : D → D → Option D) (f : EV) : SV := fun ρ => (Out.of (valAt i ρ) ρ).stm fun a ρ0 => (f ρ0).stm fun d ρ1 => (Out.of (g a d) ρ1).stm fun z ρ2 => .nx (ρ2.set i (.val z))
def forS (t : Tg) (body : SV) : List D → Rho → SOut
  | [], ρ => .nx ρ
  | d :: ds, ρ => match t d ρ with
    | none => .stuck
    | some ρ1 => match body ρ1 with
      | .nx ρ2 => forS t body ds ρ2
      | .ct ρ2 => forS t body ds ρ2
      | .bk ρ2 => .nx ρ2
      | o => o
def forE (it : EA) (t : Tg) (body : SV) : SV := fun ρ => (it ρ).stm fun ds ρ1 => forS t body ds ρ1
def whileS (c : EB) (body : SV) : Nat → Rho → SOut
  | 0, _ => .stuck
  | n + 1, ρ => (c ρ).stm fun b ρ1 => match b with
    | false => .nx ρ1
    | true => match body ρ1 with
      | .nx ρ2 => whileS c body n ρ2
      | .ct ρ2 => whileS c body n ρ2
      | .bk ρ2 => .nx ρ2
      | o => o

section
variable {X : Cx} {Γ : Gam} {e e' : Expr} {st : Stmt} {ss : List Stmt} {f f' : EV} {fo : EO} {fa : EA} {g g' : EB} {s s' : SV} {pos p pos' : Pos} {x : Str} {i j : Nat}
theorem qs_skip (h : PS X st tNext) : QS X Γ st skp := ps_weak h fun E σ H ⟨B, F, ρ, A, q⟩ => q F σ H (Same.refl F) A
theorem qss_nil : QSs X Γ [] skp := pss_weak pss_nil fun E σ H ⟨B, F, ρ, A, q⟩ => q F σ H (Same.refl F) A
theorem qss_one (h : QS X Γ st s) : QSs X Γ [st] s := pss_one h
theorem sq_run {σ : L2.St} {H : Hp} {E : Ends} (h : rdS X.K Γ (sq s s') E σ H) : rdS X.K Γ s { E with nx := rdS X.K Γ s' E } σ H := by
  obtain ⟨B, F, ρ, A, q⟩ := h
  refine ⟨B, F, ρ, A, ?_⟩
  have q2 : AfterS X.K Γ B F E ((s ρ).seq s') := q
  cases ho : s ρ with
  | nx ρ1 =>
    rw [ho] at q2
    exact fun F' σ' H' sF A' => ⟨B, F', ρ1, A', AfterS.later (o := s' ρ1) q2 sF⟩
  | rt z ρ1 =>
    rw [ho] at q2
    exact q2
  | bk ρ1 =>
    rw [ho] at q2
    exact q2
  | ct ρ1 =>
    rw [ho] at q2
    exact q2
  | exc c ns ds ρ1 =>
    rw [ho] at q2
    exact q2
  | stuck =>
    rw [ho] at q2
    exact q2
theorem qss_cons (h : QS X Γ st s) (hs : QSs X Γ ss s') : QSs X Γ (st :: ss) (sq s s') := pss_weak (pss_cons h hs) fun E σ H q => sq_run q
theorem Agr.forgets {K : PySem.W.Frag} {ex : L2.St → Hp → Prop} {B : Bs} {F H : Hp} {σ : L2.St} : ∀ {ρ : Rho} (is : List Nat), Agr K ex B F ρ σ H → Agr K ex B F (is.foldl (fun r i => r.set i .non) ρ) σ H
  | _, [], A => A
  | _, _ :: is, A => Agr.forgets is A.forget0
/-- slots may be forgotten behind a statement -/
theorem qs_forget {is : List Nat} (h : QS X Γ st s) : QS X Γ st (sq s (fgt is)) := ps_weak h fun E σ H q => by
  obtain ⟨B, F, ρ, A, q⟩ := q
  refine ⟨B, F, ρ, A, ?_⟩
  have q2 : AfterS X.K Γ B F E ((s ρ).seq (fgt is)) := q
  cases ho : s ρ with
  | nx ρ1 =>
    rw [ho] at q2
    intro F' σ' H' sF A'
    refine q2 F' σ' H' sF ?_
    show Agr X.K Γ.ex B F' (is.foldl (fun r i => r.set i .non) ρ1) σ' H'
    exact A'.forgets is
  | rt z ρ1 =>
    rw [ho] at q2
    exact q2
  | bk ρ1 =>
    rw [ho] at q2
    exact q2
  | ct ρ1 =>
    rw [ho] at q2
    exact q2
  | exc c ns ds ρ1 =>
    rw [ho] at q2
    exact q2
  | stuck =>
    rw [ho] at q2
    exact q2
theorem qs_set (hN : X.N.Nodup) (hi : X.N[i]? = some x) (hx : Loc X.env.scope x) (he : QO X Γ e fo) (hs : swapsWith e (some (.Name x pos')) pos.line X.env = pure false := by rfl)
    (hf : X.fn x = true ∨ X.env.scope.names.lookup x = some .local := by first | exact .inl rfl | exact .inr rfl | assumption) : QS X Γ (.Assign [.Name x pos'] e pos) (asg i fo) :=
  ps_weak (ps_set hN hi hx he hs hf) fun E σ H ⟨B, F, ρ, A, q⟩ => ⟨B, F, ρ, A, (AfterS.of (o := fo ρ) A q).mono fun z ρ1 F1 H1 s1 A1 q1 v r => q1 F1 _ H1 (Same.refl F1) (A1.assign r)⟩
theorem qs_expr (he : QO X Γ e fo) (hs : swapsWith e none pos.line X.env = pure false := by rfl) : QS X Γ (.Expr e pos) (dropS fo) :=
  ps_weak (ps_expr he hs) fun E σ H ⟨B, F, ρ, A, q⟩ => ⟨B, F, ρ, A, (AfterS.of (o := fo ρ) A q).mono fun z ρ1 F1 H1 s1 A1 q1 v r => q1 F1 σ H1 (Same.refl F1) A1⟩
theorem qs_ret (he : QO X Γ e fo) : QS X Γ (.Return (some e) pos) (retS fo) :=
  ps_weak (ps_ret he) fun E σ H ⟨B, F, ρ, A, q⟩ => ⟨B, F, ρ, A, (AfterS.of (o := fo ρ) A q).mono fun z ρ1 F1 H1 s1 A1 q1 v r => q1 F1 σ H1 v (Same.refl F1) A1 r⟩
theorem qs_retN : QS X Γ (.Return none pos) retN := ps_weak ps_retN fun E σ H ⟨B, F, ρ, A, q⟩ => q F σ H .non (Same.refl F) A rfl
theorem qs_brk : QS X Γ (.Break pos) (fun ρ => .bk ρ) := ps_weak ps_break fun E σ H ⟨B, F, ρ, A, q⟩ => q F σ H (Same.refl F) A
theorem qs_cont : QS X Γ (.Continue pos) (fun ρ => .ct ρ) := ps_weak ps_continue fun E σ H ⟨B, F, ρ, A, q⟩ => q F σ H (Same.refl F) A
theorem qs_pass : QS X Γ (.Pass pos) skp := qs_skip ps_pass
theorem qs_if {c : Expr} {a b : List Stmt} (hc : QT X Γ c g) (ha : QSs X Γ a s) (hb : QSs X Γ b s') : QS X Γ (.If c a b pos) (ifS g s s') :=
  ps_weak (ps_if hc ha hb) fun E σ H ⟨B, F, ρ, A, q⟩ => ⟨B, F, ρ, A, (AfterS.of (o := g ρ) A q).mono fun k ρ1 F1 H1 s1 A1 q1 => by
    cases k with
    | true => exact iteT ⟨B, F1, ρ1, A1, q1⟩
    | false => exact iteF ⟨B, F1, ρ1, A1, q1⟩⟩

/-! ### targets -/
variable {t : Tg} {ts : List Tg}
def rdG (K : PySem.W.Frag) (Γ : Gam) (t : Tg) : TG := fun v σ H Q => ∃ B F ρ d ρ', Agr K Γ.ex B F ρ σ H ∧ Rep K F d v ∧ t d ρ = some ρ' ∧ ∀ σ', Agr K Γ.ex B F ρ' σ' H → Q σ' H
def rdGs (K : PySem.W.Frag) (Γ : Gam) (ts : List Tg) : TGs := fun vs σ H Q => ∃ B F ρ ds ρ', Agr K Γ.ex B F ρ σ H ∧ Reps K F ds vs ∧ tgs ts ds ρ = some ρ' ∧ ∀ σ', Agr K Γ.ex B F ρ' σ' H → Q σ' H
def QG (X : Cx) (Γ : Gam) (e : Expr) (t : Tg) : Prop := PG X e (rdG X.K Γ t)
def QGs (X : Cx) (Γ : Gam) (es : List Expr) (ts : List Tg) : Prop := PGs X es (rdGs X.K Γ ts)
theorem qg_name (hN : X.N.Nodup) (hi : X.N[i]? = some x) (hx : Loc X.env.scope x) (hf : X.fn x = true ∨ X.env.scope.names.lookup x = some .local := by first | exact .inl rfl | exact .inr rfl | assumption) : QG X Γ (.Name x pos) (tgN i) :=
  pg_weak (pg_name hN hi hx hf) fun v σ H Q ⟨B, F, ρ, d, ρ', A, r, et, q⟩ => by
    cases et
    exact q _ (A.assign (s := .val d) r)
theorem qgs_nil : QGs X Γ [] [] := pgs_weak pgs_nil fun vs σ H Q ⟨B, F, ρ, ds, ρ', A, r, et, q⟩ => by
  cases ds with
  | nil =>
    cases et
    exact ⟨r, q σ A⟩
  | cons d ds => cases et
theorem qgs_cons {es : List Expr} (h1 : QG X Γ e t) (h2 : QGs X Γ es ts) (hs : (assignEach (e :: es) X.env).map (·.2) = assign e X.env :: (assignEach es X.env).map (·.2) := by rfl) : QGs X Γ (e :: es) (t :: ts) :=
  pgs_weak (pgs_cons h1 h2 hs) fun vs σ H Q ⟨B, F, ρ, ds, ρ', A, r, et, q⟩ => by
    cases ds with
    | nil => cases et
    | cons d ds =>
      obtain ⟨v, ws, ev, r1, r2⟩ := r
      obtain ⟨ρ1, e1, e2⟩ := Option.bind_eq_some_iff.mp (show (t d ρ).bind (tgs ts ds) = some ρ' from et)
      exact ⟨v, ws, ev, B, F, ρ, d, ρ1, A, r1, e1, fun σ1 A1 => ⟨B, F, ρ1, ds, ρ', A1, r2, e2, q⟩⟩
theorem tgs_len : ∀ {ts : List Tg} {ds : List D} {ρ ρ' : Rho}, tgs ts ds ρ = some ρ' → ds.length = ts.length
  | [], [], _, _, _ => rfl
  | [], _ :: _, _, _, h => by cases h
  | _ :: _, [], _, _, h => by cases h
  | t :: ts, d :: ds, ρ, ρ', h => by
    obtain ⟨ρ1, e1, e2⟩ := Option.bind_eq_some_iff.mp (show (t d ρ).bind (tgs ts ds) = some ρ' from h)
    rw [List.length_cons, List.length_cons, tgs_len e2]
theorem qg_tup {es : List Expr} {k : Nat} (hc : X.calm = true) (h : QGs X Γ es ts) (hn : (assignEach es X.env).length = ts.length := by rfl) (hst : (assignEach es X.env).findIdx? (·.1) = none := by rfl) : QG X Γ (.Tuple es k pos) (tgT ts) :=
  pg_weak (pg_tup hc h hn hst) fun v σ H Q ⟨B, F, ρ, d, ρ', A, r, et, q⟩ => by
    cases d with
    | tup ds =>
      obtain ⟨a, vs, ea, ha, ra⟩ := r
      have l := tgs_len (show tgs ts ds ρ = some ρ' from et)
      exact ⟨a, vs, ea, tupS A.sub ha, by rw [← ra.length]; exact l, B, F, ρ, ds, ρ', A, ra, et, q⟩
    | _ => cases et
theorem qs_asgT (he : QE X Γ e f) (hg : QG X Γ e' t) (hs : swapsWithSole [e'] e pos.line X.env = pure false := by rfl) (hw : swappedStores [e'] e X.env = pure none := by rfl)
    (h1 : (assignEach [e'] X.env).map (·.2) = [assign e' X.env] := by rfl) : QS X Γ (.Assign [e'] e pos) (asgT t f) :=
  ps_weak (ps_asg he hg hs hw h1) fun E σ H ⟨B, F, ρ, A, q⟩ => ⟨B, F, ρ, A, (AfterS.of (o := f ρ) A q).mono fun d ρ1 F1 H1 s1 A1 q1 v r => by
    cases et : t d ρ1 with
    | none =>
      rw [et] at q1
      exact q1.elim
    | some ρ2 =>
      rw [et] at q1
      exact ⟨B, F1, ρ1, d, ρ2, A1, r, et, fun σ' A' => q1 F1 σ' H1 (Same.refl F1) A'⟩⟩
theorem qs_par {y : Str} {a b : Expr} {px py pt : Pos} {kt k2 : Nat} {pt2 : Pos} (hc : X.calm = true) (hN : X.N.Nodup) (hi : X.N[i]? = some x) (hj : X.N[j]? = some y) (hij : i ≠ j)
    (hx : X.env.scope.names.lookup x = some .local) (hy : X.env.scope.names.lookup y = some .local) (ha : QA X Γ [a, b] fa)
    (hw : swappedStores [.Tuple [.Name x px, .Name y py] kt pt] (.Tuple [a, b] k2 pt2) X.env = pure (some [x, y]))
    (hs : swapsWithSole [.Tuple [.Name x px, .Name y py] kt pt] (.Tuple [a, b] k2 pt2) pos.line X.env = pure false := by rfl) : QS X Γ (.Assign [.Tuple [.Name x px, .Name y py] kt pt] (.Tuple [a, b] k2 pt2) pos) (asg2 i j fa) :=
  ps_weak (ps_par hc hN hi hj hij hx hy ha hw hs) fun E σ H ⟨B, F, ρ, A, q⟩ => ⟨B, F, ρ, A, (AfterS.of (o := fa ρ) A q).mono fun ds ρ1 F1 H1 s1 A1 q1 vs r => by
    match ds, r, q1 with
    | [d, e], r, q1 =>
      obtain ⟨v, w, ev, r1, r2⟩ := r.two
      exact ⟨v, w, ev, q1 F1 _ H1 (Same.refl F1) ((A1.assign (s := .val d) r1).assign (s := .val e) r2)⟩
    | [], _, q1 => exact q1.elim
    | [_], _, q1 => exact q1.elim
    | _ :: _ :: _ :: _, _, q1 => exact q1.elim⟩
theorem qs_aug {op : Operator} {ti : TIp} {gg : D → D → Option D} (hN : X.N.Nodup) (hi : X.N[i]? = some x) (hx : Loc X.env.scope x) (he : QE X Γ e f) (ho : PIp X op ti) (hop : Op2 X.K ti gg)
    (hf : X.fn x = true ∨ X.env.scope.names.lookup x = some .local := by first | exact .inl rfl | exact .inr rfl | assumption) : QS X Γ (.AugAssign (.Name x pos') op e pos) (augS i gg f) :=
  ps_weak (ps_aug hN hi hx he ho hf) fun E σ H ⟨B, F, ρ, A, q⟩ => by
    have q0 := AfterS.of (o := Out.of (valAt i ρ) ρ) A q
    obtain ⟨a, ea, q1⟩ := After.of q0
    have er : ρ[i]? = some (.val a) := by
      unfold valAt at ea
      split at ea
      · rename_i d ed
        cases ea
        exact ed
      · cases ea
    obtain ⟨v, ev, ra⟩ := A.val_at er
    have q2 := q1 F H (Same.refl F) A
    exact ⟨v, ev, B, F, ρ, A, (AfterS.of (o := f ρ) A q2).mono fun d ρ1 F1 H1 s1 A1 q3 w r => by
      obtain ⟨z, ez, q4⟩ := After.of (AfterS.of (o := Out.of (gg a d) ρ1) A1 q3)
      exact hop a d z ez F1 H1 v w _ A1.sub (Rep.mono s1 _ _ ra) r fun F2 H2 u g2 r2 => q4 F2 H2 g2.f (A1.grow g2 Γ.mono) F2 _ H2 (Same.refl F2) ((A1.grow g2 Γ.mono).assign (s := .val z) r2)⟩

/-! ### loops -/
theorem qs_while {c : Expr} {body : List Stmt} {n : Nat} (hp : PassesOwn (model X.prog X.w) X.A X.env X.xe) (hc : QT X Γ c g) (hb : QSs X Γ body s) : QS X Γ (.While c body [] pos) (whileS g s n) :=
  ps_weak (ps_while hp hc hb) fun E σ H ⟨B, F, ρ, A, q⟩ => by
    refine ⟨fun m σ H => ∃ F ρ, Agr X.K Γ.ex B F ρ σ H ∧ AfterS X.K Γ B F E (whileS g s m ρ), ⟨n, F, ρ, A, q⟩, fun m σ H ⟨F, ρ, A, q⟩ => ?_⟩
    cases m with
    | zero => exact q.elim
    | succ m =>
      refine ⟨B, F, ρ, A, (AfterS.of (o := g ρ) A q).mono fun k ρ1 F1 H1 s1 A1 q1 => ?_⟩
      cases k with
      | false => exact iteF (q1 F1 σ H1 (Same.refl F1) A1)
      | true =>
        refine iteT ⟨fun σ' H' => ∃ F ρ, Agr X.K Γ.ex B F ρ σ' H' ∧ AfterS X.K Γ B F E (whileS g s m ρ), fun σ' H' z => ⟨m, Nat.lt_succ_self m, z⟩, B, F1, ρ1, A1, ?_⟩
        cases ho : s ρ1 with
        | nx ρ2 =>
          rw [ho] at q1
          exact fun F' σ' H' sF A' => ⟨F', ρ2, A', AfterS.later (o := whileS g s m ρ2) q1 sF⟩
        | ct ρ2 =>
          rw [ho] at q1
          exact fun F' σ' H' sF A' => ⟨F', ρ2, A', AfterS.later (o := whileS g s m ρ2) q1 sF⟩
        | bk ρ2 =>
          rw [ho] at q1
          exact q1
        | rt z ρ2 =>
          rw [ho] at q1
          exact q1
        | exc c ns ds ρ2 =>
          rw [ho] at q1
          exact q1
        | stuck =>
          rw [ho] at q1
          exact q1
/-- the iterator gives these, one after another -/
def IterOk (K : PySem.W.Frag) (F0 : Hp) (J : It) (ds : List D) : Prop := ∀ (i : Nat) (F H : Hp), Same F0 F → Same F H →
  (∀ d, ds[i]? = some d → J.go i H ∧ ∀ x H', J.yld i H x H' → ∃ F', Grow F H F' H' ∧ Rep K F' d x) ∧ (ds.length ≤ i → J.stop i H)
def rdI (K : PySem.W.Frag) (Γ : Gam) (f : EA) : TI := fun σ H R => ∃ B F ρ, Agr K Γ.ex B F ρ σ H ∧ After K Γ B F σ (f ρ) fun ds _ F' H' => ∀ J, IterOk K F' J ds → R J H'
def QI (X : Cx) (Γ : Gam) (tg e : Expr) (f : EA) : Prop := PI X tg e (rdI X.K Γ f)
theorem qs_for {iter tg : Expr} {body : List Stmt} (hp : PassesOwn (model X.prog X.w) X.A X.env X.xe) (hc : X.calm = true) (hi : QI X Γ tg iter fa) (hg : QG X Γ tg t) (hb : QSs X Γ body s)
    (hs : ∀ x, foldedSetIterable iter X.env x = pure x := by intro _; rfl) : QS X Γ (.For tg iter body [] pos) (forE fa t s) :=
  ps_weak (ps_for hp hc hi hg hb hs) fun E σ H ⟨B, F, ρ, A, q⟩ => ⟨B, F, ρ, A, (AfterS.of (o := fa ρ) A q).mono fun ds ρ1 F1 H1 s1 A1 q1 J hJ => by
    refine ⟨fun i m σ H => m = ds.length - i ∧ i ≤ ds.length ∧ ∃ F ρ, Same F1 F ∧ Agr X.K Γ.ex B F ρ σ H ∧ AfterS X.K Γ B F E (forS t s (ds.drop i) ρ), ⟨ds.length, by simp, Nat.zero_le _, F1, ρ1, Same.refl F1, A1, q1⟩, ?_⟩
    rintro i m σ H ⟨rfl, hi, F, ρ, sF, A, q⟩
    obtain ⟨h1, h2⟩ := hJ i F H sF A.sub
    by_cases hlt : i < ds.length
    · obtain ⟨go, yl⟩ := h1 ds[i] (List.getElem?_eq_getElem hlt)
      refine Or.inr ⟨go, fun σ' H' => i + 1 ≤ ds.length ∧ ∃ F ρ, Same F1 F ∧ Agr X.K Γ.ex B F ρ σ' H' ∧ AfterS X.K Γ B F E (forS t s (ds.drop (i + 1)) ρ), fun σ' H' z => ⟨ds.length - (i + 1), by omega, rfl, z⟩, fun x H' y => ?_⟩
      obtain ⟨F', gr, rx⟩ := yl x H' y
      rw [List.drop_eq_getElem_cons hlt] at q
      have A' := A.grow gr Γ.mono
      have q' : AfterS X.K Γ B F' E (forS t s (ds[i] :: ds.drop (i + 1)) ρ) := AfterS.later q gr.f
      unfold forS at q'
      cases et : t ds[i] ρ with
      | none =>
        rw [et] at q'
        exact q'.elim
      | some ρ2 =>
        rw [et] at q'
        refine ⟨B, F', ρ, ds[i], ρ2, A', rx, et, fun σ' A2 => ⟨B, F', ρ2, A2, ?_⟩⟩
        have q3 : AfterS X.K Γ B F' E (match s ρ2 with
          | .nx ρ2 => forS t s (ds.drop (i + 1)) ρ2
          | .ct ρ2 => forS t s (ds.drop (i + 1)) ρ2
          | .bk ρ2 => .nx ρ2
          | o => o) := q'
        cases ho : s ρ2 with
        | nx ρ3 =>
          rw [ho] at q3
          exact fun F2 σ2 H2 s2 A2 => ⟨by omega, F2, ρ3, (sF.trans gr.f).trans s2, A2, AfterS.later (o := forS t s (ds.drop (i + 1)) ρ3) q3 s2⟩
        | ct ρ3 =>
          rw [ho] at q3
          exact fun F2 σ2 H2 s2 A2 => ⟨by omega, F2, ρ3, (sF.trans gr.f).trans s2, A2, AfterS.later (o := forS t s (ds.drop (i + 1)) ρ3) q3 s2⟩
        | bk ρ3 =>
          rw [ho] at q3
          exact q3
        | rt z ρ3 =>
          rw [ho] at q3
          exact q3
        | exc c ns ds ρ3 =>
          rw [ho] at q3
          exact q3
        | stuck =>
          rw [ho] at q3
          exact q3
    · have e : i = ds.length := by omega
      subst e
      rw [List.drop_length] at q
      exact Or.inl ⟨h2 (Nat.le_refl _), q F σ H (Same.refl F) A⟩⟩

/-! ### what is walked -/
def items : D → Option (List D)
  | .lst ds => some ds
  | .tup ds => some ds
  | .ktp ds => some ds
  | .scr ns => some (ns.map .int)
  | _ => none
def itE (f : EV) : EA := fun ρ => (f ρ).bind fun d ρ1 => Out.of (items d) ρ1
def intsFrom (lo : Int) (n : Nat) : List D := (List.range n).map fun k => .int (lo + (k : Nat))
def inBnd (i : Int) : Bool := decide (-(2 ^ 62) ≤ i) && decide (i < 2 ^ 62)
def rng1D : D → Option (List D)
  | .int j => if inBnd j then some (intsFrom 0 j.toNat) else none
  | _ => none
def rng2D : D → D → Option (List D)
  | .int i, .int j => if inBnd i && inBnd j then some (intsFrom i (j - i).toNat) else none
  | _, _ => none
def rng1 (f : EV) : EA := fun ρ => (f ρ).bind fun d ρ1 => Out.of (rng1D d) ρ1
def rng2 (f f' : EV) : EA := fun ρ => (f ρ).bind fun d ρ1 => (f' ρ1).bind fun d' ρ2 => Out.of (rng2D d d') ρ2
theorem iter_rng {K : PySem.W.Frag} {F : Hp} {lo : Int} {n : Nat} : IterOk K F (Itr lo n) (intsFrom lo n) := fun i F1 H s1 s2 => by
  refine ⟨fun d hd => ?_, fun hl => ?_⟩
  · unfold intsFrom at hd
    rw [List.getElem?_map] at hd
    obtain ⟨k, hk, e⟩ := Option.map_eq_some_iff.mp hd
    obtain ⟨hlt, ek⟩ := List.getElem?_eq_some_iff.mp hk
    rw [List.length_range] at hlt
    rw [List.getElem_range] at ek
    refine ⟨hlt, fun x H' y => ⟨F1, ?_, ?_⟩⟩
    · rw [y.1]
      exact Grow.refl s2
    · rw [y.2, ← e, ← ek]
      exact rep_i
  · unfold intsFrom at hl
    rw [List.length_map, List.length_range] at hl
    exact hl
theorem inBnd_ok {i : Int} (h : inBnd i = true) : -(2 ^ 62) ≤ i ∧ i < 2 ^ 62 := by
  obtain ⟨h1, h2⟩ := Bool.and_eq_true_iff.mp h
  exact ⟨of_decide_eq_true h1, of_decide_eq_true h2⟩
theorem qi_range1 {tg : Expr} (hg : Gl X "range") (hm : X.mg "range" = none) (ha : QE X Γ e f) (hs : starEach [e] X.env = [(false, eval e X.env)] := by rfl) : QI X Γ tg (.Call (.Name "range" p) [e] [] pos) (rng1 f) :=
  pi_weak (pi_range1 hg hm (pa_cons ha pa_nil hs) hs) fun σ H R ⟨B, F, ρ, A, q⟩ => ⟨B, F, ρ, A, (After.bind (o := f ρ) q).mono fun d ρ1 F1 H1 s1 A1 q1 v r => by
    obtain ⟨zs, ez, q2⟩ := After.of q1
    unfold rng1D at ez
    split at ez
    · rename_i j
      split at ez
      · rename_i hj
        cases ez
        obtain ⟨h1, h2⟩ := inBnd_ok hj
        exact ⟨j, by rw [show v = _ from r], h1, h2, q2 F1 H1 (Same.refl F1) A1 _ iter_rng⟩
      · cases ez
    · cases ez⟩
theorem qi_range2 {tg : Expr} (hg : Gl X "range") (hm : X.mg "range" = none) (ha : QE X Γ e f) (hb : QE X Γ e' f') (hs : starEach [e, e'] X.env = [(false, eval e X.env), (false, eval e' X.env)] := by rfl) (hs2 : starEach [e'] X.env = [(false, eval e' X.env)] := by rfl) :
    QI X Γ tg (.Call (.Name "range" p) [e, e'] [] pos) (rng2 f f') :=
  pi_weak (pi_range2 hg hm (pa_cons ha (pa_cons hb pa_nil hs2) (by rw [hs, hs2])) hs hs2) fun σ H R ⟨B, F, ρ, A, q⟩ => ⟨B, F, ρ, A, (After.bind (o := f ρ) q).mono fun d ρ1 F1 H1 s1 A1 q1 v r => ⟨B, F1, ρ1, A1, (After.bind (o := f' ρ1) q1).mono fun d' ρ2 F2 H2 s2 A2 q2 v' r' => by
    obtain ⟨zs, ez, q3⟩ := After.of q2
    unfold rng2D at ez
    split at ez
    · rename_i i j
      split at ez
      · rename_i hj
        cases ez
        obtain ⟨hi, hj⟩ := Bool.and_eq_true_iff.mp hj
        obtain ⟨h1, h2⟩ := inBnd_ok hi
        obtain ⟨h3, h4⟩ := inBnd_ok hj
        exact ⟨i, j, by rw [show v = _ from r, show v' = _ from r'], ⟨h1, h2, h3, h4⟩, q3 F2 H2 (Same.refl F2) A2 _ iter_rng⟩
      · cases ez
    · cases ez⟩⟩
/-- a list or a tuple -/
def iSeq (K : PySem.W.Frag) (tl : TE) : TI := fun σ H R => tl σ H fun x H1 => ∃ a, x = .ref a ∧ (((∃ xs, SqL K H1 a xs) ∧ R (Itl K a) H1) ∨ ((∃ xs, SqT K H1 a xs) ∧ R (Itt K a) H1))
theorem pi_seq {tg l : Expr} {tl : TE} (hl : PE X l tl) : PI X tg l (iSeq X.K tl) := by
  refine ⟨fun pins s σ H R I h => thn (hl.run pins s σ H _ I h) fun v s1 hv => ?_⟩
  obtain ⟨x, H1, J1, rx, a, ex, q⟩ := hv
  subst ex
  cases rx
  have old : ∀ (o : Obj) (b : Addr) (u : Obj), s1.heap.get? b = some u → (s1.heap.push o).get? b = some u := fun o b u e => Heap.get?_push_of_some o e
  have mem1 : ∀ b ∈ [s1.heap.objs.size], FpOk X pins H1 b := fun b hb => by
    rw [List.mem_singleton.mp hb]
    exact J1.fpOk (Nat.le_refl _) (J1.hok.fresh (Nat.le_refl _))
  rcases q with ⟨⟨xs, hx⟩, q⟩ | ⟨⟨xs, hx⟩, q⟩
  · obtain ⟨its, rv, pl, hz⟩ := J1.list hx
    exact wpAny_pyIter_list pl.isList ⟨_, [s1.heap.objs.size], _, _, H1, rfl, J1.kept (t' := s1.toks) (old _), turn_list a _, ⟨_, Heap.get?_push_size _ rfl, rfl, rfl⟩, mem1, q⟩
  · obtain ⟨its, rv, pt, hz⟩ := J1.tuple hx
    exact wpAny_pyIter_tuple (show s1.heap.IsTuple a its.toArray from pt) ⟨_, [s1.heap.objs.size], _, _, H1, rfl, J1.kept (t' := s1.toks) (old _), turn_tuple a _, ⟨_, Heap.get?_push_size _ rfl, rfl, rfl⟩, mem1, q⟩
theorem iter_list {K : PySem.W.Frag} {F : Hp} {a : Addr} {vs : List V} {ds : List D} (h : SqL K F a vs) (r : Reps K F ds vs) : IterOk K F (Itl K a) ds := fun i F1 H s1 s2 => by
  have hH : SqL K H a vs := s2.seq (s1.seq h)
  refine ⟨fun d hd => ?_, fun hl => ⟨vs, hH, by rw [← r.length]; exact hl⟩⟩
  obtain ⟨v, hv, rv⟩ := r.get hd
  refine ⟨⟨vs, v, hH, hv⟩, fun x H' y => ⟨F1, ?_, ?_⟩⟩
  · rw [y.1]
    exact Grow.refl s2
  · have e := y.2 vs hH
    rw [hv] at e
    cases e
    exact Rep.mono s1 _ _ rv
theorem iter_tup {K : PySem.W.Frag} {F : Hp} {a : Addr} {vs : List V} {ds : List D} (h : SqT K F a vs) (r : Reps K F ds vs) : IterOk K F (Itt K a) ds := fun i F1 H s1 s2 => by
  have hH : SqT K H a vs := seqT s2 (seqT s1 h)
  refine ⟨fun d hd => ?_, fun hl => ⟨vs, hH, by rw [← r.length]; exact hl⟩⟩
  obtain ⟨v, hv, rv⟩ := r.get hd
  refine ⟨⟨vs, v, hH, hv⟩, fun x H' y => ⟨F1, ?_, ?_⟩⟩
  · rw [y.1]
    exact Grow.refl s2
  · have e := y.2 vs hH
    rw [hv] at e
    cases e
    exact Rep.mono s1 _ _ rv
theorem reps_ints {K : PySem.W.Frag} {F : Hp} : ∀ (ns : List Int), Reps K F (ns.map D.int) (ns.map V.int)
  | [] => rfl
  | n :: ns => ⟨.int n, ns.map V.int, rfl, rfl, reps_ints ns⟩
theorem qi_seq {tg : Expr} (ha : QE X Γ e f) : QI X Γ tg e (itE f) :=
  pi_weak (pi_seq ha) fun σ H R ⟨B, F, ρ, A, q⟩ => ⟨B, F, ρ, A, (After.bind (o := f ρ) q).mono fun d ρ1 F1 H1 s1 A1 q1 v r => by
    obtain ⟨zs, ez, q2⟩ := After.of q1
    have q3 := q2 F1 H1 (Same.refl F1) A1
    unfold items at ez
    split at ez
    · cases ez
      obtain ⟨a, vs, ea, ha, ra⟩ := r
      exact ⟨a, ea, Or.inl ⟨⟨vs, SqL.of (A1.sub _ _ ha)⟩, q3 _ (iter_list (SqL.of ha) ra)⟩⟩
    · cases ez
      obtain ⟨a, vs, ea, ha, ra⟩ := r
      exact ⟨a, ea, Or.inr ⟨⟨vs, tupS A1.sub ha⟩, q3 _ (iter_tup (SqT.of ha) ra)⟩⟩
    · cases ez
      obtain ⟨a, vs, ea, ha, ra⟩ := r
      exact ⟨a, ea, Or.inr ⟨⟨vs, seqT A1.sub ha⟩, q3 _ (iter_tup ha ra)⟩⟩
    · cases ez
      obtain ⟨a, ea, ha⟩ := r
      exact ⟨a, ea, Or.inl ⟨⟨_, A1.sub.seq ha⟩, q3 _ (iter_list ha (reps_ints _))⟩⟩
    · cases ez⟩
def zipD : D → D → Option (List D)
  | .lst ds, .lst es => some ((ds.zip es).map fun p => .tup [p.1, p.2])
  | .tup ds, .tup es => some ((ds.zip es).map fun p => .tup [p.1, p.2])
  | _, _ => none
def zipE (f f' : EV) : EA := fun ρ => (f ρ).bind fun d ρ1 => (f' ρ1).bind fun d' ρ2 => Out.of (zipD d d') ρ2
theorem iter_zipL {K : PySem.W.Frag} {F : Hp} {a b : Addr} {vs ws : List V} {ds es : List D} (h : SqL K F a vs) (h' : SqL K F b ws) (r : Reps K F ds vs) (r' : Reps K F es ws) : IterOk K F (Itz K a b) ((ds.zip es).map fun p => .tup [p.1, p.2]) := fun i F1 H s1 s2 => by
  have hH : SqL K H a vs := s2.seq (s1.seq h)
  have hH' : SqL K H b ws := s2.seq (s1.seq h')
  refine ⟨fun d hd => ?_, fun hl => ⟨vs, ws, hH, hH', ?_⟩⟩
  · rw [List.getElem?_map] at hd
    obtain ⟨p, hp, ed⟩ := Option.map_eq_some_iff.mp hd
    obtain ⟨e1, e2⟩ := List.getElem?_zip_eq_some.mp hp
    obtain ⟨v, hv, rv⟩ := r.get e1
    obtain ⟨w, hw, rw'⟩ := r'.get e2
    refine ⟨⟨vs, ws, v, w, hH, hH', hv, hw⟩, fun x H' y => ?_⟩
    obtain ⟨T, x1, y1, ex, hT, eH, k1, k2⟩ := y
    have e3 := k1 vs hH
    have e4 := k2 ws hH'
    rw [hv] at e3
    rw [hw] at e4
    cases e3
    cases e4
    rw [eH, ex, ← ed]
    exact ⟨_, Grow.alloc s2 hT, rep_tup upd_same (Reps.mono (s1.trans (Grow.alloc s2 hT).f) _ _ (reps_cons rv (reps1 rw')))⟩
  · rw [List.length_map, List.length_zip, r.length, r'.length] at hl
    omega
theorem iter_zipT {K : PySem.W.Frag} {F : Hp} {a b : Addr} {vs ws : List V} {ds es : List D} (h : SqT K F a vs) (h' : SqT K F b ws) (r : Reps K F ds vs) (r' : Reps K F es ws) : IterOk K F (RZ.ItzT K a b) ((ds.zip es).map fun p => .tup [p.1, p.2]) := fun i F1 H s1 s2 => by
  have hH : SqT K H a vs := seqT s2 (seqT s1 h)
  have hH' : SqT K H b ws := seqT s2 (seqT s1 h')
  refine ⟨fun d hd => ?_, fun hl => ⟨vs, ws, hH, hH', ?_⟩⟩
  · rw [List.getElem?_map] at hd
    obtain ⟨p, hp, ed⟩ := Option.map_eq_some_iff.mp hd
    obtain ⟨e1, e2⟩ := List.getElem?_zip_eq_some.mp hp
    obtain ⟨v, hv, rv⟩ := r.get e1
    obtain ⟨w, hw, rw'⟩ := r'.get e2
    refine ⟨⟨vs, ws, v, w, hH, hH', hv, hw⟩, fun x H' y => ?_⟩
    obtain ⟨T, x1, y1, ex, hT, eH, k1, k2⟩ := y
    have e3 := k1 vs hH
    have e4 := k2 ws hH'
    rw [hv] at e3
    rw [hw] at e4
    cases e3
    cases e4
    rw [eH, ex, ← ed]
    exact ⟨_, Grow.alloc s2 hT, rep_tup upd_same (Reps.mono (s1.trans (Grow.alloc s2 hT).f) _ _ (reps_cons rv (reps1 rw')))⟩
  · rw [List.length_map, List.length_zip, r.length, r'.length] at hl
    omega
theorem qi_zip {elts : List Expr} {kk : Nat} {tpos : Pos} (hg : Gl X "zip") (hm : X.mg "zip" = none) (ha : QE X Γ e f) (hb : QE X Γ e' f')
    (hs : starEach [e, e'] X.env = (false, eval e X.env) :: starEach [e'] X.env := by rfl) (hs2 : starEach [e'] X.env = (false, eval e' X.env) :: starEach [] X.env := by rfl) (hpl : (backTo pos (starEach [e'] X.env)).any (·.1) = false := by rfl) :
    QI X Γ (.Tuple elts kk tpos) (.Call (.Name "zip" p) [e, e'] [] pos) (zipE f f') :=
  pi_weak (RZ.pi_zipA hg hm (pa_cons ha (pa_cons hb pa_nil hs2) hs) hs hpl) fun σ H R ⟨B, F, ρ, A, q⟩ => ⟨B, F, ρ, A, (After.bind (o := f ρ) q).mono fun d ρ1 F1 H1 s1 A1 q1 v r => ⟨B, F1, ρ1, A1, (After.bind (o := f' ρ1) q1).mono fun d' ρ2 F2 H2 s2 A2 q2 v' r' => by
    obtain ⟨zs, ez, q3⟩ := After.of q2
    have q4 := q3 F2 H2 (Same.refl F2) A2
    unfold zipD at ez
    split at ez
    · cases ez
      obtain ⟨a, vs, ea, ha, ra⟩ := Rep.mono s2 _ _ r
      obtain ⟨b, ws, eb, hb, rb⟩ := r'
      exact ⟨a, b, vs, ws, by rw [ea, eb], Or.inl ⟨SqL.of (A2.sub _ _ ha), SqL.of (A2.sub _ _ hb), q4 _ (iter_zipL (SqL.of ha) (SqL.of hb) ra rb)⟩⟩
    · cases ez
      obtain ⟨a, vs, ea, ha, ra⟩ := Rep.mono s2 _ _ r
      obtain ⟨b, ws, eb, hb, rb⟩ := r'
      exact ⟨a, b, vs, ws, by rw [ea, eb], Or.inr ⟨tupS A2.sub ha, tupS A2.sub hb, q4 _ (iter_zipT (SqT.of ha) (SqT.of hb) ra rb)⟩⟩
    · cases ez⟩⟩
end
end HM

set_option Elab.async false
set_option linter.all false
set_option maxRecDepth 100000
set_option maxHeartbeats 4000000
/-! HMCall: what a def promises by a pure function; its body; its call. -/
namespace HM
open PySem PySem.Spec PyProof.Rows L2

/-- how a def ends; b: what the thing lent to it (its first argument) is then -/
inductive FOut where
  | ret (s : Sl) (b : Option D) | exc (c : XC) (ns : List Str) (ds : List D) (b : Option D) | stuck
/-- a def: the thing lent, the other arguments -/
abbrev FS := Option D → List D → FOut

def BackOk (K : PySem.W.Frag) (F' H' : Hp) : Option Addr → Option D → Prop
  | some a, some d => OwnAt K F' H' d a ∧ F' a = none
  | none, none => True
  | _, _ => False
/-- behind a call: F', H' from F, H, the lent thing at la now b -/
structure Ret (K : PySem.W.Frag) (F H : Hp) (la : Option Addr) (F' H' : Hp) (b : Option D) : Prop where
  f : Same F F'
  sub : Same F' H'
  keep : ∀ a o, H a = some o → la ≠ some a → H' a = some o
  new : ∀ a o, F' a = some o → F a = some o ∨ H a = none
  back : BackOk K F' H' la b
def NewOk (K : PySem.W.Frag) (H F' H' : Hp) : Sl → V → Prop
  | .val d, v => Rep K F' d v
  | .own d, v => ∃ a, v = .ref a ∧ H a = none ∧ F' a = none ∧ OwnAt K F' H' d a
  | _, _ => False
def lentV : Option (Addr × D) → List V
  | some (a, _) => [.ref a]
  | none => []
/-- the promise that the pure function fs makes -/
def spF (K : PySem.W.Frag) (n : Nat) (fs : FS) : Sp := fun vs H Q E => vs.length = n ∧ ∃ (F : Hp) (l : Option (Addr × D)) (ws : List V) (ds : List D), Same F H ∧ vs = lentV l ++ ws ∧ Reps K F ds ws ∧ (∀ a d, l = some (a, d) → F a = none ∧ OwnAt K F H d a) ∧
  match fs (l.map (·.2)) ds with
  | .ret s b => ∀ F' H' v, Ret K F H (l.map (·.1)) F' H' b → NewOk K H F' H' s v → Q v H'
  | .exc c ns es b => ∀ dx F' H', Ret K F H (l.map (·.1)) F' H' b → ExOk K F' ns es dx → E (c.v K) dx H'
  | .stuck => False

/-! ### the body -/
def lentS : Option D → List Sl
  | some d => [.inp d]
  | none => []
def inpD : Sl → Option D
  | .inp d => some d
  | _ => none
def back : Option D → Rho → Option (Option D)
  | none, _ => some none
  | some _, ρ => ((ρ[0]?).bind inpD).map some
def fin1 (o : Option (Option D)) (k : Option D → FOut) : FOut := match o with
  | some b => k b
  | none => .stuck
def finF (l : Option D) : SOut → FOut
  | .nx ρ => fin1 (back l ρ) fun b => .ret (.val .non) b
  | .rt s ρ => fin1 (back l ρ) fun b => .ret s b
  | .exc c ns ds ρ => fin1 (back l ρ) fun b => .exc c ns ds b
  | _ => .stuck
theorem back_some {d0 : D} {ρ : Rho} {b : Option D} (h : back (some d0) ρ = some b) : ∃ d, b = some d ∧ ρ[0]? = some (.inp d) := by
  have h2 : ((ρ[0]?).bind inpD).map some = some b := h
  obtain ⟨d, e1, e2⟩ := Option.map_eq_some_iff.mp h2
  obtain ⟨s, e3, e4⟩ := Option.bind_eq_some_iff.mp e1
  cases s with
  | inp d' =>
    cases e4
    exact ⟨d, e2.symm, e3⟩
  | non => cases e4
  | pnd => cases e4
  | val d' => cases e4
  | own d' => cases e4
/-- the def of n parameters and N names with this body -/
def defF (n N : Nat) (body : SV) : FS := fun l ds => if (lentS l ++ ds.map Sl.val).length = n then finF l (body (lentS l ++ ds.map .val ++ List.replicate (N - n) .non)) else .stuck
def gam0 (E : XK) : Gam := ⟨fun c d _ H => E c d H, fun _ _ => True, fun _ _ _ _ _ => trivial⟩

theorem reps_val {K : PySem.W.Frag} {F : Hp} {ds : List D} {ws : List V} (r : Reps K F ds ws) {i : Nat} {s : Sl} (h : (ds.map Sl.val)[i]? = some s) : ∃ d v, s = .val d ∧ ws[i]? = some v ∧ Rep K F d v := by
  rw [List.getElem?_map] at h
  obtain ⟨d, hd, e⟩ := Option.map_eq_some_iff.mp h
  obtain ⟨v, hv, rv⟩ := r.get hd
  exact ⟨d, v, e.symm, hv, rv⟩
/-- the state at a def's entry -/
theorem entry {K : PySem.W.Frag} {ex : L2.St → Hp → Prop} {F H : Hp} {l : Option (Addr × D)} {ws : List V} {ds : List D} {vs : List V} {n N : Nat} {names : List Str} (hN : names.length = N) (hx : ex (L2.start names vs) F) (s : Same F H) (ev : vs = lentV l ++ ws) (r : Reps K F ds ws)
    (hl : ∀ a d, l = some (a, d) → F a = none ∧ OwnAt K F H d a) (hn : vs.length = n) :
    Agr K ex ⟨L2.start names vs, fun a => if l.map (·.1) = some a then none else H a, F⟩ F (lentS (l.map (·.2)) ++ ds.map .val ++ List.replicate (N - n) .non) (L2.start names vs) H := by
  have ll : (lentS (l.map (·.2)) ++ ds.map Sl.val).length = vs.length := by
    rw [ev, List.length_append, List.length_append, List.length_map, r.length]
    cases l <;> rfl
  have st : L2.start names vs = vs.map some ++ List.replicate (N - n) none := by
    unfold L2.start
    rw [hN, hn]
  have at_ : ∀ {i : Nat} {z : Sl} {o : Option V}, (lentS (l.map (·.2)) ++ ds.map Sl.val ++ List.replicate (N - n) Sl.non)[i]? = some z → (L2.start names vs)[i]? = some o →
      z = .non ∨ (∃ d v, z = .val d ∧ o = some v ∧ Rep K F d v) ∨ (i = 0 ∧ ∃ a d, z = .inp d ∧ l = some (a, d) ∧ o = some (.ref a)) := by
    intro i z o e1 e2
    rw [st] at e2
    by_cases hi : i < vs.length
    · rw [List.getElem?_append_left (by rw [ll]; exact hi)] at e1
      rw [List.getElem?_append_left (by rw [List.length_map]; exact hi), List.getElem?_map] at e2
      obtain ⟨v, hv, eo⟩ := Option.map_eq_some_iff.mp e2
      subst eo
      rw [ev] at hv
      cases l with
      | none =>
        obtain ⟨d, w, ez, hw, rw'⟩ := reps_val r (show (ds.map Sl.val)[i]? = some z from e1)
        have hv' : ws[i]? = some v := hv
        rw [hw] at hv'
        cases hv'
        exact Or.inr (Or.inl ⟨d, v, ez, rfl, rw'⟩)
      | some q =>
        obtain ⟨a, d⟩ := q
        cases i with
        | zero =>
          have e1' : some (Sl.inp d) = some z := e1
          have hv' : some (V.ref a) = some v := hv
          cases e1'
          cases hv'
          exact Or.inr (Or.inr ⟨rfl, a, d, rfl, rfl, rfl⟩)
        | succ i =>
          obtain ⟨d', w, ez, hw, rw'⟩ := reps_val r (show (ds.map Sl.val)[i]? = some z from e1)
          have hv' : ws[i]? = some v := hv
          rw [hw] at hv'
          cases hv'
          exact Or.inr (Or.inl ⟨d', v, ez, rfl, rw'⟩)
    · rw [List.getElem?_append_right (by rw [ll]; omega)] at e1
      have := (List.mem_of_getElem? e1)
      rw [List.mem_replicate] at this
      exact Or.inl this.2
  refine ⟨s, fun a o e => ?_, Same.refl F, fun a o e => Or.inl e, hx, ?_, fun i z o e1 e2 => ?_, fun i j z t b hij e1 e2 hs ht e3 e4 => ?_⟩
  · have e' : (if l.map (·.1) = some a then none else H a) = some o := e
    split at e'
    · cases e'
    · exact e'
  · rw [List.length_append, ll, st, List.length_append, List.length_map, List.length_replicate, List.length_replicate]
  · rcases at_ e1 e2 with h | ⟨d, v, h, ho, rv⟩ | ⟨h0, a, d, h, hl2, ho⟩
    · rw [h]
      trivial
    · rw [h]
      exact ⟨v, ho, rv⟩
    · subst h0
      rw [h]
      obtain ⟨n1, w⟩ := hl a d hl2
      exact ⟨e2, a, ho, n1, if_pos (by rw [hl2]; rfl), w⟩
  · have z1 : i = 0 := by
      rcases at_ e1 e3 with h | ⟨d, v, h, ho, rv⟩ | ⟨h0, _⟩
      · rw [h] at hs
        cases hs
      · rw [h] at hs
        cases hs
      · exact h0
    have z2 : j = 0 := by
      rcases at_ e2 e4 with h | ⟨d, v, h, ho, rv⟩ | ⟨h0, _⟩
      · rw [h] at ht
        cases ht
      · rw [h] at ht
        cases ht
      · exact h0
    exact hij (z1.trans z2.symm)

section
variable {K : PySem.W.Frag} {ex : L2.St → Hp → Prop} {F H F' H' : Hp} {l : Option (Addr × D)} {vs ws : List V} {names : List Str} {ρ : Rho} {σ : L2.St}
/-- the state at a def's end -/
theorem leave {b : Option D} (hp : ∀ a d, l = some (a, d) → (L2.start names vs)[0]? = some (some (.ref a))) (A : Agr K ex ⟨L2.start names vs, fun a => if l.map (·.1) = some a then none else H a, F⟩ F' ρ σ H')
    (hb : back (l.map (·.2)) ρ = some b) : Ret K F H (l.map (·.1)) F' H' b := by
  have lent : ∀ a d, l = some (a, d) → ∃ d', b = some d' ∧ OwnAt K F' H' d' a ∧ F' a = none ∧ ρ[0]? = some (.inp d') ∧ σ[0]? = some (some (.ref a)) := fun a d e => by
    rw [e] at hb
    obtain ⟨d', eb, e0⟩ := back_some (show back (some d) ρ = some b from hb)
    obtain ⟨a', ea, n, m, w⟩ := A.own_at e0 (Or.inr rfl)
    have h := A.ok 0 _ _ e0 ea
    have h1 : (L2.start names vs)[0]? = some (some (V.ref a')) := h.1
    rw [hp a d e] at h1
    cases h1
    exact ⟨d', eb, w, n, e0, ea⟩
  refine ⟨A.from0, A.sub, fun a o e hla => A.ground a o ((if_neg (show ¬ (l.map (·.1) = some a) from hla)).trans e), fun a o e => ?_, ?_⟩
  · rcases A.new a o e with q | q
    · exact Or.inl q
    · have q' : (if l.map (·.1) = some a then none else H a) = none := q
      split at q'
      · rename_i hla
        obtain ⟨p, hp1, hp2⟩ := Option.map_eq_some_iff.mp hla
        obtain ⟨a', d⟩ := p
        have : a' = a := hp2
        subst this
        obtain ⟨_, _, _, n, _⟩ := lent a' d hp1
        rw [n] at e
        cases e
      · exact Or.inr q'
  · cases hl : l with
    | none =>
      rw [hl] at hb
      have hb2 : some none = some b := hb
      cases hb2
      trivial
    | some p =>
      obtain ⟨a, d⟩ := p
      obtain ⟨d', eb, w, n, _⟩ := lent a d hl
      rw [eb]
      exact ⟨w, n⟩
theorem leave_res {b : Option D} {s : Sl} {v : V} (hp : ∀ a d, l = some (a, d) → (L2.start names vs)[0]? = some (some (.ref a))) (A : Agr K ex ⟨L2.start names vs, fun a => if l.map (·.1) = some a then none else H a, F⟩ F' ρ σ H')
    (hb : back (l.map (·.2)) ρ = some b) (r : ResOk K ⟨L2.start names vs, fun a => if l.map (·.1) = some a then none else H a, F⟩ F' ρ σ H' s v) : NewOk K H F' H' s v := by
  cases s with
  | non => exact r.elim
  | pnd => exact r.elim
  | inp d => exact r.elim
  | val d => exact r
  | own d =>
    obtain ⟨a, ev, n, m, w, un⟩ := r
    refine ⟨a, ev, ?_, n, w⟩
    have m' : (if l.map (·.1) = some a then none else H a) = none := m
    split at m'
    · rename_i hla
      exfalso
      obtain ⟨p, hp1, hp2⟩ := Option.map_eq_some_iff.mp hla
      obtain ⟨a', d⟩ := p
      have : a' = a := hp2
      subst this
      rw [hp1] at hb
      obtain ⟨d', eb, e0⟩ := back_some (show back (some d) ρ = some b from hb)
      obtain ⟨a2, ea, _⟩ := A.own_at e0 (Or.inr rfl)
      have h := A.ok 0 _ _ e0 ea
      have h1 : (L2.start names vs)[0]? = some (some (V.ref a2)) := h.1
      rw [hp a' d hp1] at h1
      cases h1
      exact un 0 _ e0 rfl ea
    · exact m'
end

/-- THE RULE for a def: its body by a pure function -/
theorem fn_okF {P : Program} {w : World} {K : PySem.W.Frag} {mg : Str → Option Value} {base : Heap} {x qual : Str} {params : Arguments} {body : List Stmt} {scope : Scope} {dvs : List V} {kws : List (Str × V)} {f : Addr} {fd : FuncData} {N ps : List Str} {k : Nat} {m : SV} {n nn : Nat}
    (FD : FunD K x qual params body scope dvs kws f fd) (S : FnScope N ps scope) (hn : ps.length = n) (hnn : N.length = nn)
    (hbody : ∀ (cdv : Value) (A : Around) (outer : List Env) (s : Shared) (H : Hp) (E : XK), Room k (A.deeper (envOfC qual scope s.heap.objs.size f cdv)) →
      QSs (cxOf (L2.CX P w) P w K mg base N qual scope f cdv A outer s H E) (gam0 E) body m) : FnOk P w K mg base (L2.CX P w) (k + 1) f fd ps (spF K n (defF n nn m)) := by
  refine FD.ok S (fun vs H Q E h => h.1.trans hn.symm) fun cdv A outer s H vs Q E hr h => ⟨_, hbody cdv A outer s H E hr, ?_⟩
  obtain ⟨hlen, F, l, ws, ds, sF, ev, r, hl, q⟩ := h
  have hp : ∀ a d, l = some (a, d) → (L2.start N vs)[0]? = some (some (.ref a)) := fun a d e => by
    rw [ev, e]
    rfl
  have en := entry (K := K) (ex := (gam0 E).ex) hnn (show (gam0 E).ex (L2.start N vs) F from trivial) sF ev r hl hlen
  have hlen2 : (lentS (l.map (·.2)) ++ ds.map Sl.val).length = n := by
    rw [← hlen, ev, List.length_append, List.length_append, List.length_map, r.length]
    cases l <;> rfl
  refine ⟨_, F, _, en, ?_⟩
  unfold defF at q
  rw [if_pos hlen2] at q
  cases ho : m (lentS (l.map (·.2)) ++ ds.map Sl.val ++ List.replicate (nn - n) Sl.non) with
  | nx ρ =>
    rw [ho] at q
    intro F' σ' H' s' A'
    rw [show finF (l.map (·.2)) (SOut.nx ρ) = fin1 (back (l.map (·.2)) ρ) fun b => FOut.ret (.val .non) b from rfl] at q
    cases hb : back (l.map (·.2)) ρ with
    | none =>
      rw [hb] at q
      exact q.elim
    | some b =>
      rw [hb] at q
      exact q F' H' .non (leave hp A' hb) rfl
  | rt z ρ =>
    rw [ho] at q
    intro F' σ' H' v s' A' rr
    rw [show finF (l.map (·.2)) (SOut.rt z ρ) = fin1 (back (l.map (·.2)) ρ) fun b => FOut.ret z b from rfl] at q
    cases hb : back (l.map (·.2)) ρ with
    | none =>
      rw [hb] at q
      exact q.elim
    | some b =>
      rw [hb] at q
      exact q F' H' v (leave hp A' hb) (leave_res hp A' hb rr)
  | bk ρ =>
    rw [ho] at q
    exact q.elim
  | ct ρ =>
    rw [ho] at q
    exact q.elim
  | exc c ns es ρ =>
    rw [ho] at q
    intro dx F' σ' H' s' A' xx
    rw [show finF (l.map (·.2)) (SOut.exc c ns es ρ) = fin1 (back (l.map (·.2)) ρ) fun b => FOut.exc c ns es b from rfl] at q
    cases hb : back (l.map (·.2)) ρ with
    | none =>
      rw [hb] at q
      exact q.elim
    | some b =>
      rw [hb] at q
      exact q dx F' H' (leave hp A' hb) xx
  | stuck =>
    rw [ho] at q
    exact q.elim

/-! ### calls -/
/-- behind a call that was lent nothing, or the thing of the caller's slot i -/
theorem Agr.called {K : PySem.W.Frag} {ex : L2.St → Hp → Prop} {B : Bs} {F H F' H' : Hp} {ρ : Rho} {σ : L2.St} (A : Agr K ex B F ρ σ H) (hx : ∀ q F F', Same F F' → ex q F → ex q F') (R : Ret K F H none F' H' none) : Agr K ex B F' ρ σ H' :=
  A.grow ⟨R.f, fun a o e => R.keep a o e (fun z => nomatch z), R.sub, R.new⟩ hx
theorem Agr.calledL {K : PySem.W.Frag} {ex : L2.St → Hp → Prop} {B : Bs} {F H F' H' : Hp} {ρ : Rho} {σ : L2.St} {i : Nat} {s : Sl} {d d' : D} {a : Addr} (A : Agr K ex B F ρ σ H) (hx : ∀ q F F', Same F F' → ex q F → ex q F') (e : ρ[i]? = some s) (hd : s = .own d ∨ s = .inp d)
    (ea : σ[i]? = some (some (.ref a))) (R : Ret K F H (some a) F' H' (some d')) : Agr K ex B F' (ρ.set i (s.put d')) σ H' := by
  obtain ⟨a', ea', n, m, w0⟩ := A.own_at e hd
  rw [ea] at ea'
  cases ea'
  obtain ⟨w, n'⟩ := R.back
  have hi := (List.getElem?_eq_some_iff.mp e).1
  have hm : s.mut = true := by rcases hd with z | z <;> (subst z; rfl)
  -- other things are as they were
  have oth : ∀ {b : Addr} {d2 : D}, b ≠ a → F b = none → OwnAt K F H d2 b → F' b = none ∧ OwnAt K F' H' d2 b := fun {b d2} hb nb wb => by
    obtain ⟨u, eu⟩ := wb.there
    refine ⟨?_, wb.mono R.f ((R.keep b u eu (fun z => hb (Option.some.inj z).symm)).trans eu.symm)⟩
    cases q : F' b with
    | none => rfl
    | some z =>
      rcases R.new b z q with y | y
      · rw [nb] at y
        cases y
      · rw [eu] at y
        cases y
  refine ⟨R.sub, fun b o eb => R.keep b o (A.ground b o eb) (fun z => ?_), A.from0.trans R.f, fun b o eb => ?_, hx _ _ _ R.f A.extra, by rw [List.length_set]; exact A.len, ?_, ?_⟩
  · cases z
    rw [m] at eb
    cases eb
  · rcases R.new b o eb with q | q
    · exact A.new b o q
    · exact Or.inr (A.ground.free q)
  · intro j t o e1 e2
    by_cases hj : j = i
    · subst hj
      rw [List.getElem?_set_self hi] at e1
      cases e1
      rw [ea] at e2
      cases e2
      have h := A.ok j s _ e ea
      rcases hd with z | z
      · subst z
        exact ⟨a, rfl, n', m, w⟩
      · subst z
        exact ⟨h.1, a, rfl, n', m, w⟩
    · rw [List.getElem?_set_ne (Ne.symm hj)] at e1
      have h := A.ok j t o e1 e2
      have ne : ∀ {b : Addr}, o = some (.ref b) → t.mut = true → b ≠ a := fun {b} eo hm2 z => by
        subst z
        rw [eo] at e2
        exact A.inj j i t _ _ hj e1 e hm2 hm e2 ea
      cases t with
      | non => trivial
      | pnd => exact h
      | val d2 =>
        obtain ⟨v, ev, rv⟩ := h
        exact ⟨v, ev, Rep.mono R.f _ _ rv⟩
      | own d2 =>
        obtain ⟨b, eb, nb, mb, wb⟩ := h
        obtain ⟨q1, q2⟩ := oth (ne eb rfl) nb wb
        exact ⟨b, eb, q1, mb, q2⟩
      | inp d2 =>
        obtain ⟨p, b, eb, nb, mb, wb⟩ := h
        obtain ⟨q1, q2⟩ := oth (ne eb rfl) nb wb
        exact ⟨p, b, eb, q1, mb, q2⟩
  · intro j k s' t' b hjk e1 e2 hs ht e3 e4
    have backS : ∀ {q : Nat} {x : Sl}, (ρ.set i (s.put d'))[q]? = some x → x.mut = true → ∃ y, ρ[q]? = some y ∧ y.mut = true := fun {q x} h1 h2 => by
      by_cases hq : q = i
      · subst hq
        exact ⟨s, e, hm⟩
      · rw [List.getElem?_set_ne (Ne.symm hq)] at h1
        exact ⟨x, h1, h2⟩
    obtain ⟨y1, q1, h1⟩ := backS e1 hs
    obtain ⟨y2, q2, h2⟩ := backS e2 ht
    exact A.inj j k y1 y2 b hjk q1 q2 h1 h2 e3 e4
theorem res_new {K : PySem.W.Frag} {ex : L2.St → Hp → Prop} {B : Bs} {F H F' H' : Hp} {ρ ρ' : Rho} {σ : L2.St} {s : Sl} {v : V} (A : Agr K ex B F ρ σ H) (hρ : ∀ (i : Nat) (t : Sl), ρ'[i]? = some t → t.mut = true → ∃ y, ρ[i]? = some y ∧ y.mut = true) (r : NewOk K H F' H' s v) : ResOk K B F' ρ' σ H' s v := by
  cases s with
  | non => exact r.elim
  | pnd => exact r.elim
  | inp d => exact r.elim
  | val d => exact r
  | own d =>
    obtain ⟨a, ev, n, n', w⟩ := r
    refine ⟨a, ev, n', A.ground.free n, w, fun i t ei hm es => ?_⟩
    obtain ⟨y, ey, hy⟩ := hρ i t ei hm
    obtain ⟨d', hd⟩ : ∃ d, y = .own d ∨ y = .inp d := by
      cases y with
      | own d => exact ⟨d, Or.inl rfl⟩
      | inp d => exact ⟨d, Or.inr rfl⟩
      | non => cases hy
      | pnd => cases hy
      | val d => cases hy
    obtain ⟨a', ea, _, _, w'⟩ := A.own_at ey hd
    rw [es] at ea
    cases ea
    obtain ⟨o, eo⟩ := w'.there
    rw [n] at eo
    cases eo

/-- f(e, ..): all arguments by value; dds: the defaults that fill up -/
def callF (fs : FS) (dds : List D) (fa : EA) : EO := fun ρ => (fa ρ).bind fun ds ρ1 => match fs none (ds ++ dds) with
  | .ret s none => .ok s ρ1
  | .exc c ns es none => .exc c ns es ρ1
  | _ => .stuck
/-- f(x, e, ..): the thing of slot i is lent -/
def mutD : Sl → Option D
  | .own d => some d
  | .inp d => some d
  | _ => none
def putAt (i : Nat) (d : D) (ρ : Rho) : Rho := match ρ[i]? with
  | some s => ρ.set i (s.put d)
  | none => ρ
def callL (fs : FS) (i : Nat) (dds : List D) (fa : EA) : EO := fun ρ => (Out.of ((ρ[i]?).bind mutD) ρ).bind fun _ ρ0 => (fa ρ0).bind fun ds ρ1 => (Out.of ((ρ1[i]?).bind mutD) ρ1).bind fun d ρ2 => match fs (some d) (ds ++ dds) with
  | .ret s (some d') => .ok s (putAt i d' ρ2)
  | .exc c ns es (some d') => .exc c ns es (putAt i d' ρ2)
  | _ => .stuck

section
variable {X : Cx} {Γ : Gam} {k : Nat} {f : Addr} {fd : FuncData} {ps : List Str} {n i : Nat} {fs : FS} {dvs : List V} {ds : List Value} {dds : List D} {x : Str} {p pos apos : Pos} {e o : Expr} {es : List Expr} {fa : EA}
/-- the callee runs, its exceptions reach what is wished at these slots -/
theorem run_fnX {CX : CXT} {sp : Sp} {E : XK} {pins : List (Addr × Obj)} {σ : L2.St} {H : Hp} {s : Shared} {Q : VK} {us : List Value} {vs : List V} (FO : FnOk X.prog X.w X.K X.mg X.base CX k f fd ps sp) (hr : Room k X.A) (hb : Binds X.K fd ps ds) (hd : Vals dvs ds)
    (hx : PassesAt CX X σ E) (I : Inv X pins σ H s) (r : Vals vs us) (h : sp (vs ++ dvs) H Q E) : wpAny (model X.prog X.w) X.A (call (.ref f) us) (EP X pins σ Q) X.xe s := by
  have rr : Vals (vs ++ dvs) (us ++ ds) := r.append hd
  have hl : (us ++ ds).length = ps.length := rr.length.symm.trans (FO.len _ _ _ _ h)
  refine wpAny_call (codeAny_mono (FO.run X.A X.stack s H ⟨us, []⟩ (us ++ ds) (vs ++ dvs) Q E hr I.env0 (hb s us I.kIn hl) rr h) fun rz s' hq => ?_)
  match rz, hq with
  | .error z, hq => exact hx pins H s z s' I hq
  | .ok (.ret u), hq => exact I.after hq
  | .ok .next, hq => exact hq.elim
  | .ok .brk, hq => exact hq.elim
  | .ok .cont, hq => exact hq.elim
def tCallX (sp : Sp) (dvs : List V) (E : L2.St → XK) (t : TA) : TE := fun σ H Q => t σ H fun vs H1 => sp (vs ++ dvs) H1 Q (E σ)
theorem pe_callX {CX : CXT} {sp : Sp} {E : L2.St → XK} {t : TA} (FO : FnOk X.prog X.w X.K X.mg X.base CX k f fd ps sp) (hr : Room k X.A) (hg : Gl X x) (hm : X.mg x = some (.ref f)) (hk : PySem.W.keepIn X.K (.ref f) = true) (hb : Binds X.K fd ps ds) (hd : Vals dvs ds) (hx : ∀ σ, PassesAt CX X σ (E σ))
    (ha : PA X (e :: es) t) (hdb : (x == ("__debug__" : Str)) = false := by decide) (he : starEach (e :: es) X.env = (false, eval e X.env) :: starEach es X.env := by rfl) (hpl : (backTo pos (starEach es X.env)).any (·.1) = false := by rfl) :
    PE X (.Call (.Name x p) (e :: es) [] pos) (tCallX sp dvs E t) :=
  ⟨fun pins s σ H Q I h => wpAny_Call_Name_kw (ld_glob I hg hm (PySem.W.callWith_K (h₀ := X.base) I.ok.mod.kin hk (thn (ha.run pos pins s σ H _ I h) fun us s1 ⟨vs, H1, I1, r, q⟩ => ⟨I1.kIn, run_fnX FO hr hb hd (hx σ) I1 r q⟩) he hpl) hdb)⟩
theorem pe_callX0 {CX : CXT} {sp : Sp} {E : L2.St → XK} (FO : FnOk X.prog X.w X.K X.mg X.base CX k f fd ps sp) (hr : Room k X.A) (hg : Gl X x) (hm : X.mg x = some (.ref f)) (hk : PySem.W.keepIn X.K (.ref f) = true) (hb : Binds X.K fd ps ds) (hd : Vals dvs ds) (hx : ∀ σ, PassesAt CX X σ (E σ))
    (hdb : (x == ("__debug__" : Str)) = false := by decide) : PE X (.Call (.Name x p) [] [] pos) (tCallX sp dvs E tNil) :=
  ⟨fun pins s σ H Q I h => wpAny_Call_Name_kw (ld_glob I hg hm (PySem.W.callWith_K0 I.kIn hk (run_fnX (us := []) FO hr hb hd (hx σ) I .nil h)) hdb)⟩
theorem sp_val {σ : L2.St} {F H : Hp} {B : Bs} {ρ : Rho} {zs : List D} {vs : List V} {Q : VK} (hlen : (vs ++ dvs).length = n) (A : Agr X.K Γ.ex B F ρ σ H) (r : Reps X.K F zs vs) (rd : ∀ F, Reps X.K F dds dvs)
    (q : After X.K Γ B F σ (match fs none (zs ++ dds) with
      | .ret s none => .ok s ρ
      | .exc c ns es none => .exc c ns es ρ
      | _ => .stuck) fun s ρ' F' H' => ∀ v, ResOk X.K B F' ρ' σ H' s v → Q v H') : spF X.K n fs (vs ++ dvs) H Q (WE Γ.W σ) := by
  refine ⟨hlen, F, none, vs ++ dvs, zs ++ dds, A.sub, rfl, r.append (rd F), fun a d z => (nomatch z), ?_⟩
  show (match fs none (zs ++ dds) with
    | .ret s b => ∀ F' H' v, Ret X.K F H none F' H' b → NewOk X.K H F' H' s v → Q v H'
    | .exc c ns es b => ∀ dx F' H', Ret X.K F H none F' H' b → ExOk X.K F' ns es dx → WE Γ.W σ (c.v X.K) dx H'
    | .stuck => False)
  cases ho : fs none (zs ++ dds) with
  | ret s b =>
    rw [ho] at q
    cases b with
    | some d => exact q.elim
    | none => exact fun F' H' v R nw => q F' H' R.f (A.called Γ.mono R) v (res_new A (fun i t h1 h2 => ⟨t, h1, h2⟩) nw)
  | exc c ns es b =>
    rw [ho] at q
    cases b with
    | some d => exact q.elim
    | none => exact fun dx F' H' R xx => q dx F' H' R.f (A.called Γ.mono R) xx
  | stuck =>
    rw [ho] at q
    exact q
/-- a call by values: one argument or more -/
theorem qo_call (FO : FnOk X.prog X.w X.K X.mg X.base (L2.CX X.prog X.w) k f fd ps (spF X.K n fs)) (hr : Room k X.A) (hg : Gl X x) (hm : X.mg x = some (.ref f)) (hk : PySem.W.keepIn X.K (.ref f) = true) (hb : Binds X.K fd ps ds) (hd : Vals dvs ds) (rd : ∀ F, Reps X.K F dds dvs) (tk : Takes X Γ.W)
    (hlen : (e :: es).length + dvs.length = n) (ha : QA X Γ (e :: es) fa) (hal : ∀ ρ zs ρ', fa ρ = .ok zs ρ' → zs.length = (e :: es).length) (hdb : (x == ("__debug__" : Str)) = false := by decide)
    (he : starEach (e :: es) X.env = (false, eval e X.env) :: starEach es X.env := by rfl) (hpl : (backTo pos (starEach es X.env)).any (·.1) = false := by rfl) : QO X Γ (.Call (.Name x p) (e :: es) [] pos) (callF fs dds fa) :=
  pe_weak (pe_callX FO hr hg hm hk hb hd (fun σ => passAt tk σ) ha hdb he hpl) fun σ H Q ⟨B, F, ρ, A, q⟩ => ⟨B, F, ρ, A, by
    have q0 := After.bind (o := fa ρ) q
    cases ho : fa ρ with
    | ok zs ρ1 =>
      rw [ho] at q0
      exact fun F1 H1 s1 A1 vs r => sp_val (by rw [List.length_append, ← r.length, hal ρ zs ρ1 ho]; exact hlen) A1 r rd (q0 F1 H1 s1 A1)
    | exc c ns es ρ1 =>
      rw [ho] at q0
      exact q0
    | stuck =>
      rw [ho] at q0
      exact q0⟩
theorem qo_call0 (FO : FnOk X.prog X.w X.K X.mg X.base (L2.CX X.prog X.w) k f fd ps (spF X.K n fs)) (hr : Room k X.A) (hg : Gl X x) (hm : X.mg x = some (.ref f)) (hk : PySem.W.keepIn X.K (.ref f) = true) (hb : Binds X.K fd ps ds) (hd : Vals dvs ds) (rd : ∀ F, Reps X.K F dds dvs) (tk : Takes X Γ.W)
    (hlen : dvs.length = n) (hdb : (x == ("__debug__" : Str)) = false := by decide) : QO X Γ (.Call (.Name x p) [] [] pos) (callF fs dds aNil) :=
  pe_weak (pe_callX0 FO hr hg hm hk hb hd (fun σ => passAt tk σ) hdb) fun σ H Q ⟨B, F, ρ, A, q⟩ => sp_val (vs := []) hlen A reps_nil rd q
theorem sp_lent {σ : L2.St} {F H : Hp} {B : Bs} {ρ : Rho} {zs : List D} {vs : List V} {Q : VK} {a : Addr} (hlen : (V.ref a :: vs ++ dvs).length = n) (A : Agr X.K Γ.ex B F ρ σ H) (ea : σ[i]? = some (some (.ref a))) (r : Reps X.K F zs vs) (rd : ∀ F, Reps X.K F dds dvs)
    (q : After X.K Γ B F σ ((Out.of ((ρ[i]?).bind mutD) ρ).bind fun d ρ2 => match fs (some d) (zs ++ dds) with
      | .ret s (some d') => Out.ok s (putAt i d' ρ2)
      | .exc c ns es (some d') => Out.exc c ns es (putAt i d' ρ2)
      | _ => Out.stuck) fun s ρ' F' H' => ∀ v, ResOk X.K B F' ρ' σ H' s v → Q v H') : spF X.K n fs (V.ref a :: vs ++ dvs) H Q (WE Γ.W σ) := by
  obtain ⟨d, ed, q1⟩ := After.of (After.bind (o := Out.of ((ρ[i]?).bind mutD) ρ) q)
  obtain ⟨s0, es0, ed⟩ := Option.bind_eq_some_iff.mp ed
  have hd0 : s0 = .own d ∨ s0 = .inp d := by
    cases s0 with
    | own d' =>
      cases ed
      exact Or.inl rfl
    | inp d' =>
      cases ed
      exact Or.inr rfl
    | non => cases ed
    | pnd => cases ed
    | val d' => cases ed
  have hm : s0.mut = true := by rcases hd0 with z | z <;> (subst z; rfl)
  obtain ⟨a', ea', n1, m1, w1⟩ := A.own_at es0 hd0
  rw [ea] at ea'
  cases ea'
  have q2 := q1 F H (Same.refl F) A
  refine ⟨hlen, F, some (a, d), vs ++ dvs, zs ++ dds, A.sub, rfl, r.append (rd F), fun b d' z => by cases z; exact ⟨n1, w1⟩, ?_⟩
  show (match fs (some d) (zs ++ dds) with
    | .ret s b => ∀ F' H' v, Ret X.K F H (some a) F' H' b → NewOk X.K H F' H' s v → Q v H'
    | .exc c ns es b => ∀ dx F' H', Ret X.K F H (some a) F' H' b → ExOk X.K F' ns es dx → WE Γ.W σ (c.v X.K) dx H'
    | .stuck => False)
  have pt : ∀ d', putAt i d' ρ = ρ.set i (s0.put d') := fun d' => by
    unfold putAt
    rw [es0]
  have bk : ∀ d' (j : Nat) (t : Sl), (ρ.set i (s0.put d'))[j]? = some t → t.mut = true → ∃ y, ρ[j]? = some y ∧ y.mut = true := fun d' j t h1 h2 => by
    by_cases hj : j = i
    · subst hj
      exact ⟨s0, es0, hm⟩
    · rw [List.getElem?_set_ne (Ne.symm hj)] at h1
      exact ⟨t, h1, h2⟩
  cases ho : fs (some d) (zs ++ dds) with
  | ret s b =>
    rw [ho] at q2
    cases b with
    | none => exact q2.elim
    | some d' =>
      have q3 : After X.K Γ B F σ (.ok s (putAt i d' ρ)) fun s ρ' F' H' => ∀ v, ResOk X.K B F' ρ' σ H' s v → Q v H' := q2
      rw [pt] at q3
      exact fun F' H' v R nw => q3 F' H' R.f (A.calledL Γ.mono es0 hd0 ea R) v (res_new A (bk d') nw)
  | exc c ns es b =>
    rw [ho] at q2
    cases b with
    | none => exact q2.elim
    | some d' =>
      have q3 : After X.K Γ B F σ (.exc c ns es (putAt i d' ρ)) fun (s : Sl) ρ' F' H' => ∀ v, ResOk X.K B F' ρ' σ H' s v → Q v H' := q2
      rw [pt] at q3
      exact fun dx F' H' R xx => q3 dx F' H' R.f (A.calledL Γ.mono es0 hd0 ea R) xx
  | stuck =>
    rw [ho] at q2
    exact q2
theorem mut_at {B : Bs} {F H : Hp} {ρ : Rho} {σ : L2.St} {d : D} (A : Agr X.K Γ.ex B F ρ σ H) (h : (ρ[i]?).bind mutD = some d) : ∃ a, σ[i]? = some (some (.ref a)) := by
  obtain ⟨s0, es0, ed⟩ := Option.bind_eq_some_iff.mp h
  have hd0 : s0 = .own d ∨ s0 = .inp d := by
    cases s0 with
    | own d' =>
      cases ed
      exact Or.inl rfl
    | inp d' =>
      cases ed
      exact Or.inr rfl
    | non => cases ed
    | pnd => cases ed
    | val d' => cases ed
  obtain ⟨a, ea, _⟩ := A.own_at es0 hd0
  exact ⟨a, ea⟩
/-- a call that is lent the thing of slot i -/
theorem qo_callL (FO : FnOk X.prog X.w X.K X.mg X.base (L2.CX X.prog X.w) k f fd ps (spF X.K n fs)) (hr : Room k X.A) (hg : Gl X x) (hm : X.mg x = some (.ref f)) (hk : PySem.W.keepIn X.K (.ref f) = true) (hb : Binds X.K fd ps ds) (hd : Vals dvs ds) (rd : ∀ F, Reps X.K F dds dvs) (tk : Takes X Γ.W)
    (hlen : (e :: es).length + dvs.length = n) (hv : PE X e (tVar i)) (ha : QA X Γ es fa) (hal : ∀ ρ zs ρ', fa ρ = .ok zs ρ' → zs.length = es.length) (hdb : (x == ("__debug__" : Str)) = false := by decide)
    (he : starEach (e :: es) X.env = (false, eval e X.env) :: starEach es X.env := by rfl) (hpl : (backTo pos (starEach es X.env)).any (·.1) = false := by rfl) : QO X Γ (.Call (.Name x p) (e :: es) [] pos) (callL fs i dds fa) :=
  pe_weak (pe_callX FO hr hg hm hk hb hd (fun σ => passAt tk σ) (pa_cons hv ha he) hdb he hpl) fun σ H Q ⟨B, F, ρ, A, q⟩ => by
    obtain ⟨d0, e0, q1⟩ := After.of (After.bind (o := Out.of ((ρ[i]?).bind mutD) ρ) q)
    obtain ⟨a, ea⟩ := mut_at (Γ := Γ) A e0
    have q0 := After.bind (o := fa ρ) (q1 F H (Same.refl F) A)
    refine ⟨_, ea, B, F, ρ, A, ?_⟩
    cases ho : fa ρ with
    | ok zs ρ1 =>
      rw [ho] at q0
      exact fun F1 H1 s1 A1 vs r => sp_lent (i := i) (by rw [List.length_append, List.length_cons, ← r.length, hal ρ zs ρ1 ho]; exact hlen) A1 ea r rd (q0 F1 H1 s1 A1)
    | exc c ns es ρ1 =>
      rw [ho] at q0
      exact q0
    | stuck =>
      rw [ho] at q0
      exact q0
/-- how many values an argument list gives -/
def LenA (fa : EA) (n : Nat) : Prop := ∀ ρ zs ρ', fa ρ = .ok zs ρ' → zs.length = n
theorem lenA_nil : LenA aNil 0 := fun ρ zs ρ' h => by
  cases h
  rfl
theorem lenA_cons {f : EV} {r : EA} {n : Nat} (h : LenA r n) : LenA (aCons f r) (n + 1) := fun ρ zs ρ' e => by
  unfold aCons at e
  cases h1 : f ρ with
  | ok d ρ1 =>
    rw [h1] at e
    have e2 : ((r ρ1).bind fun ds ρ2 => Out.ok (d :: ds) ρ2) = .ok zs ρ' := e
    cases h2 : r ρ1 with
    | ok ds ρ2 =>
      rw [h2] at e2
      cases e2
      rw [List.length_cons, h ρ1 ds _ h2]
    | exc c ns es ρ2 =>
      rw [h2] at e2
      cases e2
    | stuck =>
      rw [h2] at e2
      cases e2
  | exc c ns es ρ1 =>
    rw [h1] at e
    cases e
  | stuck =>
    rw [h1] at e
    cases e
end
end HM

set_option Elab.async false
set_option linter.all false
set_option maxRecDepth 100000
set_option maxHeartbeats 4000000
/-! HMList: methods of lists of one's own, slices, comprehensions, in, isinstance, sorted, isqrt. -/
namespace HM
open PySem PySem.Spec PyProof.Rows L2

/-! ### methods of a list of one's own -/
def lstAt (i : Nat) (ρ : Rho) : Option (List D) := match (ρ[i]?).bind mutD with
  | some (.lst ds) => some ds
  | _ => none
def appE (i : Nat) (f : EV) : EV := fun ρ => (Out.of (lstAt i ρ) ρ).bind fun _ ρ0 => (f ρ0).bind fun d ρ1 => (Out.of (lstAt i ρ1) ρ1).bind fun ds ρ2 => if small (ds.length + 1) then .ok .non (putAt i (.lst (ds ++ [d])) ρ2) else .stuck
def extE (i : Nat) (f : EV) : EV := fun ρ => (Out.of (lstAt i ρ) ρ).bind fun _ ρ0 => (f ρ0).bind fun d ρ1 => (Out.of (lstAt i ρ1) ρ1).bind fun ds ρ2 => match d with
  | .lst es => if small (ds.length + es.length) then .ok .non (putAt i (.lst (ds ++ es)) ρ2) else .stuck
  | _ => .stuck
def popE (i : Nat) : EV := fun ρ => (Out.of (lstAt i ρ) ρ).bind fun ds ρ0 => (Out.of ds.getLast? ρ0).bind fun d ρ1 => .ok d (putAt i (.lst ds.dropLast) ρ1)
def revE (i : Nat) : EV := fun ρ => (Out.of (lstAt i ρ) ρ).bind fun ds ρ0 => .ok .non (putAt i (.lst ds.reverse) ρ0)
def setIx (i : Nat) (f' f : EV) : SV := fun ρ => (f ρ).stm fun v ρ1 => (Out.of (lstAt i ρ1) ρ1).stm fun _ ρ2 => (f' ρ2).stm fun k ρ3 => (Out.of (lstAt i ρ3) ρ3).stm fun ds ρ4 => match k with
  | .int k => match ixN ds.length k with
    | some j => .nx (putAt i (.lst (ds.set j v)) ρ4)
    | none => .stuck
  | _ => .stuck
section
variable {K : PySem.W.Frag} {ex : L2.St → Hp → Prop} {B : Bs} {F H : Hp} {ρ : Rho} {σ : L2.St} {i : Nat}
theorem lst_at {ds : List D} (A : Agr K ex B F ρ σ H) (h : lstAt i ρ = some ds) : ∃ (s : Sl) (a : Addr) (vs : List V), ρ[i]? = some s ∧ (s = .own (.lst ds) ∨ s = .inp (.lst ds)) ∧ σ[i]? = some (some (.ref a)) ∧ F a = none ∧ H a = some (.lst vs) ∧ Reps K F ds vs := by
  unfold lstAt at h
  split at h
  · rename_i es e
    cases h
    obtain ⟨s0, es0, ed⟩ := Option.bind_eq_some_iff.mp e
    have hd0 : s0 = .own (.lst ds) ∨ s0 = .inp (.lst ds) := by
      cases s0 with
      | own d' =>
        cases ed
        exact Or.inl rfl
      | inp d' =>
        cases ed
        exact Or.inr rfl
      | non => cases ed
      | pnd => cases ed
      | val d' => cases ed
    obtain ⟨a, ea, n, m, vs, hv, rv⟩ := A.own_at es0 hd0
    exact ⟨s0, a, vs, es0, hd0, ea, n, hv, rv⟩
  · cases h
theorem put_lst {s : Sl} {d d' : D} {a : Addr} {ws : List V} {es : List D} (A : Agr K ex B F ρ σ H) (e : ρ[i]? = some s) (hd : s = .own d ∨ s = .inp d) (ea : σ[i]? = some (some (.ref a))) (r : Reps K F es ws) : Agr K ex B F (putAt i (.lst es) ρ) σ (upd H a (.lst ws)) := by
  have h := A.write (u := .lst ws) (d' := .lst es) e hd ea ⟨ws, upd_same, r⟩
  unfold putAt
  rw [e]
  exact h
end
section
variable {X : Cx} {Γ : Gam} {e e' : Expr} {es : List Expr} {f f' : EV} {fa : EA} {pos p : Pos} {x : Str} {i : Nat}
theorem qe_append (h : PE X e (tBM X.K "list" rAppend (tVar i) (tCons (rdE X.K Γ f) tNil))) : QE X Γ e (appE i f) := pe_weak h fun σ H Q ⟨B, F, ρ, A, q⟩ => by
  obtain ⟨ds0, e0, q1⟩ := After.of (After.bind (o := Out.of (lstAt i ρ) ρ) q)
  obtain ⟨s0, a, vs0, es0, hd0, ea, _, hv0, _⟩ := lst_at A e0
  have q2 := After.bind (o := f ρ) (q1 F H (Same.refl F) A)
  refine ⟨_, ea, Or.inl ⟨rfl, vs0, SqL.of hv0⟩, B, F, ρ, A, q2.mono fun d ρ1 F1 H1 s1 A1 q3 v r => ?_⟩
  obtain ⟨ds, e1, q4⟩ := After.of (After.bind (o := Out.of (lstAt i ρ1) ρ1) q3)
  obtain ⟨s, a', vs, es1, hd, ea', n, hv, rv⟩ := lst_at A1 e1
  rw [ea] at ea'
  cases ea'
  have q5 := q4 F1 H1 (Same.refl F1) A1
  split at q5
  · rename_i hz
    exact ⟨a, vs, v, rfl, rfl, hv, by rw [← rv.length]; exact small_lt (show small ds.length = true from decide_eq_true (by have := of_decide_eq_true hz; omega)), q5 F1 _ (Same.refl F1) (put_lst (d' := .non) A1 es1 hd ea (rv.append (reps1 r))) _ rfl⟩
  · exact q5.elim
theorem qe_extend (h : PE X e (tBM X.K "list" rExtend (tVar i) (tCons (rdE X.K Γ f) tNil))) : QE X Γ e (extE i f) := pe_weak h fun σ H Q ⟨B, F, ρ, A, q⟩ => by
  obtain ⟨ds0, e0, q1⟩ := After.of (After.bind (o := Out.of (lstAt i ρ) ρ) q)
  obtain ⟨s0, a, vs0, es0, hd0, ea, _, hv0, _⟩ := lst_at A e0
  have q2 := After.bind (o := f ρ) (q1 F H (Same.refl F) A)
  refine ⟨_, ea, Or.inl ⟨rfl, vs0, SqL.of hv0⟩, B, F, ρ, A, q2.mono fun d ρ1 F1 H1 s1 A1 q3 v r => ?_⟩
  obtain ⟨ds, e1, q4⟩ := After.of (After.bind (o := Out.of (lstAt i ρ1) ρ1) q3)
  obtain ⟨s, a', vs, es1, hd, ea', n, hv, rv⟩ := lst_at A1 e1
  rw [ea] at ea'
  cases ea'
  have q5 := q4 F1 H1 (Same.refl F1) A1
  split at q5
  · split at q5
    · rename_i hz
      obtain ⟨b, ws, eb, hb, rb⟩ := r
      exact ⟨a, b, vs, ws, rfl, by rw [eb], hv, A1.sub _ _ hb, by rw [← rv.length, ← rb.length]; exact small_le hz, q5 F1 _ (Same.refl F1) (put_lst (d' := .non) A1 es1 hd ea (rv.append rb)) _ rfl⟩
    · exact q5.elim
  · exact q5.elim
theorem getLast_ix {α : Type} (xs : List α) : xs.getLast? = xs[xs.length - 1]? := List.getLast?_eq_getElem?
theorem Reps.dropLast {K : PySem.W.Frag} {F : Hp} {ds : List D} {vs : List V} (r : Reps K F ds vs) : Reps K F ds.dropLast vs.dropLast := by
  rw [List.dropLast_eq_take, List.dropLast_eq_take, r.length]
  exact r.take _
theorem qe_pop (h : PE X e (tBM0 X.K "list" rPop (tVar i))) : QE X Γ e (popE i) := pe_weak h fun σ H Q ⟨B, F, ρ, A, q⟩ => by
  obtain ⟨ds, e0, q1⟩ := After.of (After.bind (o := Out.of (lstAt i ρ) ρ) q)
  obtain ⟨s, a, vs, es0, hd, ea, _, hv, rv⟩ := lst_at A e0
  obtain ⟨d, ed, q2⟩ := After.of (After.bind (o := Out.of ds.getLast? ρ) (q1 F H (Same.refl F) A))
  rw [getLast_ix, rv.length] at ed
  obtain ⟨v, hx, rx⟩ := rv.get ed
  exact ⟨_, ea, Or.inl ⟨rfl, vs, SqL.of hv⟩, a, vs, v, rfl, rfl, hv, hx, q2 F H (Same.refl F) A F _ (Same.refl F) (put_lst (d' := .non) A es0 hd ea rv.dropLast) _ rx⟩
theorem qe_reverse (h : PE X e (tBM0 X.K "list" rReverse (tVar i))) : QE X Γ e (revE i) := pe_weak h fun σ H Q ⟨B, F, ρ, A, q⟩ => by
  obtain ⟨ds, e0, q1⟩ := After.of (After.bind (o := Out.of (lstAt i ρ) ρ) q)
  obtain ⟨s, a, vs, es0, hd, ea, _, hv, rv⟩ := lst_at A e0
  exact ⟨_, ea, Or.inl ⟨rfl, vs, SqL.of hv⟩, a, vs, rfl, rfl, hv, q1 F H (Same.refl F) A F _ (Same.refl F) (put_lst (d' := .non) A es0 hd ea rv.reverse) _ rfl⟩
theorem qs_setIx {st : Stmt} (h : PS X st (tAsg (rdE X.K Γ f) (gSub (tVar i) (rdE X.K Γ f') rSetL))) : QS X Γ st (setIx i f' f) := ps_weak h fun E σ H ⟨B, F, ρ, A, q⟩ =>
  ⟨B, F, ρ, A, (AfterS.of (o := f ρ) A q).mono fun d ρ1 F1 H1 s1 A1 q1 v r => by
    obtain ⟨ds0, e0, q2⟩ := After.of (AfterS.of (o := Out.of (lstAt i ρ1) ρ1) A1 q1)
    obtain ⟨s0, a, vs0, es0, hd0, ea, _, hv0, _⟩ := lst_at A1 e0
    exact ⟨_, ea, B, F1, ρ1, A1, (AfterS.of (o := f' ρ1) A1 (q2 F1 H1 (Same.refl F1) A1)).mono fun k ρ3 F3 H3 s3 A3 q3 u ru => by
      obtain ⟨ds, e1, q4⟩ := After.of (AfterS.of (o := Out.of (lstAt i ρ3) ρ3) A3 q3)
      obtain ⟨s, a', vs, es1, hd, ea', n, hv, rv⟩ := lst_at A3 e1
      rw [ea] at ea'
      cases ea'
      have q5 := q4 F3 H3 (Same.refl F3) A3
      cases k with
      | int k =>
        have q6 : AfterS X.K Γ B F3 E (match ixN ds.length k with
          | some j => .nx (putAt i (.lst (ds.set j d)) ρ3)
          | none => .stuck) := q5
        cases hj : ixN ds.length k with
        | none =>
          rw [hj] at q6
          exact q6.elim
        | some j =>
          rw [hj] at q6
          exact ⟨a, vs, k, j, rfl, ru, hv, by rw [← rv.length]; exact hj, q6 F3 σ _ (Same.refl F3) (put_lst (d' := .non) A3 es1 hd ea (Reps.set j rv (Rep.mono s3 _ _ r)))⟩
      | _ => exact q5.elim⟩⟩

/-! ### slices -/
abbrev EP1 := Rho → Out (Option Int)
def noP : EP1 := fun ρ => .ok none ρ
def intP (f : EV) : EP1 := fun ρ => (f ρ).bind fun d ρ1 => match d with
  | .int i => .ok (some i) ρ1
  | _ => .stuck
def rdP (K : PySem.W.Frag) (Γ : Gam) (f : EP1) : TO := fun σ H Q => ∃ B F ρ, Agr K Γ.ex B F ρ σ H ∧ After K Γ B F σ (f ρ) fun o _ _ H' => Q o H'
def QP (X : Cx) (Γ : Gam) (e : Option Expr) (f : EP1) : Prop := PO X e (rdP X.K Γ f)
theorem po_weak {e : Option Expr} {t t' : TO} (h : PO X e t) (w : ∀ σ H Q, t' σ H Q → t σ H Q) : PO X e t' := ⟨fun pins s σ H Q I q => h.run pins s σ H Q I (w σ H Q q)⟩
theorem qp_none : QP X Γ none noP := po_weak po_none fun σ H Q ⟨B, F, ρ, A, q⟩ => q F H (Same.refl F) A
theorem qp_some (h : QE X Γ e f) : QP X Γ (some e) (intP f) := po_weak (po_some h) fun σ H Q ⟨B, F, ρ, A, q⟩ => ⟨B, F, ρ, A, (After.bind (o := f ρ) q).mono fun d ρ1 F1 H1 s1 A1 q1 v r => by
  cases d with
  | int i => exact ⟨i, r, q1 F1 H1 (Same.refl F1) A1⟩
  | _ => exact q1.elim⟩
def cutD (ds : List D) (lo hi : Option Int) : List D := (ds.drop (HT.sIx ds.length 0 lo)).take (HT.sIx ds.length ds.length hi - HT.sIx ds.length 0 lo)
theorem Reps.cut {K : PySem.W.Frag} {F : Hp} {ds : List D} {vs : List V} (r : Reps K F ds vs) (lo hi : Option Int) : Reps K F (cutD ds lo hi) (cutV vs lo hi) := by
  unfold cutD cutV
  rw [r.length]
  exact (r.drop _).take _
/-- a slice: of a list a new list, of a tuple a tuple -/
def slcD : D → Option Int → Option Int → Option D
  | .tup ds, lo, hi => some (.tup (cutD ds lo hi))
  | .lst ds, lo, hi => some (.lst (cutD ds lo hi))
  | _, _, _ => none
abbrev rSlc (K : PySem.W.Frag) : V → Option Int → Option Int → Hp → VK → Prop := fun x lo hi H Q => rSlL K x lo hi H Q ∨ rSlA K x lo hi H Q
theorem sl_or {r r' : V → Option Int → Option Int → Hp → VK → Prop} (h : SlR X r) (h' : SlR X r') : SlR X (fun x lo hi H Q => r x lo hi H Q ∨ r' x lo hi H Q) := by
  intro pins s σ H x v vl vu lo hi sl Q I rx hs pl pu hh
  rcases hh with hh | hh
  · exact h pins s σ H x v vl vu lo hi sl Q I rx hs pl pu hh
  · exact h' pins s σ H x v vl vu lo hi sl Q I rx hs pl pu hh
theorem sl_both : SlR X (rSlc X.K) := sl_or sl_list sl_tupA
theorem cut_all {ds : List D} {lo hi : Option Int} (h : HT.sIx ds.length 0 lo = 0 ∧ HT.sIx ds.length ds.length hi = ds.length) : cutD ds lo hi = ds := by
  unfold cutD
  rw [h.1, h.2, List.drop_zero, Nat.sub_zero, List.take_length]
theorem slc_run {K : PySem.W.Frag} {F H : Hp} {d z : D} {v : V} {lo hi : Option Int} {Q : VK} (s : Same F H) (sn : Seen K F H d v) (h : slcD d lo hi = some z) (q : ∀ F' H' v, Grow F H F' H' → Rep K F' z v → Q v H') : rSlc K v lo hi H Q := by
  cases d with
  | tup ds =>
    cases h
    rcases sn with ⟨a, vs, ea, ha, ra⟩ | ⟨a, _, w⟩
    · refine Or.inr ⟨a, vs, ea, tupS s ha, fun hw => ?_, fun _ p hp => q _ _ _ (Grow.alloc s hp) (rep_tup upd_same (Reps.mono (Grow.alloc s hp).f _ _ (ra.cut lo hi)))⟩
      rw [← ra.length] at hw
      rw [cut_all hw] at q
      exact pureQ s (rep_tup ha ra) q
    · exact w.elim
  | lst ds =>
    cases h
    rcases sn with ⟨a, vs, ea, ha, ra⟩ | ⟨a, ea, vs, ha, ra⟩
    · exact Or.inl ⟨a, vs, ea, SqL.of (s _ _ ha), fun p hp => q _ _ _ (Grow.alloc s hp) (rep_lst upd_same (Reps.mono (Grow.alloc s hp).f _ _ (ra.cut lo hi)))⟩
    · exact Or.inl ⟨a, vs, ea, SqL.of ha, fun p hp => q _ _ _ (Grow.alloc s hp) (rep_lst upd_same (Reps.mono (Grow.alloc s hp).f _ _ (ra.cut lo hi)))⟩
  | _ => cases h
def slcE (f : EV) (lo hi : EP1) : EV := fun ρ => (f ρ).bind fun d ρ1 => (lo ρ1).bind fun l ρ2 => (hi ρ2).bind fun h ρ3 => Out.of (slcD d l h) ρ3
def slcV (i : Nat) (lo hi : EP1) : EV := fun ρ => (Out.of (peek i ρ) ρ).bind fun _ ρ1 => (lo ρ1).bind fun l ρ2 => (hi ρ2).bind fun h ρ3 => Out.of ((peek i ρ3).bind fun d => slcD d l h) ρ3
variable {lo hi : Option Expr} {fl fh : EP1} {p2 : Pos}
theorem qe_slice (ha : QE X Γ e f) (hl : QP X Γ lo fl) (hh : QP X Γ hi fh) : QE X Γ (.Subscript e (.Slice lo hi none p2) pos) (slcE f fl fh) :=
  pe_weak (pe_slice sl_both ha hl hh) fun σ H Q ⟨B, F, ρ, A, q⟩ => ⟨B, F, ρ, A, (After.bind (o := f ρ) q).mono fun d ρ1 F1 H1 s1 A1 q1 v r1 => ⟨B, F1, ρ1, A1, (After.bind (o := fl ρ1) q1).mono fun l ρ2 F2 H2 s2 A2 q2 =>
    ⟨B, F2, ρ2, A2, (After.bind (o := fh ρ2) q2).mono fun h ρ3 F3 H3 s3 A3 q3 => by
      obtain ⟨z, ez, q4⟩ := After.of q3
      exact slc_run A3.sub (Or.inl (Rep.mono (s2.trans s3) _ _ r1)) ez fun F' H' w g r => q4 F' H' g.f (A3.grow g Γ.mono) w r⟩⟩⟩
theorem qe_sliceV (ha : PE X e (tVar i)) (hl : QP X Γ lo fl) (hh : QP X Γ hi fh) : QE X Γ (.Subscript e (.Slice lo hi none p2) pos) (slcV i fl fh) :=
  pe_weak (pe_slice sl_both ha hl hh) fun σ H Q ⟨B, F, ρ, A, q⟩ => by
    obtain ⟨d0, e0, q0⟩ := After.of (After.bind (o := Out.of (peek i ρ) ρ) q)
    obtain ⟨v, ev, _⟩ := seen_at A e0
    exact ⟨v, ev, B, F, ρ, A, (After.bind (o := fl ρ) (q0 F H (Same.refl F) A)).mono fun l ρ2 F2 H2 s2 A2 q2 => ⟨B, F2, ρ2, A2, (After.bind (o := fh ρ2) q2).mono fun h ρ3 F3 H3 s3 A3 q3 => by
      obtain ⟨z, ez, q4⟩ := After.of q3
      obtain ⟨d, ed, ez⟩ := Option.bind_eq_some_iff.mp ez
      obtain ⟨v2, ev2, sn⟩ := seen_at A3 ed
      rw [ev] at ev2
      cases ev2
      exact slc_run A3.sub sn ez fun F' H' w g r => q4 F' H' g.f (A3.grow g Γ.mono) w r⟩⟩

/-! ### in, not in, of data -/
def inPy (a : PyData) : PyData → Option Bool
  | .list xs => if SeqAt.shaped a && SeqAt.shaped (.list xs) then some (xs.any fun y => PyData.eqv y a) else none
  | .tuple xs => if SeqAt.shaped a && SeqAt.shaped (.tuple xs) then some (xs.any fun y => PyData.eqv y a) else none
  | _ => none
def inB (d e : D) : Option Bool := match toPy d, toPy e with
  | some a, some c => inPy a c
  | _, _ => none
def inD (neg : Bool) (d e : D) : Option D := (inB d e).map fun b => .bl (if neg then !b else b)
def rInD (K : PySem.W.Frag) (neg : Bool) : R2 := fun x y H Q => ∃ a c b, Dp K H x a ∧ Dp K H y c ∧ inPy a c = some b ∧ Q (.bl (if neg then !b else b)) H
theorem depth_list {xs : List PyData} (h : SeqAt.shaped (.list xs) = true) : PyData.canLayAll0 xs = true ∧ PyData.depthAll xs ≤ 63 := by
  have h1 : PyData.canLay0 (.list xs) = true := SeqAt.canLay_of_shaped h
  have h2 : PyData.depth (.list xs) ≤ 64 := SeqAt.depth_of_shaped h
  simp only [PyData.canLay0] at h1
  simp only [PyData.depth] at h2
  exact ⟨h1, by omega⟩
theorem depth_tuple {xs : List PyData} (h : SeqAt.shaped (.tuple xs) = true) : PyData.canLayAll0 xs = true ∧ PyData.depthAll xs ≤ 63 := by
  have h1 : PyData.canLay0 (.tuple xs) = true := SeqAt.canLay_of_shaped h
  have h2 : PyData.depth (.tuple xs) ≤ 64 := SeqAt.depth_of_shaped h
  simp only [PyData.canLay0] at h1
  simp only [PyData.depth] at h2
  exact ⟨h1, by omega⟩
theorem op_inD (hu : X.A.units + 64 < cLine) : OpR X (compareOp .In) (rInD X.K false) := by
  intro pins s σ H x y v u Q I rx ry h
  obtain ⟨a, c, b, ha, hc, hb, q⟩ := h
  obtain ⟨as, r1⟩ := Dp.reads I a x v ha rx
  obtain ⟨bs, r2⟩ := Dp.reads I c y u hc ry
  unfold inPy at hb
  split at hb
  · split at hb
    · rename_i xs hz
      obtain ⟨z1, z2⟩ := Bool.and_eq_true_iff.mp hz
      obtain ⟨k1, k2⟩ := depth_list z2
      cases hb
      exact SeqAt.in_list_reads r2 r1 k1 (SeqAt.canLay_of_shaped z1) (by have := Nat.min_le_left (PyData.depthAll xs) a.depth; omega) ⟨.bl _, H, I, rfl, q⟩
    · cases hb
  · split at hb
    · rename_i xs hz
      obtain ⟨z1, z2⟩ := Bool.and_eq_true_iff.mp hz
      obtain ⟨k1, k2⟩ := depth_tuple z2
      cases hb
      exact SeqAt.in_tuple_reads r2 r1 k1 (SeqAt.canLay_of_shaped z1) (by have := Nat.min_le_left (PyData.depthAll xs) a.depth; omega) ⟨.bl _, H, I, rfl, q⟩
    · cases hb
  · cases hb
theorem op_notInD (hu : X.A.units + 64 < cLine) : OpR X (compareOp .NotIn) (rInD X.K true) := by
  intro pins s σ H x y v u Q I rx ry h
  obtain ⟨a, c, b, ha, hc, hb, q⟩ := h
  obtain ⟨as, r1⟩ := Dp.reads I a x v ha rx
  obtain ⟨bs, r2⟩ := Dp.reads I c y u hc ry
  unfold inPy at hb
  split at hb
  · split at hb
    · rename_i xs hz
      obtain ⟨z1, z2⟩ := Bool.and_eq_true_iff.mp hz
      obtain ⟨k1, k2⟩ := depth_list z2
      cases hb
      exact SeqAt.notIn_list_reads r2 r1 k1 (SeqAt.canLay_of_shaped z1) (by have := Nat.min_le_left (PyData.depthAll xs) a.depth; omega) ⟨.bl _, H, I, rfl, q⟩
    · cases hb
  · split at hb
    · rename_i xs hz
      obtain ⟨z1, z2⟩ := Bool.and_eq_true_iff.mp hz
      obtain ⟨k1, k2⟩ := depth_tuple z2
      cases hb
      exact SeqAt.notIn_tuple_reads r2 r1 k1 (SeqAt.canLay_of_shaped z1) (by have := Nat.min_le_left (PyData.depthAll xs) a.depth; omega) ⟨.bl _, H, I, rfl, q⟩
    · cases hb
  · cases hb
theorem o_in {K : PySem.W.Frag} {neg : Bool} : Op2 K (rInD K neg) (inD neg) := fun d e z ez F H x y Q s r1 r2 q => by
  obtain ⟨b, e1, e2⟩ := Option.map_eq_some_iff.mp ez
  unfold inB at e1
  split at e1
  · rename_i a c h1 h2
    subst e2
    exact ⟨a, c, b, dp_of s d a x h1 r1, dp_of s e c y h2 r2, e1, pureQ s rep_b q⟩
  · cases e1

/-! ### isinstance(x, T), T a built-in class -/
def notIns : D → Prop
  | .ins _ _ _ => False
  | _ => True
theorem tyx_seen {K : PySem.W.Frag} {F H : Hp} (s : Same F H) : ∀ {d : D} {v : V} {T : String} {b : Bool}, Seen K F H d v → notIns d → TyX K H v (.type (clsD d))
  | .non, _, _, _, h, _ => by
    rcases h with r | ⟨a, _, w⟩
    · rw [show _ = V.non from r]
      exact .base .non
    · exact w.elim
  | .bl b, _, _, _, h, _ => by
    rcases h with r | ⟨a, _, w⟩
    · rw [show _ = V.bl b from r]
      exact .base (.bl b)
    · exact w.elim
  | .int i, _, _, _, h, _ => by
    rcases h with r | ⟨a, _, w⟩
    · rw [show _ = V.int i from r]
      exact .base (.int i)
    · exact w.elim
  | .str z, _, _, _, h, _ => by
    rcases h with r | ⟨a, _, w⟩
    · rw [show _ = V.str z from r]
      exact .base (.str z)
    · exact w.elim
  | .tup ds, _, _, _, h, _ => by
    rcases h with ⟨a, vs, ea, ha, ra⟩ | ⟨a, _, w⟩
    · rw [ea]
      exact .base (.tup (s _ _ ha))
    · exact w.elim
  | .ktp ds, _, _, _, h, _ => by
    rcases h with ⟨a, vs, ea, (ha | ⟨o, ha⟩) | hk, ra⟩ | ⟨a, _, w⟩
    · rw [ea]
      exact .base (.tup (s _ _ ha))
    · rw [ea]
      exact .fTuple (s _ _ ha)
    · rw [ea]
      obtain ⟨o, its, n, e1, e2, _⟩ := hk
      exact .kTuple e1 e2
    · exact w.elim
  | .lst ds, _, _, _, h, _ => by
    rcases h with ⟨a, vs, ea, ha, ra⟩ | ⟨a, ea, vs, ha, ra⟩
    · rw [ea]
      exact .base (.lst (s _ _ ha))
    · rw [ea]
      exact .base (.lst ha)
  | .scr ns, _, _, _, h, _ => by
    rcases h with ⟨a, ea, (ha | ⟨o, ha⟩) | hk⟩ | ⟨a, _, w⟩
    · rw [ea]
      exact .base (.lst (s _ _ ha))
    · rw [ea]
      exact .base (.frz (s _ _ ha))
    · rw [ea]
      obtain ⟨o, its, n, e1, e2, _⟩ := hk
      exact .kList e1 e2
    · exact w.elim
  | .ins _ _ _, _, _, _, _, h => h.elim
def isT (T : String) (d : D) : Option D := match d with
  | .ins _ _ _ => none
  | d => (kitB (clsD d) T).map .bl
/-- isinstance(e, T): the class is a constant -/
def isInst (T : String) (f : EV) : EV := op1 (isT T) f
theorem qe_isinst {T : String} {tc : TE} (hc : PE X e' tc) (htc : ∀ σ H Q, Q (.ty T) H → tc σ H Q) (hg : Gl X "isinstance") (hm : X.mg "isinstance" = none) (ha : QE X Γ e f)
    (hs : starEach [e, e'] X.env = (false, eval e X.env) :: starEach [e'] X.env := by rfl) (hs2 : starEach [e'] X.env = (false, eval e' X.env) :: starEach [] X.env := by rfl) (hpl : (backTo pos (starEach [e'] X.env)).any (·.1) = false := by rfl) :
    QE X Γ (.Call (.Name "isinstance" p) [e, e'] [] pos) (isInst T f) :=
  pe_weak (pe_callB call_isi hg hm (by decide +kernel) (pa_cons ha (pa_cons hc pa_nil hs2) hs) (by decide) (by decide) hs hpl) fun σ H Q ⟨B, F, ρ, A, q⟩ => ⟨B, F, ρ, A, (After.bind (o := f ρ) q).mono fun d ρ1 F1 H1 s1 A1 q1 v r => by
    obtain ⟨z, ez, q2⟩ := After.of q1
    refine htc _ _ _ ?_
    have go : notIns d ∧ ∃ b, kitB (clsD d) T = some b ∧ z = .bl b := by
      unfold isT at ez
      cases d <;> first
        | (cases ez; done)
        | (obtain ⟨b, e1, e2⟩ := Option.map_eq_some_iff.mp ez
           exact ⟨trivial, b, e1, e2.symm⟩)
    obtain ⟨h0, b, hb, ez2⟩ := go
    subst ez2
    exact ⟨v, .ty T, _, _, b, rfl, .ty T, tyx_seen (T := T) (b := b) A1.sub (Or.inl r) h0, kit_ty hb, q2 F1 H1 (Same.refl F1) A1 _ rep_b⟩⟩
end
end HM

set_option Elab.async false
set_option linter.all false
set_option maxRecDepth 100000
set_option maxHeartbeats 4000000
/-! HMComp: list comprehensions; sorted of pairs; isqrt. -/
namespace HM
open PySem PySem.Spec PyProof.Rows L2

/-! ### a further thing that is kept aside (the list that a comprehension makes) -/
section
variable {K : PySem.W.Frag} {ex : L2.St → Hp → Prop} {B : Bs} {F H : Hp} {ρ : Rho} {σ : L2.St} {p : Addr} {o o' : HO}
abbrev Bs.guard (B : Bs) (p : Addr) (o : HO) : Bs := ⟨B.pin, upd B.G p o, B.F0⟩
theorem own_ne (A : Agr K ex B F ρ σ H) (hp : H p = none) {i : Nat} {s : Sl} {u : Option V} (e : ρ[i]? = some s) (hu : σ[i]? = some u) (hm : s.mut = true) : u ≠ some (.ref p) := fun z => by
  obtain ⟨d, hd⟩ : ∃ d, s = .own d ∨ s = .inp d := by
    cases s with
    | own d => exact ⟨d, Or.inl rfl⟩
    | inp d => exact ⟨d, Or.inr rfl⟩
    | non => cases hm
    | pnd => cases hm
    | val d => cases hm
  obtain ⟨a, ea, _, _, w⟩ := A.own_at e hd
  rw [hu, z] at ea
  cases ea
  obtain ⟨v, ev⟩ := w.there
  rw [hp] at ev
  cases ev
theorem Agr.guard_new (A : Agr K ex B F ρ σ H) (hp : H p = none) : Agr K ex (B.guard p o) F ρ σ (upd H p o) := by
  have hF := A.sub.free hp
  refine ⟨A.sub.trans (same_upd hp), same_upd2 A.ground, A.from0, fun a u e => ?_, A.extra, A.len, fun i s u e1 e2 => ?_, A.inj⟩
  · rcases A.new a u e with q | q
    · exact Or.inl q
    · have ha : a ≠ p := ne_of_none e hF
      exact Or.inr ((upd_ne ha).trans q)
  · have h := A.ok i s u e1 e2
    have ne : ∀ {a : Addr}, u = some (.ref a) → s.mut = true → a ≠ p := fun {a} eu hm z => own_ne A hp e1 e2 hm (by rw [eu, z])
    cases s with
    | non => trivial
    | pnd => exact h
    | val d => exact h
    | own d =>
      obtain ⟨a, ea, n, m, w⟩ := h
      exact ⟨a, ea, n, (upd_ne (ne ea rfl)).trans m, w.mono (Same.refl F) (upd_ne (ne ea rfl))⟩
    | inp d =>
      obtain ⟨pn, a, ea, n, m, w⟩ := h
      exact ⟨pn, a, ea, n, (upd_ne (ne ea rfl)).trans m, w.mono (Same.refl F) (upd_ne (ne ea rfl))⟩
theorem Agr.guard_at (A : Agr K ex (B.guard p o) F ρ σ H) : H p = some o := A.ground p o upd_same
theorem Agr.guard_free (A : Agr K ex (B.guard p o) F ρ σ H) (h0 : B.F0 p = none) : F p = none := by
  cases e : F p with
  | none => rfl
  | some u =>
    rcases A.new p u e with q | q
    · rw [h0] at q
      cases q
    · have q' : upd B.G p o p = none := q
      rw [upd_same] at q'
      cases q'
theorem Agr.guard_set (A : Agr K ex (B.guard p o) F ρ σ H) (h0 : B.F0 p = none) : Agr K ex (B.guard p o') F ρ σ (upd H p o') := by
  have hF := A.guard_free h0
  refine ⟨fun a u e => ?_, fun a u e => ?_, A.from0, fun a u e => ?_, A.extra, A.len, fun i s u e1 e2 => ?_, A.inj⟩
  · rw [upd_ne (ne_of_none e hF)]
    exact A.sub a u e
  · by_cases ha : a = p
    · subst ha
      have e' : upd B.G a o' a = some u := e
      rw [upd_same] at e' ⊢
      exact e'
    · have e' : upd B.G p o' a = some u := e
      rw [upd_ne ha] at e' ⊢
      exact A.ground a u ((upd_ne ha).trans e')
  · have ha : a ≠ p := ne_of_none e hF
    rcases A.new a u e with q | q
    · exact Or.inl q
    · have q' : upd B.G p o a = none := q
      rw [upd_ne ha] at q'
      exact Or.inr ((upd_ne ha).trans q')
  · have h := A.ok i s u e1 e2
    have ne : ∀ {a : Addr}, upd B.G p o a = none → a ≠ p := fun {a} m z => by
      rw [z, upd_same] at m
      cases m
    cases s with
    | non => trivial
    | pnd => exact h
    | val d => exact h
    | own d =>
      obtain ⟨a, ea, n, m, w⟩ := h
      have m' : upd B.G p o a = none := m
      have na := ne m'
      rw [upd_ne na] at m'
      exact ⟨a, ea, n, (upd_ne na).trans m', w.mono (Same.refl F) (upd_ne na)⟩
    | inp d =>
      obtain ⟨pn, a, ea, n, m, w⟩ := h
      have m' : upd B.G p o a = none := m
      have na := ne m'
      rw [upd_ne na] at m'
      exact ⟨pn, a, ea, n, (upd_ne na).trans m', w.mono (Same.refl F) (upd_ne na)⟩
theorem Agr.guard_drop {vs : List V} {ds : List D} (A : Agr K ex (B.guard p (.lst vs)) F ρ σ H) (h0 : B.F0 p = none) (hG : B.G p = none) (r : Reps K F ds vs) : Agr K ex B F ρ σ H ∧ ResOk K B F ρ σ H (.own (.lst ds)) (.ref p) := by
  have hF := A.guard_free h0
  have un : ∀ {a : Addr}, upd B.G p (.lst vs) a = none → a ≠ p ∧ B.G a = none := fun {a} m => by
    have na : a ≠ p := fun z => by
      rw [z, upd_same] at m
      cases m
    rw [upd_ne na] at m
    exact ⟨na, m⟩
  refine ⟨⟨A.sub, fun a u e => ?_, A.from0, fun a u e => ?_, A.extra, A.len, fun i s u e1 e2 => ?_, A.inj⟩, p, rfl, hF, hG, ⟨vs, A.guard_at, r⟩, fun i s e hm es => ?_⟩
  · have na : a ≠ p := ne_of_none e hG
    exact A.ground a u ((upd_ne na).trans e)
  · rcases A.new a u e with q | q
    · exact Or.inl q
    · exact Or.inr (un q).2
  · have h := A.ok i s u e1 e2
    cases s with
    | non => trivial
    | pnd => exact h
    | val d => exact h
    | own d =>
      obtain ⟨a, ea, n, m, w⟩ := h
      exact ⟨a, ea, n, (un m).2, w⟩
    | inp d =>
      obtain ⟨pn, a, ea, n, m, w⟩ := h
      exact ⟨pn, a, ea, n, (un m).2, w⟩
  · obtain ⟨d, hd⟩ : ∃ d, s = .own d ∨ s = .inp d := by
      cases s with
      | own d => exact ⟨d, Or.inl rfl⟩
      | inp d => exact ⟨d, Or.inr rfl⟩
      | non => cases hm
      | pnd => cases hm
      | val d => cases hm
    obtain ⟨a, ea, _, m, _⟩ := A.own_at e hd
    rw [es] at ea
    cases ea
    exact (un m).1 rfl
/-- the block's names are forgotten -/
def wipeR (ρ : Rho) : List Nat → Rho
  | [] => ρ
  | v :: vs => (wipeR ρ vs).set v .non
theorem Agr.wipes : ∀ {ρ : Rho} {σ : L2.St} (vs : List Nat), Agr K ex B F ρ σ H → Agr K ex B F (wipeR ρ vs) (wipe σ vs) H
  | _, _, [], A => A
  | _, _, v :: vs, A => (Agr.wipes vs A).forget
/-- they are what they were -/
def keepV : Option Sl → Sl
  | some (.val d) => .val d
  | _ => .non
def unwipe (ρ1 : Rho) : List Nat → Rho → Rho
  | [], ρ => ρ
  | v :: vs, ρ => unwipe ρ1 vs (ρ.set v (keepV ρ1[v]?))
theorem wipe_ne {σ : L2.St} {i : Nat} : ∀ {vs : List Nat}, i ∉ vs → (wipe σ vs)[i]? = σ[i]?
  | [], _ => rfl
  | v :: vs, h => by
    have h1 : v ≠ i := fun z => h (by rw [z]; exact List.mem_cons_self)
    show ((wipe σ vs).set v none)[i]? = σ[i]?
    rw [List.getElem?_set_ne h1]
    exact wipe_ne fun z => h (List.mem_cons_of_mem _ z)
theorem set_back {τ : L2.St} {v : Nat} {o : Option V} : (τ.set v none).set v ((τ[v]?).getD o) = τ := by
  apply List.ext_getElem?
  intro j
  by_cases hj : j = v
  · subst hj
    by_cases hl : j < τ.length
    · rw [List.getElem?_set_self (by rw [List.length_set]; exact hl), List.getElem?_eq_getElem hl]
      rfl
    · rw [List.getElem?_eq_none (by rw [List.length_set, List.length_set]; omega), List.getElem?_eq_none (by omega)]
  · rw [List.getElem?_set_ne (Ne.symm hj), List.getElem?_set_ne (Ne.symm hj)]
theorem Agr.unwipes {ρ1 : Rho} {σ : L2.St} : ∀ {vs : List Nat} {ρ : Rho}, vs.Nodup → (∀ (i : Nat) (d : D), ρ1[i]? = some (Sl.val d) → ∃ v, σ[i]? = some (some v) ∧ Rep K F d v) → Agr K ex B F ρ (wipe σ vs) H → Agr K ex B F (unwipe ρ1 vs ρ) σ H
  | [], _, _, _, A => A
  | v :: vs, ρ, hn, hv, A => by
    obtain ⟨n1, n2⟩ := List.nodup_cons.mp hn
    have A0 : Agr K ex B F (ρ.set v .non) (wipe σ vs) H := by
      have q := Agr.forget (i := v) (o := ((wipe σ vs)[v]?).getD none) (show Agr K ex B F ρ ((wipe σ vs).set v none) H from A)
      rw [set_back] at q
      exact q
    have A1 : Agr K ex B F (ρ.set v (keepV ρ1[v]?)) (wipe σ vs) H := by
      unfold keepV
      split
      · rename_i d e
        obtain ⟨w, ew, rw'⟩ := hv v d e
        have q := A0.assign (i := v) (s := .val d) (v := w) rw'
        have e2 : (wipe σ vs).set v (some w) = wipe σ vs := by
          have e3 : (wipe σ vs)[v]? = some (some w) := (wipe_ne n1).trans ew
          apply List.ext_getElem?
          intro j
          by_cases hj : j = v
          · subst hj
            rw [List.getElem?_set_self ((List.getElem?_eq_some_iff.mp e3).1), e3]
          · rw [List.getElem?_set_ne (Ne.symm hj)]
        rw [List.set_set, e2] at q
        exact q
      · exact A0
    exact Agr.unwipes (vs := vs) (ρ := ρ.set v (keepV ρ1[v]?)) n2 hv A1
end

theorem wipe_get {σ : L2.St} {i : Nat} : ∀ {vs : List Nat}, i ∈ vs → i < σ.length → (wipe σ vs)[i]? = some none
  | [], h, _ => by cases h
  | v :: vs, h, hl => by
    show ((wipe σ vs).set v none)[i]? = some none
    by_cases hv : v = i
    · subst hv
      rw [List.getElem?_set_self (by rw [wipe_length]; exact hl)]
    · rw [List.getElem?_set_ne hv]
      rcases List.mem_cons.mp h with z | z
      · exact absurd z.symm hv
      · exact wipe_get z hl
/-- a name of the block is stored: wiped, that is nothing -/
theorem wipe_set {σ : L2.St} {i : Nat} {o : Option V} {vs : List Nat} (h : i ∈ vs) : wipe (σ.set i o) vs = wipe σ vs := by
  apply List.ext_getElem?
  intro j
  by_cases hl : j < σ.length
  · by_cases hj : j ∈ vs
    · rw [wipe_get hj (by rw [List.length_set]; exact hl), wipe_get hj hl]
    · have ne : i ≠ j := fun z => hj (z ▸ h)
      rw [wipe_ne hj, wipe_ne hj, List.getElem?_set_ne ne]
  · rw [List.getElem?_eq_none (by rw [wipe_length, List.length_set]; omega), List.getElem?_eq_none (by rw [wipe_length]; omega)]

/-- the turns: the new list's items so far -/
def lcS (t : Tg) (c : EB) (f : EV) (vs : List Nat) : List D → Rho → List D → Out (List D)
  | [], ρ, acc => .ok acc ρ
  | d :: ds, ρ, acc => match t d ρ with
    | none => .stuck
    | some ρ1 => match c ρ1 with
      | .ok true ρ2 => match f ρ2 with
        | .ok v ρ3 => if small (acc.length + 1) then lcS t c f vs ds (wipeR ρ3 vs) (acc ++ [v]) else .stuck
        | _ => .stuck
      | .ok false ρ2 => lcS t c f vs ds (wipeR ρ2 vs) acc
      | _ => .stuck
def yesB : EB := fun ρ => .ok true ρ
def lcE (it : EA) (t : Tg) (c : EB) (f : EV) (vs : List Nat) : EO := fun ρ => (it ρ).bind fun ds ρ1 => match lcS t c f vs ds (wipeR ρ1 vs) [] with
  | .ok acc ρ2 => .ok (.own (.lst acc)) (unwipe ρ1 vs ρ2)
  | _ => .stuck
def gamB (Γ : Gam) : Gam := ⟨fun _ _ _ _ => False, Γ.ex, Γ.mono⟩
def QTs (X : Cx) (Γ : Gam) (es : List Expr) (f : EB) : Prop := PTs X es (rdT X.K Γ f)
/-- a target whose names are the block's -/
def rdGw (K : PySem.W.Frag) (Γ : Gam) (vs : List Nat) (t : Tg) : TG := fun v σ H Q => ∃ B F ρ d ρ', Agr K Γ.ex B F ρ σ H ∧ Rep K F d v ∧ t d ρ = some ρ' ∧ ∀ σ', Agr K Γ.ex B F ρ' σ' H → wipe σ' vs = wipe σ vs → Q σ' H
def rdGws (K : PySem.W.Frag) (Γ : Gam) (vs : List Nat) (ts : List Tg) : TGs := fun xs σ H Q => ∃ B F ρ ds ρ', Agr K Γ.ex B F ρ σ H ∧ Reps K F ds xs ∧ tgs ts ds ρ = some ρ' ∧ ∀ σ', Agr K Γ.ex B F ρ' σ' H → wipe σ' vs = wipe σ vs → Q σ' H
def QGw (X : Cx) (Γ : Gam) (vs : List Nat) (e : Expr) (t : Tg) : Prop := PG X e (rdGw X.K Γ vs t)
def QGws (X : Cx) (Γ : Gam) (vs : List Nat) (es : List Expr) (ts : List Tg) : Prop := PGs X es (rdGws X.K Γ vs ts)
section
variable {X : Cx} {Γ : Gam} {e e' : Expr} {es : List Expr} {f f' : EV} {fa : EA} {g : EB} {pos p : Pos} {x : Str} {i : Nat} {vs : List Nat} {t : Tg} {ts : List Tg}
theorem pts_weak {e : List Expr} {t t' : TT} (h : PTs X e t) (w : ∀ σ H Q, t' σ H Q → t σ H Q) : PTs X e t' := ⟨fun pins s σ H Q I q => h.run pins s σ H Q I (w σ H Q q)⟩
theorem qts_nil : QTs X Γ [] yesB := pts_weak pts_nil fun σ H Q ⟨B, F, ρ, A, q⟩ => q F H (Same.refl F) A
theorem qts_one (h : QT X Γ e g) : QTs X Γ [e] g := pts_one h
theorem qgw_name (hN : X.N.Nodup) (hi : X.N[i]? = some x) (hx : Loc X.env.scope x) (hm : i ∈ vs) (hf : X.fn x = true ∨ X.env.scope.names.lookup x = some .local := by first | exact .inl rfl | exact .inr rfl | assumption) : QGw X Γ vs (.Name x pos) (tgN i) :=
  pg_weak (pg_name hN hi hx hf) fun v σ H Q ⟨B, F, ρ, d, ρ', A, r, et, q⟩ => by
    cases et
    exact q _ (A.assign (s := .val d) r) (wipe_set hm)
theorem qgws_nil : QGws X Γ vs [] [] := pgs_weak pgs_nil fun xs σ H Q ⟨B, F, ρ, ds, ρ', A, r, et, q⟩ => by
  cases ds with
  | nil =>
    cases et
    exact ⟨r, q σ A rfl⟩
  | cons d ds => cases et
theorem qgws_cons (h1 : QGw X Γ vs e t) (h2 : QGws X Γ vs es ts) (hs : (assignEach (e :: es) X.env).map (·.2) = assign e X.env :: (assignEach es X.env).map (·.2) := by rfl) : QGws X Γ vs (e :: es) (t :: ts) :=
  pgs_weak (pgs_cons h1 h2 hs) fun xs σ H Q ⟨B, F, ρ, ds, ρ', A, r, et, q⟩ => by
    cases ds with
    | nil => cases et
    | cons d ds =>
      obtain ⟨v, ws, ev, r1, r2⟩ := r
      obtain ⟨ρ1, e1, e2⟩ := Option.bind_eq_some_iff.mp (show (t d ρ).bind (tgs ts ds) = some ρ' from et)
      exact ⟨v, ws, ev, B, F, ρ, d, ρ1, A, r1, e1, fun σ1 A1 w1 => ⟨B, F, ρ1, ds, ρ', A1, r2, e2, fun σ2 A2 w2 => q σ2 A2 (w2.trans w1)⟩⟩
theorem qgw_tup {k : Nat} (hc : X.calm = true) (h : QGws X Γ vs es ts) (hn : (assignEach es X.env).length = ts.length := by rfl) (hst : (assignEach es X.env).findIdx? (·.1) = none := by rfl) : QGw X Γ vs (.Tuple es k pos) (tgT ts) :=
  pg_weak (pg_tup hc h hn hst) fun v σ H Q ⟨B, F, ρ, d, ρ', A, r, et, q⟩ => by
    cases d with
    | tup ds =>
      obtain ⟨a, xs, ea, ha, ra⟩ := r
      have l := tgs_len (show tgs ts ds ρ = some ρ' from et)
      exact ⟨a, xs, ea, tupS A.sub ha, by rw [← ra.length]; exact l, B, F, ρ, ds, ρ', A, ra, et, q⟩
    | _ => cases et
theorem lc_run (hn : vs.Nodup) {σ : L2.St} {H : Hp} {Q : VK} (h : rdO X.K Γ (lcE fa t g f vs) σ H Q) :
    tLc (rdI X.K Γ fa) (rdGw X.K (gamB Γ) vs t) (rdT X.K (gamB Γ) g) (rdE X.K (gamB Γ) f) vs σ H Q := by
  obtain ⟨B, F, ρ, A, q⟩ := h
  refine ⟨B, F, ρ, A, (After.bind (o := fa ρ) q).mono fun ds ρ1 F1 H1 s1 A1 q1 J hJ D hD => ?_⟩
  have h0 : B.F0 D = none := A1.from0.free (A1.sub.free hD)
  have hG : B.G D = none := A1.ground.free hD
  cases hl : lcS t g f vs ds (wipeR ρ1 vs) [] with
  | exc c ns es ρ2 =>
    rw [hl] at q1
    exact q1.elim
  | stuck =>
    rw [hl] at q1
    exact q1.elim
  | ok accL ρE =>
    rw [hl] at q1
    have q2 : After X.K Γ B F1 σ (.ok (.own (.lst accL)) (unwipe ρ1 vs ρE)) fun s ρ' F' H' => ∀ v, ResOk X.K B F' ρ' σ H' s v → Q v H' := q1
    refine ⟨fun i m H => m = ds.length - i ∧ i ≤ ds.length ∧ ∃ F ρ acc vacc, Same F1 F ∧ Agr X.K Γ.ex (B.guard D (.lst vacc)) F ρ (wipe σ vs) H ∧ Reps X.K F acc vacc ∧ lcS t g f vs (ds.drop i) ρ acc = .ok accL ρE,
      ⟨ds.length, by simp, Nat.zero_le _, F1, wipeR ρ1 vs, [], [], Same.refl F1, (A1.wipes vs).guard_new hD, rfl, hl⟩, ?_⟩
    rintro i m H ⟨rfl, hi, F, ρ, acc, vacc, sF, A, ra, el⟩
    obtain ⟨j1, j2⟩ := hJ i F H sF A.sub
    by_cases hlt : i < ds.length
    · obtain ⟨go, yl⟩ := j1 ds[i] (List.getElem?_eq_getElem hlt)
      refine Or.inr ⟨go, fun H' => i + 1 ≤ ds.length ∧ ∃ F ρ acc vacc, Same F1 F ∧ Agr X.K Γ.ex (B.guard D (.lst vacc)) F ρ (wipe σ vs) H' ∧ Reps X.K F acc vacc ∧ lcS t g f vs (ds.drop (i + 1)) ρ acc = .ok accL ρE, fun H' z => ⟨ds.length - (i + 1), by omega, rfl, z⟩, fun x H' y => ?_⟩
      obtain ⟨F', gr, rx⟩ := yl x H' y
      rw [List.drop_eq_getElem_cons hlt] at el
      unfold lcS at el
      cases et : t ds[i] ρ with
      | none =>
        rw [et] at el
        cases el
      | some ρ2 =>
        rw [et] at el
        dsimp only at el
        have A' := A.grow gr Γ.mono
        have hww : ∀ {σ2 : L2.St}, wipe σ2 vs = wipe (wipe σ vs) vs → wipe σ2 vs = wipe σ vs := fun {σ2} z => by
          rw [z]
          apply List.ext_getElem?
          intro j
          by_cases hlj : j < σ.length
          · by_cases hj : j ∈ vs
            · rw [wipe_get hj (by rw [wipe_length]; exact hlj), wipe_get hj hlj]
            · rw [wipe_ne hj]
          · rw [List.getElem?_eq_none (by rw [wipe_length, wipe_length]; omega), List.getElem?_eq_none (by rw [wipe_length]; omega)]
        refine ⟨B.guard D (.lst vacc), F', ρ, ds[i], ρ2, A', rx, et, fun σ2 A2 w2 => ⟨hww w2, B.guard D (.lst vacc), F', ρ2, A2, ?_⟩⟩
        cases eg : g ρ2 with
        | exc c ns es ρ3 =>
          rw [eg] at el
          cases el
        | stuck =>
          rw [eg] at el
          cases el
        | ok b ρ3 =>
          rw [eg] at el
          intro F3 H3 s3 A3
          cases b with
          | false =>
            have w3 := A3.wipes vs
            rw [hww w2] at w3
            exact iteF ⟨by omega, F3, wipeR ρ3 vs, acc, vacc, (sF.trans gr.f).trans s3, w3, Reps.mono (gr.f.trans s3) _ _ ra, el⟩
          | true =>
            refine iteT ⟨B.guard D (.lst vacc), F3, ρ3, A3, ?_⟩
            dsimp only at el
            cases ef : f ρ3 with
            | exc c ns es ρ4 =>
              rw [ef] at el
              cases el
            | stuck =>
              rw [ef] at el
              cases el
            | ok d ρ4 =>
              rw [ef] at el
              have el2 : (if small (acc.length + 1) then lcS t g f vs (ds.drop (i + 1)) (wipeR ρ4 vs) (acc ++ [d]) else .stuck) = .ok accL ρE := el
              split at el2
              · rename_i hz
                intro F4 H4 s4 A4 v rv
                have ra4 := Reps.mono ((gr.f.trans s3).trans s4) _ _ ra
                have w4 := (A4.guard_set (o' := .lst (vacc ++ [v])) h0).wipes vs
                rw [hww w2] at w4
                exact ⟨vacc, A4.guard_at, by rw [← ra.length]; exact small_lt (show small acc.length = true from decide_eq_true (by have := of_decide_eq_true hz; omega)), by omega, F4, wipeR ρ4 vs, acc ++ [d], vacc ++ [v], ((sF.trans gr.f).trans s3).trans s4, w4, ra4.append (reps1 rv), el2⟩
              · cases el2
    · have e : i = ds.length := by omega
      subst e
      rw [List.drop_length] at el
      cases el
      have A3 : Agr X.K Γ.ex (B.guard D (.lst vacc)) F (unwipe ρ1 vs ρE) σ H := Agr.unwipes hn (fun i d e => by
        obtain ⟨v, ev, r⟩ := A1.val_at e
        exact ⟨v, ev, Rep.mono sF _ _ r⟩) A
      obtain ⟨A4, r4⟩ := A3.guard_drop h0 hG ra
      exact Or.inl ⟨j2 (Nat.le_refl _), q2 F H sF A4 _ r4⟩
theorem qo_lc {elt tg iter : Expr} {ifs : List Expr} {scope : Scope} {own : List (Str × Nat)} (hc : X.calm = true) (hN : X.N.Nodup) (hn : (own.map (·.2)).Nodup) (hi : QI X Γ tg iter fa) (ok : BlkOk X.N X.env.scope scope own)
    (hg : ∀ (s : Shared) (H : Hp) (C : Addr) (cl : List (Str × Addr)) (fp : List Addr), QGw (X.blk s H scope (compEnvC scope cl C X.env) fp) (gamB Γ) (own.map (·.2)) tg t)
    (ht : ∀ (s : Shared) (H : Hp) (C : Addr) (cl : List (Str × Addr)) (fp : List Addr), QTs (X.blk s H scope (compEnvC scope cl C X.env) fp) (gamB Γ) ifs g)
    (he : ∀ (s : Shared) (H : Hp) (C : Addr) (cl : List (Str × Addr)) (fp : List Addr), QE (X.blk s H scope (compEnvC scope cl C X.env) fp) (gamB Γ) elt f)
    (hs : ∀ x, foldedSetIterable iter X.env x = pure x := by intro _; rfl) : QO X Γ (.ListComp elt [⟨tg, iter, ifs, 0⟩] scope pos) (lcE fa t g f (own.map (·.2))) :=
  pe_weak (pe_lc (g := rdGw X.K (gamB Γ) (own.map fun q : Str × Nat => q.2) t) (tt := rdT X.K (gamB Γ) g) (te := rdE X.K (gamB Γ) f) hc hN hi ok hg ht he hs) fun σ H Q h => lc_run hn h
theorem qs_setLc {y : Str} {py spos : Pos} {elt tg iter : Expr} {ifs : List Expr} {scope : Scope} {own : List (Str × Nat)} (hc : X.calm = true) (hN : X.N.Nodup) (hn : (own.map (·.2)).Nodup) (hy : X.N[i]? = some y) (hyl : X.env.scope.names.lookup y = some .local)
    (hsw : swapsWith (.ListComp elt [⟨tg, iter, ifs, 0⟩] scope pos) (some (.Name y py)) spos.line X.env = pure true) (hi : QI X Γ tg iter fa) (ok : BlkOk X.N X.env.scope scope own)
    (hg : ∀ (s : Shared) (H : Hp) (C : Addr) (cl : List (Str × Addr)) (fp : List Addr), QGw (X.blk s H scope (compEnvC scope cl C X.env) fp) (gamB Γ) (own.map (·.2)) tg t)
    (ht : ∀ (s : Shared) (H : Hp) (C : Addr) (cl : List (Str × Addr)) (fp : List Addr), QTs (X.blk s H scope (compEnvC scope cl C X.env) fp) (gamB Γ) ifs g)
    (he : ∀ (s : Shared) (H : Hp) (C : Addr) (cl : List (Str × Addr)) (fp : List Addr), QE (X.blk s H scope (compEnvC scope cl C X.env) fp) (gamB Γ) elt f)
    (hs : ∀ x, foldedSetIterable iter X.env x = pure x := by intro _; rfl) : QS X Γ (.Assign [.Name y py] (.ListComp elt [⟨tg, iter, ifs, 0⟩] scope pos) spos) (asg i (lcE fa t g f (own.map (·.2)))) :=
  ps_weak (ps_setLc (g := rdGw X.K (gamB Γ) (own.map fun q : Str × Nat => q.2) t) (tt := rdT X.K (gamB Γ) g) (te := rdE X.K (gamB Γ) f) hc hN hy hyl hsw hi ok hg ht he hs) fun E σ H ⟨B, F, ρ, A, q⟩ =>
    lc_run hn ⟨B, F, ρ, A, (AfterS.of (o := lcE fa t g f (own.map (·.2)) ρ) A q).mono fun s ρ1 F1 H1 s1 A1 q1 v r => q1 F1 _ H1 (Same.refl F1) (A1.assign r)⟩

/-! ### math.isqrt -/
def isqrtD : D → Option D
  | .int a => if 0 ≤ a ∧ a < 2 ^ 64 then some (.int (PySem.Float64.isqrt a.toNat : Nat)) else none
  | _ => none
def rIsqrt : List V → Hp → VK → Prop := fun vs H Q => ∃ a : Int, vs = [.int a] ∧ 0 ≤ a ∧ a < 2 ^ 64 ∧ Q (.int (PySem.Float64.isqrt a.toNat : Nat)) H
theorem cr_isqrt : CallR X (.builtin "math.isqrt") rIsqrt := by
  intro pins s σ H vs us Q I r h
  obtain ⟨a, rfl, h0, h1, q⟩ := h
  obtain ⟨u, rfl, ru⟩ := vals1 r
  obtain ⟨tk, rfl⟩ := ru
  exact PySem.W.mg_isqrt h0 h1 ⟨.int _, H, I.tok _, ⟨_, rfl⟩, q⟩
theorem o_isqrt {K : PySem.W.Frag} : Op1 K (fun x H Q => rIsqrt [x] H Q) isqrtD := fun d z ez F H x Q s r1 q => by
  unfold isqrtD at ez
  split at ez
  · split at ez
    · rename_i a hc
      cases ez
      exact ⟨a, by rw [show x = _ from r1], hc.1, hc.2, pureQ s rep_i q⟩
    · cases ez
  · cases ez
theorem qe_fun1 {id : String} {r : List V → Hp → VK → Prop} {g : D → Option D} (hc : CallR X (.builtin id) r) (hop : Op1 X.K (fun x H Q => r [x] H Q) g) (hg : Gl X x) (hm : X.mg x = some (.builtin id)) (ha : QE X Γ e f)
    (hs : starEach [e] X.env = (false, eval e X.env) :: starEach [] X.env := by rfl) (hdb : (x == ("__debug__" : Str)) = false := by decide) : QE X Γ (.Call (.Name x p) [e] [] pos) (op1 g f) :=
  pe_weak (pe_callBfun hc hg hm (pa_cons ha pa_nil hs) hdb hs (by rfl)) fun σ H Q h => one_run hop h

/-! ### sorted of pairs of ints -/
def pairsOf : List D → Option (List (Int × Int))
  | [] => some []
  | .tup [.int a, .int b] :: ds => (pairsOf ds).map ((a, b) :: ·)
  | _ :: _ => none
def leP (x y : Int × Int) : Bool := !SrtO.lexB y x
def sortP (d : D) : Option (List D) := match d with
  | .lst ds => (pairsOf ds).map fun ps => (ps.mergeSort leP).map fun q => .tup [.int q.1, .int q.2]
  | _ => none
theorem pairs_at {K : PySem.W.Frag} {F : Hp} : ∀ {ds : List D} {ps : List (Int × Int)} {vs : List V}, pairsOf ds = some ps → Reps K F ds vs → ∃ qs : List (Addr × (Int × Int)), qs.map (·.2) = ps ∧ vs = qs.map (fun q => V.ref q.1) ∧ ∀ q ∈ qs, F q.1 = some (.tup [.int q.2.1, .int q.2.2])
  | [], ps, vs, h, r => by
    cases h
    exact ⟨[], rfl, r, fun q hq => by cases hq⟩
  | d :: ds, ps, vs, h, r => by
    obtain ⟨v, ws, ev, r1, r2⟩ := r
    unfold pairsOf at h
    split at h
    · rename_i e
      cases e
    · rename_i a b es e
      cases e
      obtain ⟨ps', e1, e2⟩ := Option.map_eq_some_iff.mp h
      obtain ⟨qs, h1, h2, h3⟩ := pairs_at e1 r2
      obtain ⟨p, us, ea, ha, ra⟩ := r1
      obtain ⟨y, z, eu, ry, rz⟩ := ra.two
      subst ev
      subst eu
      refine ⟨(p, (a, b)) :: qs, by rw [List.map_cons, h1]; exact e2, by rw [List.map_cons, h2, ea], fun q hq => ?_⟩
      rcases List.mem_cons.mp hq with e | hq
      · subst e
        rw [ha, show y = V.int a from ry, show z = V.int b from rz]
      · exact h3 q hq
    · cases h
/-- of equal first parts only the first counts: a function that reads the pair off the address -/
def keyOf (qs : List (Addr × (Int × Int))) : V → Int × Int
  | .ref a => ((qs.lookup a)).getD (0, 0)
  | _ => (0, 0)
theorem keyOf_at {F : Hp} : ∀ {qs : List (Addr × (Int × Int))}, (∀ q ∈ qs, F q.1 = some (.tup [.int q.2.1, .int q.2.2])) → ∀ q ∈ qs, keyOf qs (.ref q.1) = q.2
  | [], _, q, hq => by cases hq
  | (a, ab) :: qs, h, q, hq => by
    show ((match q.1 == a with | true => some ab | false => qs.lookup q.1)).getD (0, 0) = q.2
    cases e : q.1 == a with
    | true =>
      have ea : q.1 = a := eq_of_beq e
      have h1 := h (a, ab) List.mem_cons_self
      have h2 := h q hq
      rw [ea, h1] at h2
      have h3 : [V.int ab.1, V.int ab.2] = [V.int q.2.1, V.int q.2.2] := HO.tup.inj (Option.some.inj h2)
      have h4 : ab.1 = q.2.1 ∧ ab.2 = q.2.2 := by
        simp only [List.cons.injEq, V.int.injEq, and_true] at h3
        exact h3
      show ab = q.2
      exact Prod.ext h4.1 h4.2
    | false =>
      have ne : q.1 ≠ a := fun z => by
        rw [z, beq_self_eq_true] at e
        cases e
      rcases List.mem_cons.mp hq with z | hq
      · rw [z] at ne
        exact absurd rfl ne
      · exact keyOf_at (fun q' hq' => h q' (List.mem_cons_of_mem _ hq')) q hq
theorem reps_of_keys {K : PySem.W.Frag} {F : Hp} {k : V → Int × Int} : ∀ {ys : List V}, (∀ y ∈ ys, ∃ t, y = V.ref t ∧ F t = some (.tup [.int (k y).1, .int (k y).2])) → Reps K F (ys.map fun y => D.tup [.int (k y).1, .int (k y).2]) ys
  | [], _ => rfl
  | y :: ys, h => by
    obtain ⟨t, et, ht⟩ := h y List.mem_cons_self
    refine ⟨y, ys, rfl, ⟨t, _, et, ht, reps_cons rep_i (reps1 rep_i)⟩, reps_of_keys fun z hz => h z (List.mem_cons_of_mem _ hz)⟩
/-- the order of pairs -/
theorem lex_tri {a b : Int × Int} (h1 : SrtO.lexB a b = false) (h2 : SrtO.lexB b a = false) : a = b := by
  have k1 := SrtO.lexB_no.mp h1
  have k2 := SrtO.lexB_no.mp h2
  exact Prod.ext (by omega) (by omega)
theorem lex_uniq : ∀ {l m : List (Int × Int)}, (l.Pairwise fun x y => SrtO.lexB y x = false) → (m.Pairwise fun x y => SrtO.lexB y x = false) → l.Perm m → l = m
  | [], m, _, _, h => h.nil_eq
  | x :: l, [], _, _, h => by
    have := h.length_eq
    cases this
  | x :: l, y :: m, hl, hm, h => by
    obtain ⟨hl1, hl2⟩ := List.pairwise_cons.mp hl
    obtain ⟨hm1, hm2⟩ := List.pairwise_cons.mp hm
    have irr : ∀ z : Int × Int, SrtO.lexB z z = false := fun z => SrtO.lexB_no.mpr (by omega)
    have a1 : SrtO.lexB x y = false := by
      rcases List.mem_cons.mp (h.mem_iff.mp (List.mem_cons_self (a := x) (l := l))) with e | hx
      · rw [e]
        exact irr y
      · exact hm1 x hx
    have a2 : SrtO.lexB y x = false := by
      rcases List.mem_cons.mp (h.mem_iff.mpr (List.mem_cons_self (a := y) (l := m))) with e | hy
      · rw [e]
        exact irr x
      · exact hl1 y hy
    have e := lex_tri a1 a2
    subst e
    rw [lex_uniq hl2 hm2 h.cons_inv]
theorem lex_sorted (ps : List (Int × Int)) : (ps.mergeSort leP).Pairwise fun x y => SrtO.lexB y x = false := by
  have h := List.pairwise_mergeSort (le := leP) (fun a b c h1 h2 => by
    unfold leP at h1 h2 ⊢
    rw [Bool.not_eq_true'] at h1 h2 ⊢
    have k1 := SrtO.lexB_no.mp h1
    have k2 := SrtO.lexB_no.mp h2
    exact SrtO.lexB_no.mpr (by omega)) (fun a b => by
    unfold leP
    rcases h : SrtO.lexB b a with _ | _
    · rfl
    · have k := SrtO.lexB_iff.mp h
      rw [SrtO.lexB_no.mpr (show ¬ (a.1 < b.1 ∨ (a.1 = b.1 ∧ a.2 < b.2)) by omega)]
      rfl) ps
  exact h.imp fun {a b} z => by
    unfold leP at z
    rw [Bool.not_eq_true'] at z
    exact z
theorem o_sortP {K : PySem.W.Frag} : OpV1L K (fun x H Q => rSortedPO K [x] H Q) sortP := fun d z ez F H x Q s sn q => by
  unfold sortP at ez
  split at ez
  · rename_i ds
    obtain ⟨ps, e1, e2⟩ := Option.map_eq_some_iff.mp ez
    obtain ⟨a, vs, ea, hv, rv⟩ : ∃ a vs, x = .ref a ∧ H a = some (.lst vs) ∧ Reps K F ds vs := by
      rcases sn with ⟨a, vs, ea, ha, ra⟩ | ⟨a, ea, vs, ha, ra⟩
      · exact ⟨a, vs, ea, s _ _ ha, ra⟩
      · exact ⟨a, vs, ea, ha, ra⟩
    obtain ⟨qs, k1, k2, k3⟩ := pairs_at e1 rv
    have ks : vs.map (keyOf qs) = ps := by
      rw [k2, List.map_map, ← k1]
      exact List.map_congr_left fun q hq => keyOf_at k3 q hq
    have at_ : ∀ y ∈ vs, ∃ t, y = V.ref t ∧ F t = some (.tup [.int (keyOf qs y).1, .int (keyOf qs y).2]) := fun y hy => by
      rw [k2] at hy
      obtain ⟨q, hq, e⟩ := List.mem_map.mp hy
      subst e
      exact ⟨q.1, rfl, by rw [keyOf_at k3 q hq]; exact k3 q hq⟩
    refine ⟨a, vs, keyOf qs, by rw [ea], SqL.of hv, fun y hy => ?_, fun ys p h1 h2 hp => q p ys hp ?_⟩
    · obtain ⟨t, et, ht⟩ := at_ y hy
      exact ⟨t, et, s _ _ ht⟩
    · have r := reps_of_keys (K := K) (F := F) (k := keyOf qs) (ys := ys) fun y hy => at_ y (h2.perm.mem_iff.mp hy)
      have e3 : ys.map (keyOf qs) = ps.mergeSort leP := by
        refine lex_uniq (List.pairwise_map.mpr h1) (lex_sorted ps) ?_
        have := h2.perm.map (keyOf qs)
        rw [ks] at this
        exact this.trans (List.mergeSort_perm ps leP).symm
      rw [← e2, ← e3, List.map_map]
      exact r
  · cases ez
end
end HM

set_option Elab.async false
set_option linter.all false
set_option maxRecDepth 100000
set_option maxHeartbeats 4000000
/-! HMExc: own errors with fields raised; try with several clauses, named or not. -/
namespace HM
open PySem PySem.Spec PyProof.Rows L2

/-! ### a clause's suite, with a name or without -/
abbrev Clause := Value × Option Nat × (Addr → Value → Option Addr → TS)
def unset (E : Ends) (i : Nat) : Ends := { nx := fun σ H => E.nx (σ.set i none) H, rt := E.rt, bk := fun σ H => E.bk (σ.set i none) H, ct := fun σ H => E.ct (σ.set i none) H }
def wAny (K : PySem.W.Frag) (Wo : WX) (E : Ends) : List Clause → WX
  | [] => Wo
  | (c, none, ts) :: r => fun cls d σ H => ∃ b, PySem.W.exmOne K cls c = some b ∧ (b = true → ∀ a, H a = none → ts a cls d E σ H) ∧ (b = false → wAny K Wo E r cls d σ H)
  | (c, some i, ts) :: r => fun cls d σ H => ∃ b, PySem.W.exmOne K cls c = some b ∧ (b = true → ∀ a, H a = none → ts a cls d (unset E i) (σ.set i (some (.ref a))) H) ∧ (b = false → wAny K Wo E r cls d σ H)
/-- what a suite is shown in -/
def SuiteOk (X : Cx) (ss : List Stmt) (ts : Addr → Value → Option Addr → TS) : Prop :=
  ∀ (a : Addr) (oe : Obj) (cls : Value) (d : Option Addr) (pn : List (Addr × Obj)), Zc cls d oe → (∃ vs, oe.data = .fields vs) → PSs (X.suite a ((a, oe) :: pn)) ss (ts a cls d)
inductive ClsOk (X : Cx) : List ExceptHandler → List Clause → Prop
  | nil : ClsOk X [] []
  | bare {x : Str} {c : Value} {ts : Addr → Value → Option Addr → TS} {b0 : Stmt} {ss : List Stmt} {np pp : Pos} {hs : List ExceptHandler} {l : List Clause} (hc : Names X x c) (hsu : SuiteOk X (b0 :: ss) ts) (r : ClsOk X hs l) :
      ClsOk X (.ExceptHandler (some (.Name x np)) none (b0 :: ss) pp :: hs) ((c, none, ts) :: l)
  | named {x n : Str} {i : Nat} {c : Value} {ts : Addr → Value → Option Addr → TS} {b0 : Stmt} {ss : List Stmt} {np pp : Pos} {hs : List ExceptHandler} {l : List Clause} (hi : X.N[i]? = some n) (hn : X.env.kindOf n = some .local) (hc : Names X x c)
      (hsu : SuiteOk X (b0 :: ss) ts) (r : ClsOk X hs l) : ClsOk X (.ExceptHandler (some (.Name x np)) (some n) (b0 :: ss) pp :: hs) ((c, some i, ts) :: l)
section
variable {X : Cx} {body : List Stmt} {h1 : ExceptHandler} {hds : List ExceptHandler} {l : List Clause} {pos : Pos} {tb : WX → TS} {Wo : WX}
theorem ps_try_any (hst : X.stack = X.env :: X.outer) (hfr : X.env.frame = some X.env.locals) (hN : X.N.Nodup) (tk : Takes X Wo)
    (hb : ∀ (W : WX) (pn : List (Addr × Obj)) (xe : Value → Shared → Prop), Takes (X.tr pn xe) W → PassesOwn (model X.prog X.w) X.A X.env xe → PSs (X.tr pn xe) body (tb W))
    (hh : ClsOk X (h1 :: hds) l) : PS X (.Try body (h1 :: hds) [] [] pos) (fun E σ H => tb (wAny X.K Wo E l) E σ H) := by
  refine ⟨fun pins s σ H E I h => ?_⟩
  have okX := I.ok
  have frames : X.A.frames = some (X.env :: X.outer) := okX.frames.trans (congrArg some hst)
  -- how an exception of the body is looked at
  let look : Value → Shared → Prop := fun e s1 => wpAny (model X.prog X.w) X.A (noteFrame e X.env) (fun _ s2 => wpAny (model X.prog X.w) X.A (setFlight e none) (fun _ s3 => wpAny (model X.prog X.w) X.A (handleBy e X.env (h1 :: hds)) (SP X pins E) X.xe s3) X.xe s2) X.xe s1
  have caught : Takes (X.tr (X.pn ++ pins) look) (wAny X.K Wo E l) := by
    intro u s' air
    obtain ⟨a, G, sI, pins1, σ1, H1, cls, d, rfl, J1, onG, upS, sky, free, osE, bare, wish⟩ := air
    have J : Inv X pins σ1 H1 sI := J1.ofTry okX
    have sky1 : Sky G (X.env :: X.outer) a (Zc cls d) X.env.locals s'.heap := by
      rw [← hst]
      exact sky
    refine Sky.land Zc.steady frames hfr sky1 fun g3 fly3 up3 => ?_
    have J3 : Inv X pins σ1 H1 { s' with heap := g3 } := J.landed onG fly3.1 (upS.trans up3) osE bare
    obtain ⟨ob3, fs3, at3, z3, dat3⟩ := fly3.there
    have offFrames : a ∉ frs (X.env :: X.outer) := fun hm => by
      obtain ⟨_, ob', at', notF⟩ := fly3.2.2.1.mem hm
      rw [at3] at at'
      cases at'
      exact notF _ dat3
    have offL : a ≠ X.env.locals := fun z => offFrames (List.mem_filterMap.mpr ⟨X.env, List.mem_cons_self, hfr.trans (congrArg some z.symm)⟩)
    have offO : a ∉ X.fs := fun hm => by
      obtain ⟨en, hen, q⟩ := List.mem_filterMap.mp hm
      exact offFrames (List.mem_filterMap.mpr ⟨en, List.mem_cons_of_mem _ hen, q⟩)
    have S3 := J3.suite at3 dat3 free offL offO
    -- a clause's test
    have asks : ∀ {x : Str} {c : Value} {np : Pos} {Q R : Value → Shared → Prop}, Names X x c → Q c { s' with heap := g3 } → wpAny (model X.prog X.w) (X.A.mark (some (.ref a))) (eval (.Name x np) X.env) Q R { s' with heap := g3 } := fun {x c np Q R} hc q => by
      obtain ⟨hg, hdb, hm | ⟨hm, hv, hx⟩⟩ := hc
      · exact ld_glob (X := X.suite a ((a, ob3) :: (X.pn ++ pins))) S3 hg hm q hdb
      · exact ld_blt (X := X.suite a ((a, ob3) :: (X.pn ++ pins))) S3 hg hm hv q hx hdb
    have typ : PySem.W.Looks (model X.prog X.w) g3 (typeOf (.ref a)) cls := fun A Q R s k q => wpAny_typeOf_ref (k _ _ at3) (by rw [z3.1]; exact q)
    show wpAny (model X.prog X.w) X.A (handleBy (.ref a) X.env (h1 :: hds)) (SP X pins E) X.xe { s' with heap := g3 }
    clear h
    revert wish
    generalize h1 :: hds = hs at hh
    intro wish
    induction hh with
    | nil =>
      refine wpAny_handleBy_nil ?_
      obtain ⟨_, _, _, T, oe, fs, oT, ts, e1, _, e3, e4, _⟩ := id fly3
      unfold PySem.passOn
      refine wpAny_bind (wpAny_field e1 e3 e4 ?_)
      rw [if_neg (by simp)]
      have up : wpAny (model X.prog X.w) X.A (setFlight (.ref a) X.env.frame) (fun _ s4 => wpAny (model X.prog X.w) X.A (throw (.ref a) : Sem Flow) (SP X pins E) X.xe s4) X.xe { s' with heap := g3 } := by
        rw [hfr]
        exact HandSPX.setFlight_upZ fly3 fun g4 held4 up4 => wpAny_throw (tk _ _ ⟨a, G, sI, pins, σ1, H1, cls, d, rfl, J, onG, (upS.trans up3).trans up4, Or.inr (Or.inr (by rw [hst]; exact held4)), free, osE, bare, wish⟩)
      first
        | exact wpAny_bind (wpAny_pure (wpAny_bind up))
        | exact wpAny_bind up
    | @bare x c ts b0 ss np pp hs2 l2 hc hsu r ih =>
      obtain ⟨b, eb, yes, no⟩ := wish
      refine wpAny_handleBy_cons (codeAny_handlers_test ?_) (by intro q; cases q)
      refine asks hc ((PySem.W.exm_one (M := model X.prog X.w) J3.kIn typ eb).here ?_)
      cases b with
      | false => exact ih (no rfl)
      | true =>
        refine codeAny_handlers_suite (HandSPX.lands_againZ fly3 fun g4 fly4 up4 => ?_)
        have J4 : Inv X pins σ1 H1 { s' with heap := g4 } := J.landed onG fly4.1 ((upS.trans up3).trans up4) osE bare
        obtain ⟨ob4, fs4, at4, z4, dat4⟩ := fly4.there
        refine wpAny_mono ((hsu a ob4 cls d (X.pn ++ pins) z4 ⟨_, dat4⟩).run [] _ _ H1 _ (J4.suite at4 dat4 free offL offO) (yes rfl a free)) (fun fl s6 done => ?_) (fun _ _ z => z.elim)
        match fl, done with
        | .next, ⟨σ6, H6, S6, q6⟩ => exact ⟨σ6, H6, S6.unsuite okX, q6⟩
        | .brk, ⟨σ6, H6, S6, q6⟩ => exact ⟨σ6, H6, S6.unsuite okX, q6⟩
        | .cont, ⟨σ6, H6, S6, q6⟩ => exact ⟨σ6, H6, S6.unsuite okX, q6⟩
        | .ret u, ⟨v6, σ6, H6, S6, r6, q6⟩ => exact ⟨v6, σ6, H6, S6.unsuite okX, r6, q6⟩
    | @named x n i c ts b0 ss np pp hs2 l2 hi hn hc hsu r ih =>
      obtain ⟨b, eb, yes, no⟩ := wish
      refine wpAny_handleBy_cons (codeAny_handlers_test ?_) (by intro q; cases q)
      refine asks hc ((PySem.W.exm_one (M := model X.prog X.w) J3.kIn typ eb).here ?_)
      cases b with
      | false => exact ih (no rfl)
      | true =>
        refine codeAny_handlers_suite_as (HandSPX.lands_againZ fly3 fun g4 fly4 up4 => ?_)
        have J4 : Inv X pins σ1 H1 { s' with heap := g4 } := J.landed onG fly4.1 ((upS.trans up3).trans up4) osE bare
        obtain ⟨ob4, fs4, at4, z4, dat4⟩ := fly4.there
        refine store_ok (X := X.suite a ((a, ob4) :: (X.pn ++ pins))) (v := .ref a) (J4.suite at4 dat4 free offL offO) hN hi (Or.inl hn) rfl (fun s5 S5 => ?_) (Or.inr hn)
        refine wpAny_mono ((hsu a ob4 cls d (X.pn ++ pins) z4 ⟨_, dat4⟩).run [] s5 _ H1 _ S5 (yes rfl a free)) (fun fl s6 done => ?_) (fun _ _ z => z.elim)
        have goes : ∀ {σ6 : L2.St} {H6 : Hp} {R : Shared → Prop}, Inv (X.suite a ((a, ob4) :: (X.pn ++ pins))) [] σ6 H6 s6 → (∀ s7, Inv X pins (σ6.set i none) H6 s7 → R s7) →
            wpAny (model X.prog X.w) X.A (do bindName X.env n .none; unbindBehindTheSuite X.env n pp) (fun _ s7 => R s7) X.xe s6 := fun {σ6 H6 R} S6 k => gone_ok (S6.unsuite okX) hN hi hn k
        match fl, done with
        | .next, ⟨σ6, H6, S6, q6⟩ => exact goes S6 fun s7 J7 => ⟨_, _, J7, q6⟩
        | .brk, ⟨σ6, H6, S6, q6⟩ => exact goes S6 fun s7 J7 => ⟨_, _, J7, q6⟩
        | .cont, ⟨σ6, H6, S6, q6⟩ => exact goes S6 fun s7 J7 => ⟨_, _, J7, q6⟩
        | .ret u, ⟨v6, σ6, H6, S6, r6, q6⟩ => exact goes S6 fun s7 J7 => ⟨_, _, _, J7, r6, q6⟩
  refine wpAny_Try_except (wpAny_mono ((hb (wAny X.K Wo E l) (X.pn ++ pins) look caught PassesOwn.looking).run [] s σ H E (I.toTry _) h) (fun fl s1 done => ?_) fun e s1 he => he)
  match fl, done with
  | .next, ⟨σ6, H6, S6, q6⟩ => exact wpAny_execs_nil ⟨σ6, H6, S6.ofTry okX, q6⟩
  | .brk, ⟨σ6, H6, S6, q6⟩ => exact ⟨σ6, H6, S6.ofTry okX, q6⟩
  | .cont, ⟨σ6, H6, S6, q6⟩ => exact ⟨σ6, H6, S6.ofTry okX, q6⟩
  | .ret u, ⟨v6, σ6, H6, S6, r6, q6⟩ => exact ⟨v6, σ6, H6, S6.ofTry okX, r6, q6⟩
end

/-! ### in a suite -/
/-- what is known in a suite: the caught thing's fields, its slot -/
def gamX (K : PySem.W.Frag) (ns : List Str) (ds : List D) (d : Option Addr) (io : Option Nat) (a : Addr) : Gam :=
  ⟨fun _ _ _ _ => False, fun q F => ExOk K F ns ds d ∧ ∀ i, io = some i → q[i]? = some (some (.ref a)), fun q F F' s h => by
    refine ⟨?_, h.2⟩
    rcases h.1 with z | ⟨dd, fs, e1, e2, e3, e4⟩
    · exact Or.inl z
    · exact Or.inr ⟨dd, fs, e1, s _ _ e2, e3, Reps.mono s _ _ e4⟩⟩
/-- a suite by a pure function of the caught error's fields -/
def QSu (X : Cx) (io : Option Nat) (c' : XC) (mt : XC → XC → Option Bool) (ss : List Stmt) (su : XC → List Str → List D → SV) : Prop :=
  ∀ (a : Addr) (oe : Obj) (d : Option Addr) (pn : List (Addr × Obj)) (c : XC) (ns : List Str) (ds : List D), mt c c' = some true → Zc (c.v X.K) d oe → (∃ vs, oe.data = .fields vs) → QSs (X.suite a ((a, oe) :: pn)) (gamX X.K ns ds d io a) ss (su c ns ds)
abbrev ClS := XC × Option Nat × (XC → List Str → List D → SV)
def SOut.clean (i : Nat) : SOut → SOut
  | .nx ρ => .nx (ρ.set i .non)
  | .bk ρ => .bk (ρ.set i .non)
  | .ct ρ => .ct (ρ.set i .non)
  | .rt s ρ => .rt s (ρ.set i .non)
  | _ => .stuck
def SOut.calm : SOut → SOut
  | .exc _ _ _ _ => .stuck
  | o => o
def catchS (mt : XC → XC → Option Bool) (c : XC) (ns : List Str) (ds : List D) (ρ : Rho) : List ClS → SOut
  | [] => .exc c ns ds ρ
  | (c', io, su) :: r => match mt c c' with
    | none => .stuck
    | some false => catchS mt c ns ds ρ r
    | some true => match io with
      | none => (su c ns ds ρ).calm
      | some i => (su c ns ds (ρ.set i .pnd)).clean i
def tryS (mt : XC → XC → Option Bool) (f : SV) (cl : List ClS) : SV := fun ρ => match f ρ with
  | .exc c ns ds ρ1 => catchS mt c ns ds ρ1 cl
  | o => o
section
variable {X : Cx} {Γ : Gam} {e : Expr} {f : EV} {fa : EA} {s : SV} {pos p : Pos} {x : Str} {i : Nat} {mt : XC → XC → Option Bool}
/-- the reading of a suite -/
def rdSu (K : PySem.W.Frag) (mt : XC → XC → Option Bool) (c' : XC) (io : Option Nat) (su : XC → List Str → List D → SV) : Addr → Value → Option Addr → TS := fun a cls d E σ H =>
  ∃ c ns ds, cls = c.v K ∧ mt c c' = some true ∧ rdS K (gamX K ns ds d io a) (su c ns ds) E σ H
theorem suite_ok {io : Option Nat} {c' : XC} {ss : List Stmt} {su : XC → List Str → List D → SV} (h : QSu X io c' mt ss su) : SuiteOk X ss (rdSu X.K mt c' io su) := fun a oe cls d pn hz hf =>
  ⟨fun pins s σ H E I ⟨c, ns, ds, ec, hm, q⟩ => by
    subst ec
    exact (h a oe d pn c ns ds hm hz hf).run pins s σ H E I q⟩
/-- the clauses of a try and their suites' functions -/
inductive QCl (X : Cx) (mt : XC → XC → Option Bool) : List ExceptHandler → List ClS → Prop
  | nil : QCl X mt [] []
  | bare {x : Str} {c' : XC} {su : XC → List Str → List D → SV} {b0 : Stmt} {ss : List Stmt} {np pp : Pos} {hs : List ExceptHandler} {l : List ClS} (hc : Names X x (c'.v X.K)) (hsu : QSu X none c' mt (b0 :: ss) su) (r : QCl X mt hs l) :
      QCl X mt (.ExceptHandler (some (.Name x np)) none (b0 :: ss) pp :: hs) ((c', none, su) :: l)
  | named {x n : Str} {i : Nat} {c' : XC} {su : XC → List Str → List D → SV} {b0 : Stmt} {ss : List Stmt} {np pp : Pos} {hs : List ExceptHandler} {l : List ClS} (hi : X.N[i]? = some n) (hn : X.env.kindOf n = some .local) (hc : Names X x (c'.v X.K))
      (hsu : QSu X (some i) c' mt (b0 :: ss) su) (r : QCl X mt hs l) : QCl X mt (.ExceptHandler (some (.Name x np)) (some n) (b0 :: ss) pp :: hs) ((c', some i, su) :: l)
def clRd (K : PySem.W.Frag) (mt : XC → XC → Option Bool) (l : List ClS) : List Clause := l.map fun q => (q.1.v K, q.2.1, rdSu K mt q.1 q.2.1 q.2.2)
theorem qcl_ok {hs : List ExceptHandler} {l : List ClS} (h : QCl X mt hs l) : ClsOk X hs (clRd X.K mt l) := by
  induction h with
  | nil => exact .nil
  | bare hc hsu r ih => exact .bare hc (suite_ok hsu) ih
  | named hi hn hc hsu r ih => exact .named hi hn hc (suite_ok hsu) ih
/-- with a caught error: slot i is pinned to it -/
def pinTo (q : L2.St) (i : Nat) (v : V) : L2.St := (q ++ List.replicate (i + 1) none).set i (some v)
theorem pinTo_at {q : L2.St} {v : V} : (pinTo q i v)[i]? = some (some v) := by
  unfold pinTo
  rw [List.getElem?_set_self (by rw [List.length_append, List.length_replicate]; omega)]
theorem pinTo_ne {q : L2.St} {v w : V} {j : Nat} (h : j ≠ i) : (pinTo q i v)[j]? = some (some w) ↔ q[j]? = some (some w) := by
  unfold pinTo
  rw [List.getElem?_set_ne (Ne.symm h)]
  by_cases hj : j < q.length
  · rw [List.getElem?_append_left hj]
  · rw [List.getElem?_append_right (by omega)]
    have e : q[j]? = none := List.getElem?_eq_none (by omega)
    rw [e]
    refine Iff.intro (fun z => ?_) (fun z => by cases z)
    have m := List.mem_of_getElem? z
    rw [List.mem_replicate] at m
    cases m.2
theorem Agr.pinned {K : PySem.W.Frag} {ex ex' : L2.St → Hp → Prop} {B : Bs} {F H : Hp} {ρ : Rho} {σ : L2.St} {v : V} (A : Agr K ex B F ρ σ H) (hx : ex' (pinTo B.pin i v) F) : Agr K ex' ⟨pinTo B.pin i v, B.G, B.F0⟩ F (ρ.set i .pnd) (σ.set i (some v)) H := by
  refine ⟨A.sub, A.ground, A.from0, A.new, hx, by rw [List.length_set, List.length_set]; exact A.len, fun j z o e1 e2 => ?_, fun j k z y b hjk e1 e2 hs ht e3 e4 => ?_⟩
  · by_cases hj : j = i
    · subst hj
      by_cases hl : j < ρ.length
      · rw [List.getElem?_set_self hl] at e1
        rw [List.getElem?_set_self (by rw [← A.len]; exact hl)] at e2
        cases e1
        cases e2
        exact ⟨⟨v, rfl⟩, pinTo_at⟩
      · rw [List.getElem?_eq_none (by rw [List.length_set]; omega)] at e1
        cases e1
    · rw [List.getElem?_set_ne (Ne.symm hj)] at e1 e2
      have h := A.ok j z o e1 e2
      cases z with
      | non => trivial
      | val d => exact h
      | own d => exact h
      | inp d =>
        obtain ⟨h1, a, ea, q⟩ := h
        subst ea
        exact ⟨(pinTo_ne hj).mpr h1, a, rfl, q⟩
      | pnd =>
        obtain ⟨⟨w, ew⟩, h1⟩ := h
        subst ew
        exact ⟨⟨w, rfl⟩, (pinTo_ne hj).mpr h1⟩
  · have key : ∀ {l : Nat} {z : Sl}, (ρ.set i .pnd)[l]? = some z → z.mut = true → l ≠ i := fun {l z} q hm hl => by
      subst hl
      have hlt : l < ρ.length := by
        rcases Nat.lt_or_ge l ρ.length with h | h
        · exact h
        · rw [List.getElem?_eq_none (by rw [List.length_set]; omega)] at q
          cases q
      rw [List.getElem?_set_self hlt] at q
      cases q
      cases hm
    have hj := key e1 hs
    have hk := key e2 ht
    rw [List.getElem?_set_ne (Ne.symm hj)] at e1 e3
    rw [List.getElem?_set_ne (Ne.symm hk)] at e2 e4
    exact A.inj j k z y b hjk e1 e2 hs ht e3 e4
theorem Agr.unpinned {K : PySem.W.Frag} {ex ex' : L2.St → Hp → Prop} {B : Bs} {F H : Hp} {ρ : Rho} {σ : L2.St} {v : V} (A : Agr K ex' ⟨pinTo B.pin i v, B.G, B.F0⟩ F ρ σ H) (hx : ex B.pin F) : Agr K ex B F (ρ.set i .non) (σ.set i none) H := by
  have A1 := A.forget (i := i) (o := none)
  refine ⟨A1.sub, A1.ground, A1.from0, A1.new, hx, A1.len, fun j z o e1 e2 => ?_, A1.inj⟩
  have h := A1.ok j z o e1 e2
  by_cases hj : j = i
  · subst hj
    by_cases hl : j < ρ.length
    · rw [List.getElem?_set_self hl] at e1
      cases e1
      trivial
    · rw [List.getElem?_eq_none (by rw [List.length_set]; omega)] at e1
      cases e1
  · cases z with
    | non => trivial
    | val d => exact h
    | own d => exact h
    | inp d =>
      obtain ⟨h1, a, ea, q⟩ := h
      subst ea
      exact ⟨(pinTo_ne hj).mp h1, a, rfl, q⟩
    | pnd =>
      obtain ⟨⟨w, ew⟩, h1⟩ := h
      subst ew
      exact ⟨⟨w, rfl⟩, (pinTo_ne hj).mp h1⟩
theorem res_unset {K : PySem.W.Frag} {B : Bs} {q : L2.St} {F H : Hp} {ρ : Rho} {σ : L2.St} {s : Sl} {v : V} (r : ResOk K ⟨q, B.G, B.F0⟩ F ρ σ H s v) : ResOk K B F (ρ.set i .non) (σ.set i none) H s v := by
  cases s with
  | val d => exact r
  | own d =>
    obtain ⟨a, ev, n, m, w, un⟩ := r
    refine ⟨a, ev, n, m, w, fun j t ej hm es => ?_⟩
    by_cases hj : j = i
    · subst hj
      by_cases hl : j < ρ.length
      · rw [List.getElem?_set_self hl] at ej
        cases ej
        cases hm
      · rw [List.getElem?_eq_none (by rw [List.length_set]; omega)] at ej
        cases ej
    · rw [List.getElem?_set_ne (Ne.symm hj)] at ej es
      exact un j t ej hm es
  | _ => exact r.elim
/-- another fact besides -/
theorem Agr.extra' {K : PySem.W.Frag} {ex ex' : L2.St → Hp → Prop} {B : Bs} {F H : Hp} {ρ : Rho} {σ : L2.St} (A : Agr K ex B F ρ σ H) (hx : ex' B.pin F) : Agr K ex' B F ρ σ H := ⟨A.sub, A.ground, A.from0, A.new, hx, A.len, A.ok, A.inj⟩
theorem catch_run {B : Bs} {F H : Hp} {σ : L2.St} {E : Ends} {ρ : Rho} {c : XC} {ns : List Str} {ds : List D} {d : Option Addr} (hex : ∀ q F, Γ.ex q F) (hmt : ∀ c c' b, mt c c' = some b → PySem.W.exmOne X.K (c.v X.K) (c'.v X.K) = some b) (A : Agr X.K Γ.ex B F ρ σ H) (xx : ExOk X.K F ns ds d) :
    ∀ {l : List ClS}, AfterS X.K Γ B F E (catchS mt c ns ds ρ l) → wAny X.K Γ.W E (clRd X.K mt l) (c.v X.K) d σ H
  | [], h => h d F σ H (Same.refl F) A xx
  | (c', io, su) :: l, h => by
    unfold catchS at h
    cases em : mt c c' with
    | none =>
      rw [em] at h
      exact h.elim
    | some b =>
      rw [em] at h
      have eb := hmt c c' b em
      cases io with
      | none =>
        refine ⟨b, eb, fun hb a na => ?_, fun hb => ?_⟩
        · subst hb
          refine ⟨c, ns, ds, rfl, em, B, F, ρ, A.extra' (ex' := (gamX X.K ns ds d none a).ex) ⟨xx, fun i z => nomatch z⟩, ?_⟩
          have h2 : AfterS X.K Γ B F E ((su c ns ds ρ).calm) := h
          show AfterS X.K (gamX X.K ns ds d none a) B F E (su c ns ds ρ)
          cases ho : su c ns ds ρ with
          | nx ρ2 =>
            rw [ho] at h2
            exact fun F' σ' H' s' A' => h2 F' σ' H' s' (A'.extra' (hex _ _))
          | rt z ρ2 =>
            rw [ho] at h2
            exact fun F' σ' H' v s' A' r => h2 F' σ' H' v s' (A'.extra' (hex _ _)) r
          | bk ρ2 =>
            rw [ho] at h2
            exact fun F' σ' H' s' A' => h2 F' σ' H' s' (A'.extra' (hex _ _))
          | ct ρ2 =>
            rw [ho] at h2
            exact fun F' σ' H' s' A' => h2 F' σ' H' s' (A'.extra' (hex _ _))
          | exc c2 ns2 ds2 ρ2 =>
            rw [ho] at h2
            exact h2.elim
          | stuck =>
            rw [ho] at h2
            exact h2.elim
        · subst hb
          exact catch_run hex hmt A xx h
      | some i =>
        refine ⟨b, eb, fun hb a na => ?_, fun hb => ?_⟩
        · subst hb
          refine ⟨c, ns, ds, rfl, em, _, F, _, A.pinned (i := i) (v := .ref a) (ex' := (gamX X.K ns ds d (some i) a).ex) ⟨xx, fun j z => by cases z; exact pinTo_at⟩, ?_⟩
          have h2 : AfterS X.K Γ B F E ((su c ns ds (ρ.set i .pnd)).clean i) := h
          show AfterS X.K (gamX X.K ns ds d (some i) a) ⟨pinTo B.pin i (.ref a), B.G, B.F0⟩ F (unset E i) (su c ns ds (ρ.set i .pnd))
          cases ho : su c ns ds (ρ.set i .pnd) with
          | nx ρ2 =>
            rw [ho] at h2
            exact fun F' σ' H' s' A' => h2 F' _ H' s' (A'.unpinned (hex _ _))
          | rt z ρ2 =>
            rw [ho] at h2
            exact fun F' σ' H' v s' A' r => h2 F' _ H' v s' (A'.unpinned (hex _ _)) (res_unset r)
          | bk ρ2 =>
            rw [ho] at h2
            exact fun F' σ' H' s' A' => h2 F' _ H' s' (A'.unpinned (hex _ _))
          | ct ρ2 =>
            rw [ho] at h2
            exact fun F' σ' H' s' A' => h2 F' _ H' s' (A'.unpinned (hex _ _))
          | exc c2 ns2 ds2 ρ2 =>
            rw [ho] at h2
            exact h2.elim
          | stuck =>
            rw [ho] at h2
            exact h2.elim
        · subst hb
          exact catch_run hex hmt A xx h
theorem qs_try {body : List Stmt} {h1 : ExceptHandler} {hds : List ExceptHandler} {l : List ClS} (hst : X.stack = X.env :: X.outer) (hfr : X.env.frame = some X.env.locals) (hN : X.N.Nodup) (tk : Takes X Γ.W) (hex : ∀ q F, Γ.ex q F)
    (hmt : ∀ c c' b, mt c c' = some b → PySem.W.exmOne X.K (c.v X.K) (c'.v X.K) = some b)
    (hb : ∀ (W : WX) (pn : List (Addr × Obj)) (xe : Value → Shared → Prop), Takes (X.tr pn xe) W → PassesOwn (model X.prog X.w) X.A X.env xe → QSs (X.tr pn xe) ⟨W, Γ.ex, Γ.mono⟩ body s)
    (hh : QCl X mt (h1 :: hds) l) : QS X Γ (.Try body (h1 :: hds) [] [] pos) (tryS mt s l) :=
  ps_weak (ps_try_any (tb := fun W => rdS X.K ⟨W, Γ.ex, Γ.mono⟩ s) hst hfr hN tk hb (qcl_ok hh)) fun E σ H ⟨B, F, ρ, A, q⟩ => by
    refine ⟨B, F, ρ, A, ?_⟩
    unfold tryS at q
    cases ho : s ρ with
    | nx ρ2 =>
      rw [ho] at q
      exact q
    | rt z ρ2 =>
      rw [ho] at q
      exact q
    | bk ρ2 =>
      rw [ho] at q
      exact q
    | ct ρ2 =>
      rw [ho] at q
      exact q
    | exc c ns ds ρ2 =>
      rw [ho] at q
      exact fun d F' σ' H' s' A' xx => catch_run hex hmt A' xx (AfterS.later (o := catchS mt c ns ds ρ2 l) q s')
    | stuck =>
      rw [ho] at q
      exact q
/-- in a suite: the caught error's field -/
def exFld (ns : List Str) (ds : List D) (n : Str) (i : Nat) : EV := fun ρ => match ρ[i]? with
  | some .pnd => Out.of ((ns.zip ds).lookup n) ρ
  | _ => .stuck
theorem reps_lookup {K : PySem.W.Frag} {F : Hp} {n : Str} {z : D} : ∀ {fs : List (Str × V)} {ns : List Str} {ds : List D}, fs.map (·.1) = ns → Reps K F ds (fs.map (·.2)) → (ns.zip ds).lookup n = some z → ∃ v, fs.lookup n = some v ∧ Rep K F z v
  | [], _, _, en, _, h => by
    subst en
    cases h
  | (m, v) :: fs, _, ds, en, r, h => by
    subst en
    cases ds with
    | nil => cases h
    | cons d ds =>
      obtain ⟨v', ws, ev, r1, r2⟩ := r
      cases ev
      have h' : (match n == m with
        | true => some d
        | false => ((fs.map (·.1)).zip ds).lookup n) = some z := h
      cases hm : n == m with
      | true =>
        rw [hm] at h'
        cases h'
        exact ⟨v, by show (match n == m with | true => some v | false => fs.lookup n) = some v; rw [hm], r1⟩
      | false =>
        rw [hm] at h'
        obtain ⟨w, ew, rw'⟩ := reps_lookup rfl r2 h'
        exact ⟨w, by show (match n == m with | true => some v | false => fs.lookup n) = some w; rw [hm]; exact ew, rw'⟩
theorem qe_exFld {a : Addr} {oe : Obj} {d : Option Addr} {pn : List (Addr × Obj)} {c : XC} {x n : Str} {ns : List Str} {ds : List D} (hc : c = .own x) (T : XfC X.K (He.ga X.K x)) (hno : PySem.W.findIn X.K (.ref (He.ga X.K x)) n = some none) (hz : Zc (c.v X.K) d oe) (hf : ∃ vs, oe.data = .fields vs)
    (he : PE (X.suite a ((a, oe) :: pn)) e (tVar i)) (hb : attributeBase e n X.env (eval e X.env) = eval e X.env := by rfl) : QE (X.suite a ((a, oe) :: pn)) (gamX X.K ns ds d (some i) a) (.Attribute e n pos) (exFld ns ds n i) :=
  pe_weak (pe_xf T hno hz hf he hb) fun σ H Q ⟨B, F, ρ, A, q⟩ => by
    unfold exFld at q
    cases ei : ρ[i]? with
    | none =>
      rw [ei] at q
      exact q.elim
    | some z =>
      rw [ei] at q
      cases z with
      | pnd =>
        obtain ⟨z, ez, q2⟩ := After.of q
        have hi : i < σ.length := by
          rw [← A.len]
          exact (List.getElem?_eq_some_iff.mp ei).1
        obtain ⟨⟨w, ew⟩, hp⟩ := A.ok i _ σ[i] ei (List.getElem?_eq_getElem hi)
        have hp2 := A.extra.2 i rfl
        rw [hp2] at hp
        have e3 : σ[i] = some (.ref a) := (Option.some.inj hp).symm
        refine ⟨.ref a, by rw [List.getElem?_eq_getElem hi, e3], rfl, by rw [hc]; rfl, ?_⟩
        rcases A.extra.1 with ⟨z1, _⟩ | ⟨dd, fs, e4, e5, e6, e7⟩
        · subst z1
          cases ez
        · obtain ⟨v, ev, rv⟩ := reps_lookup e6 e7 ez
          exact ⟨dd, fs, v, e4, A.sub _ _ e5, ev, q2 F H (Same.refl F) A v rv⟩
      | _ => exact q.elim

/-! ### raise X(e, ..), X's own __init__ storing its arguments -/
/-- what such an __init__ promises -/
def spIni (K : PySem.W.Frag) (names : List Str) : Sp := fun vs H Q _ => ∃ (a C : Addr) (ws : List V), vs = .ref a :: ws ∧ ws.length = names.length ∧ OexC K C ∧ (∀ f ∈ names, PySem.W.findIn K (.ref C) f = some none) ∧ H a = some (exo a C none) ∧
  ∀ dx H', H dx = none → dx ≠ a → H' a = some (exo a C (some dx)) → H' dx = some (exd dx (names.zip ws).reverse) → (∀ b, b ≠ a → b ≠ dx → H' b = H b) → Q .non H'
def raiseS (x : Str) (names : List Str) (fa : EA) : SV := fun ρ => (fa ρ).stm fun ds ρ1 => if ds.length = names.length ∧ ds.length ≤ 1000 then .exc (.own x) names.reverse ds.reverse ρ1 else .stuck
theorem ini1 {P : Program} {w : World} {K : PySem.W.Frag} {mg : Str → Option Value} {base : Heap} {qual : Str} {params : Arguments} {body : List Stmt} {scope : Scope} {dvs : List V} {kws : List (Str × V)} {fa : Addr} {fd : FuncData} {N ps : List Str} {k : Nat} {n1 : Str} {nm : Str}
    (FD : FunD K nm qual params body scope dvs kws fa fd) (S : FnScope N ps scope) (hn : ps.length = 2) (hN : N.length = 2)
    (hb : ∀ (cdv : Value) (A : Around) (outer : List Env) (s : Shared) (H : Hp) (E : XK), PSs (cxOf (L2.CX P w) P w K mg base N qual scope fa cdv A outer s H E) body (tOst K n1 (tVar 0) (tVar 1))) : FnOk P w K mg base (L2.CX P w) (k + 1) fa fd ps (spIni K [n1]) := by
  refine FD.ok S (fun vs H Q E h => ?_) fun cdv A outer s H vs Q E hr h => ⟨_, hb cdv A outer s H E, ?_⟩
  · obtain ⟨a, C, ws, rfl, hl, _⟩ := h
    rw [hn, List.length_cons, hl]
    rfl
  · obtain ⟨a, C, ws, rfl, hl, T, hf, ha, q⟩ := h
    match ws, hl, q with
    | [y], _, q =>
      have st : L2.start N [V.ref a, y] = [some (.ref a), some y] := by
        unfold L2.start
        rw [hN]
        rfl
      rw [st]
      refine ⟨y, rfl, .ref a, rfl, a, C, rfl, T, hf n1 List.mem_cons_self, Or.inl ⟨ha, fun dx hd ne => q dx _ hd ne upd_same ?_ fun b h1 h2 => ?_⟩⟩
      · rw [upd_ne ne, upd_same]
        rfl
      · rw [upd_ne h1, upd_ne h2]
theorem ini2 {P : Program} {w : World} {K : PySem.W.Frag} {mg : Str → Option Value} {base : Heap} {qual : Str} {params : Arguments} {body : List Stmt} {scope : Scope} {dvs : List V} {kws : List (Str × V)} {fa : Addr} {fd : FuncData} {N ps : List Str} {k : Nat} {n1 n2 : Str} {nm : Str}
    (FD : FunD K nm qual params body scope dvs kws fa fd) (S : FnScope N ps scope) (hn : ps.length = 3) (hN : N.length = 3)
    (hb : ∀ (cdv : Value) (A : Around) (outer : List Env) (s : Shared) (H : Hp) (E : XK), PSs (cxOf (L2.CX P w) P w K mg base N qual scope fa cdv A outer s H E) body (tSeq (tOst K n1 (tVar 0) (tVar 1)) (tOst K n2 (tVar 0) (tVar 2)))) : FnOk P w K mg base (L2.CX P w) (k + 1) fa fd ps (spIni K [n1, n2]) := by
  refine FD.ok S (fun vs H Q E h => ?_) fun cdv A outer s H vs Q E hr h => ⟨_, hb cdv A outer s H E, ?_⟩
  · obtain ⟨a, C, ws, rfl, hl, _⟩ := h
    rw [hn, List.length_cons, hl]
    rfl
  · obtain ⟨a, C, ws, rfl, hl, T, hf, ha, q⟩ := h
    match ws, hl, q with
    | [y, z], _, q =>
      have st : L2.start N [V.ref a, y, z] = [some (.ref a), some y, some z] := by
        unfold L2.start
        rw [hN]
        rfl
      rw [st]
      refine ⟨y, rfl, .ref a, rfl, a, C, rfl, T, hf n1 List.mem_cons_self, Or.inl ⟨ha, fun dx hd ne => ?_⟩⟩
      refine ⟨z, rfl, .ref a, rfl, a, C, rfl, T, hf n2 (List.mem_cons_of_mem _ List.mem_cons_self), Or.inr ⟨dx, [(n1, y)], upd_same, by rw [upd_ne ne, upd_same], by simp, q dx _ hd ne ?_ upd_same fun b h1 h2 => ?_⟩⟩
      · rw [upd_ne (Ne.symm ne), upd_same]
      · rw [upd_ne h2, upd_ne h1, upd_ne h2]
theorem reps_rev_zip {K : PySem.W.Frag} {F : Hp} {names : List Str} {ws : List V} {ds : List D} (r : Reps K F ds ws) (h : ds.length = names.length) : ((names.zip ws).reverse).map (·.1) = names.reverse ∧ Reps K F ds.reverse (((names.zip ws).reverse).map (·.2)) := by
  have l : ws.length = names.length := r.length.symm.trans h
  rw [List.map_reverse, List.map_reverse, List.map_fst_zip (by omega), List.map_snd_zip (by omega)]
  exact ⟨rfl, r.reverse⟩
theorem raise_run {σ : L2.St} {H : Hp} {names : List Str} {fI : Addr} {E : Ends} (h : rdS X.K Γ (raiseS x names fa) E σ H) (T : OexC X.K (He.ga X.K x)) (hf : ∀ f ∈ names, PySem.W.findIn X.K (.ref (He.ga X.K x)) f = some none) :
    tMkO (He.ga X.K x) (spIni X.K names) [] (rdA X.K Γ fa) σ H fun cls d H' => Γ.W cls d σ H' := by
  obtain ⟨B, F, ρ, A, q⟩ := h
  refine ⟨B, F, ρ, A, (AfterS.of (o := fa ρ) A q).mono fun ds ρ1 F1 H1 s1 A1 q1 vs r => ?_⟩
  split at q1
  · rename_i hz
    obtain ⟨hl, hs⟩ := hz
    refine ⟨by rw [← r.length]; exact hs, fun a na => ⟨a, He.ga X.K x, vs, by rw [List.append_nil], by rw [← r.length]; exact hl, T, hf, upd_same, fun dx H' hd ne ea ed oth => ?_⟩⟩
    have hd1 : H1 dx = none := by
      rw [upd_ne ne] at hd
      exact hd
    refine ⟨rfl, dx, (names.zip vs).reverse, ea, ed, hd1, ?_⟩
    have e : upd (del H' a) dx (.xd (names.zip vs).reverse) = upd H1 dx (.xd (names.zip vs).reverse) := by
      funext b
      by_cases hb : b = dx
      · subst hb
        rw [upd_same, upd_same]
      · rw [upd_ne hb, upd_ne hb]
        by_cases ha : b = a
        · subst ha
          rw [del_same, na]
        · rw [del_ne ha, oth b ha hb, upd_ne ha]
    rw [e]
    obtain ⟨k1, k2⟩ := reps_rev_zip r hl
    have g := Grow.alloc (o := .xd (names.zip vs).reverse) A1.sub hd1
    exact q1 (some dx) _ σ _ g.f (A1.grow g Γ.mono) (Or.inr ⟨dx, _, rfl, upd_same, k1, Reps.mono g.f _ _ k2⟩)
  · exact q1.elim
theorem qs_raise {p3 : Pos} {e0 : Expr} {es : List Expr} {names : List Str} {fI : Addr} {k : Nat} {fd : FuncData} {ps : List Str} (hc : X.calm = true) (tk : Takes X Γ.W) (T : OexC X.K (He.ga X.K x)) (hf : ∀ f ∈ names, PySem.W.findIn X.K (.ref (He.ga X.K x)) f = some none)
    (iC : PySem.W.findIn X.K (.ref (He.ga X.K x)) "__init__" = some (some (.ref fI))) (tI : PySem.W.typeIn X.K (.ref fI) = some (.type "function")) (F1 : FnOk X.prog X.w X.K X.mg X.base (L2.CX X.prog X.w) k fI fd ps (spIni X.K names)) (hr : Room (k + 1) X.A) (hb : Binds X.K fd ps [])
    (hg : Gl X x) (hm : X.mg x = some (.ref (He.ga X.K x))) (ha : QA X Γ (e0 :: es) fa) (hdb : (x == ("__debug__" : Str)) = false := by decide) (he : starEach (e0 :: es) X.env = (false, eval e0 X.env) :: starEach es X.env := by rfl) (hpl : (backTo pos (starEach es X.env)).any (·.1) = false := by rfl) :
    QS X Γ (.Raise (some (.Call (.Name x p) (e0 :: es) [] pos)) none p3) (raiseS x names fa) :=
  ps_weak (ps_raise hc tk (pmk_oex T iC tI F1 hr hb .nil passL hg hm ha hdb he hpl)) fun E σ H h => raise_run (fI := fI) h T hf
end
end HM

set_option Elab.async false
set_option linter.all false
set_option maxRecDepth 100000
set_option maxHeartbeats 4000000
/-! HMHead: facts of the top that a law's defs lean on: own errors with an __init__ of their own, built-in functions by import, tables; the Hook that reads them; which clause takes which error. -/
namespace HM
open PySem PySem.Spec PyProof.Rows L2

/-! ### an own error class -/
def oexB (K : PySem.W.Frag) (C : Addr) : Bool := (match K.lookup C with
  | some ⟨.type c, _, .cls cd, sl⟩ => (match cd.mro, sl.toList with
    | .ref C' :: bm, [_, _, _, _, some (.builtin n), _] => decide (c = "type") && (decide (C' = C) && (decide (n = "ValueError.__new__") && (!cd.hasDel && (cd.hasDict && PySem.HandSPX.refsVE bm))))
    | _, _ => false)
  | _ => false) && (He.eqO (PySem.W.findIn K (.ref C) "__setattr__") (some (some (.builtin "object.__setattr__"))) && (decide (PySem.W.subIn K (.ref C) (.type "BaseException") = some true) && (decide (PySem.W.typeIn K (.ref C) = some (.type "type")) && PySem.W.keepIn K (.ref C))))
theorem oexB_ok {K : PySem.W.Frag} {C : Addr} (h : oexB K C = true) : OexC K C := by
  obtain ⟨q, h⟩ := He.ba h
  obtain ⟨h1, h⟩ := He.ba h
  obtain ⟨h2, h⟩ := He.ba h
  obtain ⟨h3, h4⟩ := He.ba h
  refine ⟨?_, He.eqO_ok h1, of_decide_eq_true h2, of_decide_eq_true h3, h4⟩
  split at q
  · rename_i c dd cd sl ho
    split at q
    · rename_i C' bm k0 k1 k2 k3 n k5 hm hs
      obtain ⟨e0, q⟩ := He.ba q
      obtain ⟨e1, q⟩ := He.ba q
      obtain ⟨e2, q⟩ := He.ba q
      obtain ⟨e3, q⟩ := He.ba q
      obtain ⟨e4, e5⟩ := He.ba q
      rw [Bool.not_eq_true'] at e3
      have e0 := of_decide_eq_true e0
      have e1 := of_decide_eq_true e1
      have e2 := of_decide_eq_true e2
      subst e0 e1 e2
      obtain ⟨nm, bs, mro, ns, qn, hd, sn, sub, ab, col, del⟩ := cd
      dsimp only at hm e3 e4
      subst hm e3 e4
      have hsl : sl = #[k0, k1, k2, k3, some (.builtin "ValueError.__new__"), k5] := by
        obtain ⟨l⟩ := sl
        simp only at hs
        rw [hs]
      subst hsl
      exact ⟨_, _, _, _, _, _, _, _, _, _, _, _, _, _, _, ho, e5⟩
    · cases q
  · cases q

/-! ### facts -/
inductive Fm where
  | he (f : He.Fa) | oex (x : Str) | xf (x : Str) | ini (x : Str) | bfun (x : Str) (id : String) | ktp (x : Str) (is : List Int) | exT (x : Str) (n : String) (b : Bool)
def Fm.ok (K : PySem.W.Frag) : Fm → Bool
  | .he f => f.ok K
  | .oex x => oexB K (He.ga K x)
  | .xf x => xfB K (He.ga K x)
  | .ini x => He.eqO (PySem.W.findIn K (.ref (He.ga K x)) "__init__") (some (some (.ref (He.ma K (He.ga K x) "__init__")))) && decide (PySem.W.typeIn K (.ref (He.ma K (He.ga K x) "__init__")) = some (.type "function"))
  | .bfun x id => He.eqO (PySem.W.nsIn K mainGlobals x) (some (some (.builtin id)))
  | .ktp x is => He.eqO (PySem.W.nsIn K mainGlobals x) (some (some (.ref (He.ga K x)))) && He.tupB K x (is.map He.Dv.int)
  | .exT x n b => decide (PySem.W.exmOne K (.ref (He.ga K x)) (.type n) = some b)
section
variable {K : PySem.W.Frag} {h : Heap} {mg : Str → Option Value} {x : Str}
theorem oex_ok (c : (Fm.oex x).ok K = true) : OexC K (He.ga K x) := oexB_ok c
theorem xf_ok (c : (Fm.xf x).ok K = true) : XfC K (He.ga K x) := xfB_ok c
theorem ini_ok (c : (Fm.ini x).ok K = true) : PySem.W.findIn K (.ref (He.ga K x)) "__init__" = some (some (.ref (He.ma K (He.ga K x) "__init__"))) ∧ PySem.W.typeIn K (.ref (He.ma K (He.ga K x) "__init__")) = some (.type "function") := by
  obtain ⟨c1, c2⟩ := He.ba c
  exact ⟨He.eqO_ok c1, of_decide_eq_true c2⟩
theorem bfun_ok {id : String} (X : K.In h) (G : h.Ns mainGlobals mg) (c : (Fm.bfun x id).ok K = true) : mg x = some (.builtin id) := PySem.W.mg_of X G (He.eqO_ok c)
/-- a module's tuple of ints -/
def KTup (K : PySem.W.Frag) (mg : Str → Option Value) (x : Str) (is : List Int) : Prop := mg x = some (.ref (He.ga K x)) ∧ ∀ H : Hp, SqT K H (He.ga K x) (is.map V.int)
theorem ktp_ok {is : List Int} (X : K.In h) (G : h.Ns mainGlobals mg) (c : (Fm.ktp x is).ok K = true) : KTup K mg x is := by
  obtain ⟨c1, c2⟩ := He.ba c
  refine ⟨PySem.W.mg_of X G (He.eqO_ok c1), fun H => ?_⟩
  have q := He.tupB_ok c2 H
  rw [List.map_map] at q
  exact q
end
theorem qe_gint {X : Cx} {Γ : Gam} {x : Str} {p : Pos} {i : Int} (hg : Gl X x) (hm : ∃ t, X.mg x = some (.int i t)) (hd : (x == ("__debug__" : Str)) = false := by decide) : QE X Γ (.Name x p) (cst (.int i)) := by
  obtain ⟨t, ht⟩ := hm
  exact qe_cst (v := .int i) (pe_glob hg ht ⟨t, rfl⟩ hd) fun _ => rfl
theorem qe_gtup {X : Cx} {Γ : Gam} {x : Str} {p : Pos} {is : List Int} (hg : Gl X x) (hm : KTup X.K X.mg x is) (hd : (x == ("__debug__" : Str)) = false := by decide) : QE X Γ (.Name x p) (cst (.ktp (is.map .int))) :=
  qe_cst (v := .ref (He.ga X.K x)) (pe_glob hg hm.1 rfl hd) fun F => ⟨_, _, rfl, hm.2 F, reps_ints is⟩

/-! ### the Hook -/
def obsM (fa : List Fm) (fn : List He.DefD) (K : PySem.W.Frag) : He.AlD := ((fa.all fun f => f.ok K) && fn.all fun d => d.ok K, fn.map fun d => He.fnW K d.at_)
def SaysM (fa : List Fm) (fn : List He.DefD) (K : PySem.W.Frag) : Prop := obsM fa fn K = He.valD fn
def obsMG (n : Nat) (fa : List Fm) (fn : List He.DefD) (g : Addr → Option Obj) : He.AlD := obsM fa fn (He.frG g (He.asD g n))
def hookM (n : Nat) (fa : List Fm) (fn : List He.DefD) : PySem.W.Hook where
  α := He.AlD
  obs := fun s => obsMG n fa fn s.heap.get?
  val := fun _ => He.valD fn
  says := fun _ h => ∃ K : PySem.W.Frag, K.In h ∧ SaysM fa fn K
  of := fun _ _ e => ⟨_, He.frG_in, e⟩
  keeps := fun _ _ _ ⟨K, hK, c⟩ k => ⟨K, PySem.W.Frag.In.keeps hK k, c⟩
theorem obsMG_eq {n : Nat} {fa : List Fm} {fn : List He.DefD} {g : Addr → Option Obj} {s : Shared} (h : ∀ a, g a = s.heap.get? a) : obsMG n fa fn g = (hookM n fa fn).obs s := by
  have e : g = s.heap.get? := funext h
  rw [e] <;> rfl
section
variable {fa : List Fm} {fn : List He.DefD} {K : PySem.W.Frag}
theorem SaysM.fact (c : SaysM fa fn K) (i : Nat) {f : Fm} (h : fa[i]? = some f := by rfl) : f.ok K = true := by
  have c1 := (He.ba (show ((fa.all fun f => f.ok K) && fn.all fun d => d.ok K) = true from congrArg (fun z : He.AlD => z.1) c)).1
  exact List.all_eq_true.mp c1 f (List.mem_of_getElem? h)
theorem SaysM.def_ (c : SaysM fa fn K) (i : Nat) {d : He.DefD} (h : fn[i]? = some d := by rfl) : ∃ fd, FunD K d.name d.qual d.params d.body d.scope (d.dvs K) (d.kws K) (He.fAd K d.at_) fd := by
  have c2 := (He.ba (show ((fa.all fun f => f.ok K) && fn.all fun d => d.ok K) = true from congrArg (fun z : He.AlD => z.1) c)).2
  have e : fn.map (fun d => He.fnW K d.at_) = fn.map He.DefD.val := congrArg (fun z : He.AlD => z.2) c
  have e2 : (fn.map fun d => He.fnW K d.at_)[i]? = (fn.map He.DefD.val)[i]? := by rw [e]
  rw [List.getElem?_map, List.getElem?_map, h] at e2
  exact He.DefD.funD (Option.some.inj e2) (List.all_eq_true.mp c2 d (List.mem_of_getElem? h))
end

/-! ### which clause takes which error -/
/-- the table: the raised class, the clause's, taken? -/
abbrev MtT := List (Str × Str × Bool)
def mtOf (tab : MtT) (c c' : XC) : Option Bool := match c, c' with
  | .own x, .own y => (tab.find? fun q => decide (q.1 = x) && decide (q.2.1 = y)).map fun q => q.2.2
  | _, _ => none
def MtOk (K : PySem.W.Frag) (tab : MtT) : Prop := ∀ q ∈ tab, PySem.W.exmOne K (.ref (He.ga K q.1)) (.ref (He.ga K q.2.1)) = some q.2.2
theorem mtOf_ok {K : PySem.W.Frag} {tab : MtT} (h : MtOk K tab) : ∀ c c' b, mtOf tab c c' = some b → PySem.W.exmOne K (c.v K) (c'.v K) = some b := fun c c' b e => by
  unfold mtOf at e
  split at e
  · rename_i x y
    obtain ⟨q, hq, eb⟩ := Option.map_eq_some_iff.mp e
    have hm := List.mem_of_find?_eq_some hq
    have hp := List.find?_some hq
    obtain ⟨e1, e2⟩ := He.ba hp
    have e1 := of_decide_eq_true e1
    have e2 := of_decide_eq_true e2
    have := h q hm
    rw [e1, e2, eb] at this
    exact this
  · cases e
/-- a clause that only its own class reaches -/
def leafB (tab : MtT) (y : Str) : Bool := tab.all fun q => !(decide (q.2.1 = y) && q.2.2) || decide (q.1 = y)
theorem mtOf_leaf {tab : MtT} {y : Str} (h : leafB tab y = true) {c : XC} (e : mtOf tab c (.own y) = some true) : c = .own y := by
  unfold mtOf at e
  split at e
  · rename_i x y' ey
    cases ey
    obtain ⟨q, hq, eb⟩ := Option.map_eq_some_iff.mp e
    have hm := List.mem_of_find?_eq_some hq
    have hp := List.find?_some hq
    obtain ⟨e1, e2⟩ := He.ba hp
    have e1 := of_decide_eq_true e1
    have k := List.all_eq_true.mp h q hm
    rw [e2, eb] at k
    have k2 : decide (q.1 = y) = true := k
    rw [← e1, of_decide_eq_true k2]
  · cases e
/-- the law's start, on the script -/
theorem law_start {K : PySem.W.Frag} {fs : FS} (hp : ∀ ns : List Int, ns.length ≤ 63 → fs none [.scr ns] = .ret (.val (.bl true)) none) {H : Hp} {a : Addr} {ns : List Int} (hl : ns.length ≤ 63) (hS : SqL K H a (ns.map V.int)) :
    spF K 1 fs [.ref a] H (fun v _ => v = .bl true) fun _ _ _ => False := by
  refine ⟨rfl, H, none, [.ref a], [.scr ns], Same.refl H, rfl, reps1 ⟨a, rfl, hS⟩, fun a d z => (nomatch z), ?_⟩
  show (match fs none [.scr ns] with
    | .ret s b => ∀ F' H' v, Ret K H H none F' H' b → NewOk K H F' H' s v → v = .bl true
    | .exc c ns es b => ∀ dx F' H', Ret K H H none F' H' b → ExOk K F' ns es dx → False
    | .stuck => False)
  rw [hp ns hl]
  exact fun F' H' v R nw => nw
/-- a promise that says nothing of exceptions -/
theorem fn_calm {P : Program} {w : World} {K : PySem.W.Frag} {mg : Str → Option Value} {base : Heap} {k : Nat} {f : Addr} {fd : FuncData} {ps : List Str} {sp : Sp} (h : FnOk P w K mg base (L2.CX P w) k f fd ps sp) : FnOk P w K mg base CX0 k f fd ps (fun vs H Q _ => sp vs H Q fun _ _ _ => False) :=
  ⟨fun vs H Q E q => h.len vs H Q _ q, fun A outer s H args us vs Q E hr he hb hv hs => codeAny_mono (h.run A outer s H args us vs Q _ hr he hb hv hs) fun r s' hq => match r, hq with
    | .error e, hq => by
      obtain ⟨_, _, _, _, _, _, _, _, _, _, _, _, z⟩ := hq
      exact z.elim
    | .ok (.ret u), hq => hq
    | .ok .next, hq => hq.elim
    | .ok .brk, hq => hq.elim
    | .ok .cont, hq => hq.elim⟩
def excFa (tab : MtT) : List Fm := tab.map fun q => .he (.exm q.1 q.2.1 q.2.2)
end HM

set_option Elab.async false
set_option linter.all false
set_option maxRecDepth 100000
set_option maxHeartbeats 4000000
/-! HMSimp: the pure functions reckoned: one equation a word. -/
namespace HM
open PySem PySem.Spec PyProof.Rows L2
section
variable {α β : Type} {ρ : Rho} {i : Nat} {d d' : D} {f f' : EV} {fo : EO} {fa : EA} {g g' : EB} {s s' : SV} {c : XC} {ns : List Str} {ds : List D} {x y : Int}
/-! ### outcomes -/
@[simp] theorem bind_ok {a : α} {k : α → Rho → Out β} : (Out.ok a ρ).bind k = k a ρ := id rfl
@[simp] theorem bind_exc {k : α → Rho → Out β} : (Out.exc c ns ds ρ : Out α).bind k = .exc c ns ds ρ := id rfl
@[simp] theorem bind_stuck {k : α → Rho → Out β} : (Out.stuck : Out α).bind k = .stuck := id rfl
@[simp] theorem of_some {a : α} : Out.of (some a) ρ = .ok a ρ := id rfl
@[simp] theorem of_none : Out.of (none : Option α) ρ = .stuck := id rfl
@[simp] theorem stm_ok {a : α} {k : α → Rho → SOut} : (Out.ok a ρ).stm k = k a ρ := id rfl
@[simp] theorem stm_exc {k : α → Rho → SOut} : (Out.exc c ns ds ρ : Out α).stm k = .exc c ns ds ρ := id rfl
@[simp] theorem stm_stuck {k : α → Rho → SOut} : (Out.stuck : Out α).stm k = .stuck := id rfl
@[simp] theorem seq_nx {k : SV} : (SOut.nx ρ).seq k = k ρ := id rfl
@[simp] theorem seq_rt {k : SV} {z : Sl} : (SOut.rt z ρ).seq k = .rt z ρ := id rfl
@[simp] theorem seq_bk {k : SV} : (SOut.bk ρ).seq k = .bk ρ := id rfl
@[simp] theorem seq_ct {k : SV} : (SOut.ct ρ).seq k = .ct ρ := id rfl
@[simp] theorem seq_exc {k : SV} : (SOut.exc c ns ds ρ).seq k = .exc c ns ds ρ := id rfl
@[simp] theorem seq_stuck {k : SV} : SOut.stuck.seq k = .stuck := id rfl
/-! ### statements -/
@[simp] theorem skp_ap : skp ρ = .nx ρ := id rfl
@[simp] theorem sq_ap : sq s s' ρ = (s ρ).seq s' := id rfl
@[simp] theorem asg_ap : asg i fo ρ = (fo ρ).stm fun s ρ1 => .nx (ρ1.set i s) := id rfl
@[simp] theorem dropS_ap : dropS fo ρ = (fo ρ).stm fun _ ρ1 => .nx ρ1 := id rfl
@[simp] theorem retS_ap : retS fo ρ = (fo ρ).stm fun s ρ1 => .rt s ρ1 := id rfl
@[simp] theorem retN_ap : retN ρ = .rt (.val .non) ρ := id rfl
theorem ifS_ap : ifS g s s' ρ = (g ρ).stm fun b ρ1 => if b = true then s ρ1 else s' ρ1 := by
  unfold ifS
  congr 1
  funext b ρ1
  cases b <;> rfl
@[simp] theorem fgt_ap {is : List Nat} : fgt is ρ = .nx (is.foldl (fun r i => r.set i .non) ρ) := id rfl
@[simp] theorem tgN_ap : tgN i d ρ = some (ρ.set i (.val d)) := id rfl
@[simp] theorem tgT_ap {ts : List Tg} : tgT ts (.tup ds) ρ = tgs ts ds ρ := id rfl
@[simp] theorem tgs_nil : tgs [] [] ρ = some ρ := id rfl
@[simp] theorem tgs_cons {t : Tg} {ts : List Tg} : tgs (t :: ts) (d :: ds) ρ = (t d ρ).bind (tgs ts ds) := id rfl
theorem asgT_ap {t : Tg} : asgT t f ρ = (f ρ).stm fun d ρ1 => match t d ρ1 with
  | some ρ2 => .nx ρ2
  | none => .stuck := id rfl
theorem augS_ap {gg : D → D → Option D} : augS i gg f ρ = (Out.of (valAt i ρ) ρ).stm fun a ρ0 => (f ρ0).stm fun d ρ1 => (Out.of (gg a d) ρ1).stm fun z ρ2 => .nx (ρ2.set i (.val z)) := id rfl
theorem forE_ap {t : Tg} : forE fa t s ρ = (fa ρ).stm fun ds ρ1 => forS t s ds ρ1 := id rfl
theorem forS_nil {t : Tg} : forS t s [] ρ = .nx ρ := id rfl
theorem forS_cons {t : Tg} : forS t s (d :: ds) ρ = match t d ρ with
  | none => .stuck
  | some ρ1 => match s ρ1 with
    | .nx ρ2 => forS t s ds ρ2
    | .ct ρ2 => forS t s ds ρ2
    | .bk ρ2 => .nx ρ2
    | o => o := id rfl
theorem whileS_zero : whileS g s 0 ρ = .stuck := id rfl
theorem whileS_succ {n : Nat} : whileS g s (n + 1) ρ = (g ρ).stm fun b ρ1 => if b = true then (match s ρ1 with
    | .nx ρ2 => whileS g s n ρ2
    | .ct ρ2 => whileS g s n ρ2
    | .bk ρ2 => .nx ρ2
    | o => o) else .nx ρ1 := by
  show (g ρ).stm _ = _
  congr 1
  funext b ρ1
  cases b <;> rfl
/-! ### expressions -/
@[simp] theorem cst_ap : cst d ρ = .ok d ρ := id rfl
theorem var_ap : var i ρ = match ρ[i]? with
  | some (.val d) => .ok d ρ
  | some (.own d) => .ok d (ρ.set i (.val d))
  | _ => .stuck := id rfl
theorem move_ap : move i ρ = match ρ[i]? with
  | some (.val d) => .ok (.val d) ρ
  | some (.own d) => .ok (.own d) (ρ.set i .non)
  | _ => .stuck := id rfl
@[simp] theorem thw_ap : thw f ρ = (f ρ).bind fun d ρ1 => .ok (.val d) ρ1 := id rfl
@[simp] theorem frz_ap : frz fo ρ = (fo ρ).bind fun s ρ1 => Out.of s.data ρ1 := id rfl
@[simp] theorem op1_ap {gg : D → Option D} : op1 gg f ρ = (f ρ).bind fun d ρ1 => Out.of (gg d) ρ1 := id rfl
@[simp] theorem op2_ap {gg : D → D → Option D} : op2 gg f f' ρ = (f ρ).bind fun d ρ1 => (f' ρ1).bind fun d' ρ2 => Out.of (gg d d') ρ2 := id rfl
@[simp] theorem opV1_ap {gg : D → Option D} : opV1 gg i ρ = Out.of ((peek i ρ).bind gg) ρ := id rfl
@[simp] theorem opV2_ap {gg : D → D → Option D} : opV2 gg i f' ρ = (Out.of (peek i ρ) ρ).bind fun _ ρ1 => (f' ρ1).bind fun d' ρ2 => Out.of ((peek i ρ2).bind fun d => gg d d') ρ2 := id rfl
@[simp] theorem opN_ap {gg : List D → Option D} : opN gg fa ρ = (fa ρ).bind fun ds ρ1 => Out.of (gg ds) ρ1 := id rfl
@[simp] theorem aNil_ap : aNil ρ = .ok [] ρ := id rfl
@[simp] theorem aCons_ap : aCons f fa ρ = (f ρ).bind fun d ρ1 => (fa ρ1).bind fun ds ρ2 => .ok (d :: ds) ρ2 := id rfl
@[simp] theorem tupE_ap : tupE fa ρ = (fa ρ).bind fun ds ρ1 => Out.of (if small ds.length = true then some (.tup ds) else none) ρ1 := id rfl
@[simp] theorem lstE_ap : lstE fa ρ = (fa ρ).bind fun ds ρ1 => Out.of (if small ds.length = true then some (.own (.lst ds)) else none) ρ1 := id rfl
@[simp] theorem newV1_ap {gg : D → Option (List D)} : newV1 gg i ρ = Out.of (((peek i ρ).bind gg).map fun ds => Sl.own (.lst ds)) ρ := id rfl
@[simp] theorem new1_ap {gg : D → Option (List D)} : new1 gg f ρ = (f ρ).bind fun d ρ1 => Out.of ((gg d).map fun ds => Sl.own (.lst ds)) ρ1 := id rfl
theorem asB_ap : asB f ρ = (f ρ).bind fun d ρ1 => match d with
  | .bl b => .ok b ρ1
  | _ => .stuck := id rfl
theorem andB_ap : andB g g' ρ = (g ρ).bind fun b ρ1 => if b = true then g' ρ1 else .ok false ρ1 := by
  unfold andB
  congr 1
  funext b ρ1
  cases b <;> rfl
theorem orB_ap : orB g g' ρ = (g ρ).bind fun b ρ1 => if b = true then .ok true ρ1 else g' ρ1 := by
  unfold orB
  congr 1
  funext b ρ1
  cases b <;> rfl
@[simp] theorem notB_ap : notB g ρ = (g ρ).bind fun b ρ1 => .ok (!b) ρ1 := id rfl
theorem ifE_ap {f f' : Rho → Out α} : ifE g f f' ρ = (g ρ).bind fun b ρ1 => if b = true then f ρ1 else f' ρ1 := by
  unfold ifE
  congr 1
  funext b ρ1
  cases b <;> rfl
theorem andV_ap : andV f f' ρ = (f ρ).bind fun d ρ1 => match d with
  | .bl true => f' ρ1
  | .bl false => .ok (.bl false) ρ1
  | _ => .stuck := id rfl
theorem orV_ap : orV f f' ρ = (f ρ).bind fun d ρ1 => match d with
  | .bl true => .ok (.bl true) ρ1
  | .bl false => f' ρ1
  | _ => .stuck := id rfl
theorem andV_bl {b : Bool} {ρ1 : Rho} (h : f ρ = .ok (.bl b) ρ1) : andV f f' ρ = if b = true then f' ρ1 else .ok (.bl false) ρ1 := by
  rw [andV_ap, h]
  cases b <;> rfl
theorem orV_bl {b : Bool} {ρ1 : Rho} (h : f ρ = .ok (.bl b) ρ1) : orV f f' ρ = if b = true then .ok (.bl true) ρ1 else f' ρ1 := by
  rw [orV_ap, h]
  cases b <;> rfl
theorem chain_ap {g1 g2 : D → D → Option D} {f'' : EV} : chain g1 g2 f f' f'' ρ = (f ρ).bind fun d ρ1 => (f' ρ1).bind fun d' ρ2 => (Out.of (g1 d d') ρ2).bind fun z ρ3 => match z with
  | .bl true => (f'' ρ3).bind fun d'' ρ4 => Out.of (g2 d' d'') ρ4
  | .bl false => .ok (.bl false) ρ3
  | _ => .stuck := id rfl
@[simp] theorem isInst_ap {T : String} : isInst T f ρ = (f ρ).bind fun d ρ1 => Out.of (isT T d) ρ1 := id rfl
@[simp] theorem itE_ap : itE f ρ = (f ρ).bind fun d ρ1 => Out.of (items d) ρ1 := id rfl
@[simp] theorem rng1_ap : rng1 f ρ = (f ρ).bind fun d ρ1 => Out.of (rng1D d) ρ1 := id rfl
@[simp] theorem rng2_ap : rng2 f f' ρ = (f ρ).bind fun d ρ1 => (f' ρ1).bind fun d' ρ2 => Out.of (rng2D d d') ρ2 := id rfl
theorem callF_ap {fs : FS} {dds : List D} : callF fs dds fa ρ = (fa ρ).bind fun ds ρ1 => match fs none (ds ++ dds) with
  | .ret s none => .ok s ρ1
  | .exc c ns es none => .exc c ns es ρ1
  | _ => .stuck := id rfl
theorem callL_ap {fs : FS} {dds : List D} : callL fs i dds fa ρ = (Out.of ((ρ[i]?).bind mutD) ρ).bind fun _ ρ0 => (fa ρ0).bind fun ds ρ1 => (Out.of ((ρ1[i]?).bind mutD) ρ1).bind fun d ρ2 => match fs (some d) (ds ++ dds) with
  | .ret s (some d') => .ok s (putAt i d' ρ2)
  | .exc c ns es (some d') => .exc c ns es (putAt i d' ρ2)
  | _ => .stuck := id rfl
theorem appE_ap : appE i f ρ = (Out.of (lstAt i ρ) ρ).bind fun _ ρ0 => (f ρ0).bind fun d ρ1 => (Out.of (lstAt i ρ1) ρ1).bind fun ds ρ2 => if small (ds.length + 1) = true then .ok .non (putAt i (.lst (ds ++ [d])) ρ2) else .stuck := id rfl
theorem popE_ap : popE i ρ = (Out.of (lstAt i ρ) ρ).bind fun ds ρ0 => (Out.of ds.getLast? ρ0).bind fun d ρ1 => .ok d (putAt i (.lst ds.dropLast) ρ1) := id rfl
theorem revE_ap : revE i ρ = (Out.of (lstAt i ρ) ρ).bind fun ds ρ0 => .ok .non (putAt i (.lst ds.reverse) ρ0) := id rfl
theorem raiseS_ap {x : Str} {names : List Str} : raiseS x names fa ρ = (fa ρ).stm fun ds ρ1 => if ds.length = names.length ∧ ds.length ≤ 1000 then .exc (.own x) names.reverse ds.reverse ρ1 else .stuck := id rfl
theorem slcV_ap {lo hi : EP1} : slcV i lo hi ρ = (Out.of (peek i ρ) ρ).bind fun _ ρ1 => (lo ρ1).bind fun l ρ2 => (hi ρ2).bind fun h ρ3 => Out.of ((peek i ρ3).bind fun d => slcD d l h) ρ3 := id rfl
theorem intP_ap : intP f ρ = (f ρ).bind fun d ρ1 => match d with
  | .int i => .ok (some i) ρ1
  | _ => .stuck := id rfl
@[simp] theorem noP_ap : noP ρ = .ok none ρ := id rfl
/-! ### data -/
@[simp] theorem addD_i : addD (.int x) (.int y) = some (.int (x + y)) := id rfl
@[simp] theorem addI_i : addI (.int x) (.int y) = some (.int (x + y)) := id rfl
@[simp] theorem subD_i : subD (.int x) (.int y) = some (.int (x - y)) := id rfl
@[simp] theorem negD_i : negD (.int x) = some (.int (-x)) := id rfl
@[simp] theorem ltD_i : ltD (.int x) (.int y) = some (.bl (decide (x < y))) := id rfl
@[simp] theorem leD_i : leD (.int x) (.int y) = some (.bl (decide (x ≤ y))) := id rfl
@[simp] theorem gtD_i : gtD (.int x) (.int y) = some (.bl (decide (y < x))) := id rfl
@[simp] theorem geD_i : geD (.int x) (.int y) = some (.bl (decide (y ≤ x))) := id rfl
@[simp] theorem intD_i : intD (.int x) = some (.int x) := id rfl
@[simp] theorem absD_i : absD (.int x) = some (.int (if x < 0 then -x else x)) := id rfl
theorem modD_i (h : y ≠ 0) : modD (.int x) (.int y) = some (.int (x.fmod y)) := if_pos h
theorem fdivD_i (h : divOk y = true) : fdivD (.int x) (.int y) = some (.int (x.fdiv y)) := by
  unfold fdivD
  exact if_pos h
theorem mulD_i (h : mulOk x y = true) : mulD (.int x) (.int y) = some (.int (x * y)) := by
  unfold mulD
  exact if_pos h
theorem log2_lt {a k : Nat} (h : a < 2 ^ k) (hk : 0 < k) : a.log2 < k := by
  by_cases h0 : a = 0
  · subst h0
    exact hk
  · exact (Nat.log2_lt h0).mpr h
theorem mulOk_of (hx : x.natAbs < 2 ^ 250) (hy : y.natAbs < 2 ^ 250) : mulOk x y = true := by
  unfold mulOk
  have h1 := log2_lt hx (by omega)
  have h2 := log2_lt hy (by omega)
  exact decide_eq_true (by omega)
theorem divOk_of (h0 : y ≠ 0) (hy : y.natAbs < 2 ^ 250) : divOk y = true := by
  unfold divOk
  have h1 := log2_lt hy (by omega)
  rw [Bool.and_eq_true]
  exact ⟨decide_eq_true h0, decide_eq_true (by omega)⟩
theorem lt_pow {a k n : Nat} (h : a < 2 ^ k) (hk : k ≤ n) : a < 2 ^ n := Nat.lt_of_lt_of_le h (Nat.pow_le_pow_right (by decide) hk)
/-- small numbers -/
def Sm (x : Int) : Prop := x.natAbs < 2 ^ 200
theorem mulD_s (hx : Sm x) (hy : Sm y) : mulD (.int x) (.int y) = some (.int (x * y)) := mulD_i (mulOk_of (lt_pow hx (by decide)) (lt_pow hy (by decide)))
theorem fdivD_s (h0 : y ≠ 0) (hy : Sm y) : fdivD (.int x) (.int y) = some (.int (x.fdiv y)) := fdivD_i (divOk_of h0 (lt_pow hy (by decide)))
theorem sm_of (h1 : -(2 ^ 190) ≤ x) (h2 : x ≤ 2 ^ 190) : Sm x := by
  unfold Sm
  have : x.natAbs ≤ 2 ^ 190 := by omega
  exact Nat.lt_of_le_of_lt this (by decide)
theorem eqD_i : eqD (.int x) (.int y) = some (.bl (decide (x = y))) := by
  show (eqvD (.int x) (.int y)).map D.bl = _
  have e : eqvD (.int x) (.int y) = some (decide (x = y)) := by
    show some (x == y) = _
    rfl
  rw [e]
  rfl
theorem neD_i : neD (.int x) (.int y) = some (.bl (!decide (x = y))) := by
  show (eqvD (.int x) (.int y)).map (fun b => D.bl (!b)) = _
  have e : eqvD (.int x) (.int y) = some (decide (x = y)) := by
    show some (x == y) = _
    rfl
  rw [e]
  rfl
@[simp] theorem peek_ap : peek i ρ = (ρ[i]?).bind Sl.data := id rfl
@[simp] theorem data_val : (Sl.val d).data = some d := id rfl
@[simp] theorem data_own : (Sl.own d).data = some d := id rfl
@[simp] theorem data_inp : (Sl.inp d).data = some d := id rfl
@[simp] theorem mutD_own : mutD (Sl.own d) = some d := id rfl
@[simp] theorem mutD_inp : mutD (Sl.inp d) = some d := id rfl
@[simp] theorem put_own : (Sl.own d).put d' = .own d' := id rfl
@[simp] theorem put_inp : (Sl.inp d).put d' = .inp d' := id rfl
theorem putAt_ap : putAt i d ρ = match ρ[i]? with
  | some s => ρ.set i (s.put d)
  | none => ρ := id rfl
theorem lstAt_ap : lstAt i ρ = match (ρ[i]?).bind mutD with
  | some (.lst ds) => some ds
  | _ => none := id rfl
theorem valAt_ap : valAt i ρ = match ρ[i]? with
  | some (.val d) => some d
  | _ => none := id rfl
@[simp] theorem lenD_l : lenD (.lst ds) = some (.int ds.length) := id rfl
@[simp] theorem lenD_t : lenD (.tup ds) = some (.int ds.length) := id rfl
@[simp] theorem lenD_s {zs : List Int} : lenD (.scr zs) = some (.int zs.length) := id rfl
@[simp] theorem tupleD_l : tupleD (.lst ds) = some (.tup ds) := id rfl
@[simp] theorem notD_b {b : Bool} : notD (.bl b) = some (.bl (!b)) := id rfl
@[simp] theorem items_l : items (.lst ds) = some ds := id rfl
@[simp] theorem items_t : items (.tup ds) = some ds := id rfl
theorem rng1_i (h : inBnd x = true) : rng1D (.int x) = some (intsFrom 0 x.toNat) := if_pos h
theorem rng2_i (h1 : inBnd x = true) (h2 : inBnd y = true) : rng2D (.int x) (.int y) = some (intsFrom x (y - x).toNat) := by
  show (if (inBnd x && inBnd y) = true then _ else _) = _
  rw [if_pos (by rw [h1, h2]; rfl)]
theorem inBnd_of (h1 : -(2 ^ 60) ≤ x) (h2 : x ≤ 2 ^ 60) : inBnd x = true := by
  unfold inBnd
  rw [Bool.and_eq_true]
  exact ⟨decide_eq_true (by omega), decide_eq_true (by omega)⟩
theorem small_of {n : Nat} (h : n ≤ 100000) : small n = true := decide_eq_true h
theorem intsFrom_zero {lo : Int} : intsFrom lo 0 = [] := id rfl
theorem intsFrom_succ {lo : Int} {n : Nat} : intsFrom lo (n + 1) = .int lo :: intsFrom (lo + 1) n := by
  unfold intsFrom
  rw [List.range_succ_eq_map, List.map_cons, List.map_map]
  congr 1
  · simp
  · apply List.map_congr_left
    intro k _
    show D.int (lo + ((k + 1 : Nat) : Int)) = D.int (lo + 1 + (k : Int))
    congr 1
    omega
/-! ### defs -/
theorem defF_ap {n N : Nat} {l : Option D} : defF n N s l ds = if (lentS l ++ ds.map Sl.val).length = n then finF l (s (lentS l ++ ds.map .val ++ List.replicate (N - n) .non)) else .stuck := id rfl
@[simp] theorem finF_rt0 {z : Sl} : finF none (.rt z ρ) = .ret z none := id rfl
@[simp] theorem finF_nx0 : finF none (.nx ρ) = .ret (.val .non) none := id rfl
@[simp] theorem finF_exc0 : finF none (.exc c ns ds ρ) = .exc c ns ds none := id rfl
theorem finF_rt1 {z : Sl} {a b : D} {r : Rho} : finF (some a) (.rt z (.inp b :: r)) = .ret z (some b) := id rfl
theorem finF_nx1 {a b : D} {r : Rho} : finF (some a) (.nx (.inp b :: r)) = .ret (.val .non) (some b) := id rfl
end
/-- a for that never leaves early -/
theorem forS_inv {t : Tg} {s : SV} {P : Nat → Rho → Prop} : ∀ (ds : List D) (i0 : Nat) (ρ : Rho), (∀ i d ρ, ds[i]? = some d → P (i0 + i) ρ → ∃ ρ1 ρ2, t d ρ = some ρ1 ∧ (s ρ1 = .nx ρ2 ∨ s ρ1 = .ct ρ2) ∧ P (i0 + i + 1) ρ2) → P i0 ρ → ∃ ρ', forS t s ds ρ = .nx ρ' ∧ P (i0 + ds.length) ρ'
  | [], i0, ρ, _, h => ⟨ρ, rfl, h⟩
  | d :: ds, i0, ρ, st, h => by
    obtain ⟨ρ1, ρ2, e1, e2, h2⟩ := st 0 d ρ rfl h
    obtain ⟨ρ', e3, h3⟩ := forS_inv (t := t) (s := s) (P := P) ds (i0 + 1) ρ2 (fun i d' ρ hd hp => by
      obtain ⟨r1, r2, k1, k2, k3⟩ := st (i + 1) d' ρ hd (by rw [show i0 + (i + 1) = i0 + 1 + i by omega]; exact hp)
      exact ⟨r1, r2, k1, k2, by rw [show i0 + 1 + i + 1 = i0 + (i + 1) + 1 by omega]; exact k3⟩) h2
    refine ⟨ρ', ?_, by rw [List.length_cons, show i0 + (ds.length + 1) = i0 + 1 + ds.length by omega]; exact h3⟩
    rw [forS_cons, e1]
    rcases e2 with e2 | e2
    · simp only [e2, e3]
    · simp only [e2, e3]
theorem intsFrom_get {lo : Int} {n i : Nat} {d : D} (h : (intsFrom lo n)[i]? = some d) : i < n ∧ d = .int (lo + (i : Int)) := by
  unfold intsFrom at h
  rw [List.getElem?_map] at h
  obtain ⟨k, hk, e⟩ := Option.map_eq_some_iff.mp h
  obtain ⟨hlt, ek⟩ := List.getElem?_eq_some_iff.mp hk
  rw [List.length_range] at hlt
  rw [List.getElem_range] at ek
  subst ek
  exact ⟨hlt, e.symm⟩
@[simp] theorem intsFrom_length {lo : Int} {n : Nat} : (intsFrom lo n).length = n := by
  unfold intsFrom
  rw [List.length_map, List.length_range]
/-- a while with a bound of its turns -/
theorem whileS_inv {g : EB} {s : SV} {P : Nat → Rho → Prop} {Q : Rho → Prop} : ∀ (n m : Nat) (ρ : Rho), m < n → P m ρ →
    (∀ m ρ, P m ρ → ∃ b ρ1, g ρ = .ok b ρ1 ∧ (b = false → Q ρ1) ∧ (b = true → ∃ m' ρ2, (s ρ1 = .nx ρ2 ∨ s ρ1 = .ct ρ2) ∧ m' < m ∧ P m' ρ2)) → ∃ ρ', whileS g s n ρ = .nx ρ' ∧ Q ρ'
  | 0, m, _, h, _, _ => absurd h (Nat.not_lt_zero m)
  | n + 1, m, ρ, h, hp, st => by
    obtain ⟨b, ρ1, e1, h0, h1⟩ := st m ρ hp
    rw [whileS_succ, e1]
    cases b with
    | false => exact ⟨ρ1, rfl, h0 rfl⟩
    | true =>
      obtain ⟨m', ρ2, e2, hm, hp2⟩ := h1 rfl
      obtain ⟨ρ', e3, hq⟩ := whileS_inv n m' ρ2 (by omega) hp2 st
      refine ⟨ρ', ?_, hq⟩
      rcases e2 with e2 | e2
      · simp only [stm_ok, e2, e3, if_true]
      · simp only [stm_ok, e2, e3, if_true]
/-- a list of ints, pairs of ints -/
def L (is : List Int) : List D := is.map .int
@[simp] theorem L_length {is : List Int} : (L is).length = is.length := List.length_map ..
def Pr (ps : List (Int × Int)) : List D := ps.map fun q => .tup [.int q.1, .int q.2]
end HM

set_option Elab.async false
set_option linter.all false
set_option maxRecDepth 100000
set_option maxHeartbeats 4000000
/-! HMData: equality and membership of pairs of ints. -/
namespace HM
open PySem PySem.Spec PyProof.Rows L2
def pyP (q : Int × Int) : PyData := .tuple [.int q.1, .int q.2]
theorem toPys_Pr : ∀ ps : List (Int × Int), toPys (Pr ps) = some (ps.map pyP)
  | [] => rfl
  | q :: ps => by
    have h := toPys_Pr ps
    show (match toPy (.tup [.int q.1, .int q.2]), toPys (Pr ps) with
      | some p, some ps => some (p :: ps)
      | _, _ => none) = _
    rw [h]
    rfl
theorem lay_Pr : ∀ ps : List (Int × Int), PyData.canLayAll0 (ps.map pyP) = true
  | [] => rfl
  | q :: ps => by
    rw [List.map_cons, PyData.canLayAll0, lay_Pr ps]
    rfl
theorem depth_Pr : ∀ ps : List (Int × Int), PyData.depthAll (ps.map pyP) ≤ 3
  | [] => by
    simp only [List.map_nil, PyData.depthAll]
    omega
  | q :: ps => by
    have h := depth_Pr ps
    have e : PyData.depthAll ((q :: ps).map pyP) = max (PyData.depth (pyP q)) (PyData.depthAll (ps.map pyP)) := by
      rw [List.map_cons, PyData.depthAll]
    have e2 : PyData.depth (pyP q) ≤ 3 := by
      simp only [pyP, PyData.depth, PyData.depthAll]
      omega
    omega
theorem shaped_T (ps : List (Int × Int)) : SeqAt.shaped (.tuple (ps.map pyP)) = true := by
  have h := depth_Pr ps
  unfold SeqAt.shaped
  rw [Bool.and_eq_true]
  refine ⟨by rw [PyData.canLay0]; exact lay_Pr ps, decide_eq_true ?_⟩
  simp only [PyData.depth]
  omega
theorem shaped_L (ps : List (Int × Int)) : SeqAt.shaped (.list (ps.map pyP)) = true := by
  have h := depth_Pr ps
  unfold SeqAt.shaped
  rw [Bool.and_eq_true]
  refine ⟨by rw [PyData.canLay0]; exact lay_Pr ps, decide_eq_true ?_⟩
  simp only [PyData.depth]
  omega
theorem shaped_P (q : Int × Int) : SeqAt.shaped (pyP q) = true := by
  unfold SeqAt.shaped pyP
  rw [Bool.and_eq_true]
  refine ⟨rfl, decide_eq_true ?_⟩
  simp only [PyData.depth, PyData.depthAll]
  omega
theorem eqv_P (a b : Int × Int) : PyData.eqv (pyP a) (pyP b) = decide (a = b) := by
  obtain ⟨a1, a2⟩ := a
  obtain ⟨b1, b2⟩ := b
  simp [pyP, PyData.eqv, PyData.eqvAll, Bool.decide_and]
  rfl
theorem eqv_Ps : ∀ ps qs : List (Int × Int), PyData.eqvAll (ps.map pyP) (qs.map pyP) = decide (ps = qs)
  | [], [] => by simp [PyData.eqvAll]
  | [], q :: qs => by simp [PyData.eqvAll]
  | p :: ps, [] => by simp [PyData.eqvAll]
  | p :: ps, q :: qs => by
    rw [List.map_cons, List.map_cons, PyData.eqvAll, eqv_P, eqv_Ps ps qs]
    simp
theorem eqD_Pr (ps qs : List (Int × Int)) : eqD (.tup (Pr ps)) (.tup (Pr qs)) = some (.bl (decide (ps = qs))) := by
  have h : ∀ ps, toPy (.tup (Pr ps)) = some (.tuple (ps.map pyP)) := fun ps => by
    show (toPys (Pr ps)).map PyData.tuple = _
    rw [toPys_Pr]
    rfl
  unfold eqD eqvD
  rw [h, h]
  simp only [shaped_T, Bool.and_self, if_true, Option.map_some, PyData.eqv, eqv_Ps]
theorem inD_Pr (neg : Bool) (a b : Int) (qs : List (Int × Int)) : inD neg (.tup [.int a, .int b]) (.lst (Pr qs)) = some (.bl (if neg then !decide ((a, b) ∈ qs) else decide ((a, b) ∈ qs))) := by
  have h1 : toPy (.tup [.int a, .int b]) = some (pyP (a, b)) := rfl
  have h2 : toPy (.lst (Pr qs)) = some (.list (qs.map pyP)) := by
    show (toPys (Pr qs)).map PyData.list = _
    rw [toPys_Pr]
    rfl
  have h3 : (qs.map pyP).any (fun y => PyData.eqv y (pyP (a, b))) = decide ((a, b) ∈ qs) := by
    rw [List.any_map, Bool.eq_iff_iff, List.any_eq_true, decide_eq_true_iff]
    constructor
    · rintro ⟨y, hy, e⟩
      have e2 : PyData.eqv (pyP y) (pyP (a, b)) = true := e
      rw [eqv_P] at e2
      rw [← of_decide_eq_true e2]
      exact hy
    · intro hy
      refine ⟨_, hy, ?_⟩
      show PyData.eqv (pyP (a, b)) (pyP (a, b)) = true
      rw [eqv_P]
      exact decide_eq_true rfl
  unfold inD inB
  rw [h1, h2]
  simp only [inPy, shaped_L, shaped_P, Bool.and_self, if_true, Option.map_some, h3]
end HM

set_option Elab.async false
set_option linter.all false
set_option maxRecDepth 100000
set_option maxHeartbeats 4000000
/-! HMIns: instances: fields read and set, made, methods, properties; a statement that is never reached. -/
namespace HM
open PySem PySem.Spec PyProof.Rows L2

/-! ### never reached -/
theorem qs_stuck {X : Cx} {Γ : Gam} {st : Stmt} : QS X Γ st fun _ => .stuck := ⟨fun pins s σ H E I ⟨B, F, ρ, A, q⟩ => q.elim⟩
theorem qe_stuck {X : Cx} {Γ : Gam} {e : Expr} : QE X Γ e fun _ => .stuck := ⟨fun pins s σ H Q I ⟨B, F, ρ, A, q⟩ => q.elim⟩
theorem qo_stuck {X : Cx} {Γ : Gam} {e : Expr} : QO X Γ e fun _ => .stuck := ⟨fun pins s σ H Q I ⟨B, F, ρ, A, q⟩ => q.elim⟩

/-! ### fields -/
theorem seen_ins {K : PySem.W.Frag} {F H : Hp} (s : Same F H) {C : Str} {ns : List Str} {ds : List D} {v : V} (h : Seen K F H (.ins C ns ds) v) : ∃ a dx fs, v = .ref a ∧ H a = some (.ins (He.ga K C) dx fs) ∧ fs.map (·.1) = ns ∧ Reps K F ds (fs.map (·.2)) := by
  rcases h with ⟨a, dx, fs, ev, hs, hn, hr⟩ | ⟨a, ev, dx, fs, hs, hn, hr⟩
  · exact ⟨a, dx, fs, ev, s _ _ hs, hn, hr⟩
  · exact ⟨a, dx, fs, ev, hs, hn, hr⟩
/-- the classes that have the field f -/
def FTab (K : PySem.W.Frag) (tab : List Str) (f : Str) : Prop := ∀ C ∈ tab, Cls K (He.ga K C) ∧ NoAttr K (He.ga K C) f
def fldD (tab : List Str) (f : Str) : D → Option D
  | .ins C ns ds => if C ∈ tab then (ns.zip ds).lookup f else none
  | _ => none
theorem fld_run {K : PySem.W.Frag} {tab : List Str} {f : Str} (T : FTab K tab f) {d z : D} (h : fldD tab f d = some z) {F H : Hp} {x : V} {Q : VK} (s : Same F H) (sn : Seen K F H d x) (q : ∀ v, Rep K F z v → Q v H) :
    ∃ a C dx fs v, x = .ref a ∧ H a = some (.ins C dx fs) ∧ Cls K C ∧ NoAttr K C f ∧ fs.lookup f = some v ∧ Q v H := by
  cases d with
  | ins C ns ds =>
    have h2 : (if C ∈ tab then (ns.zip ds).lookup f else none) = some z := h
    split at h2
    · rename_i hC
      obtain ⟨a, dx, fs, ev, hs, hn, hr⟩ := seen_ins s sn
      obtain ⟨v, hv, rv⟩ := reps_lookup hn hr h2
      exact ⟨a, _, dx, fs, v, ev, hs, (T C hC).1, (T C hC).2, hv, q v rv⟩
    · cases h2
  | _ => cases h
section
variable {X : Cx} {Γ : Gam} {e e' o : Expr} {es : List Expr} {g : EV} {fa : EA} {pos p : Pos} {i : Nat} {f : Str} {tab : List Str}
theorem qe_fld (T : FTab X.K tab f) (he : QE X Γ e g) (hb : attributeBase e f X.env (eval e X.env) = eval e X.env := by rfl) : QE X Γ (.Attribute e f pos) (op1 (fldD tab f) g) :=
  pe_weak (pe_fld he hb) fun σ H Q ⟨B, F, ρ, A, q⟩ => ⟨B, F, ρ, A, (After.bind (o := g ρ) q).mono fun d ρ1 F1 H1 s1 A1 q1 v r => by
    obtain ⟨z, ez, q2⟩ := After.of q1
    exact fld_run T ez A1.sub (Or.inl r) fun w rw' => q2 F1 H1 (Same.refl F1) A1 w rw'⟩
theorem qe_fldV (T : FTab X.K tab f) (he : PE X e (tVar i)) (hb : attributeBase e f X.env (eval e X.env) = eval e X.env := by rfl) : QE X Γ (.Attribute e f pos) (opV1 (fldD tab f) i) :=
  pe_weak (pe_fld he hb) fun σ H Q ⟨B, F, ρ, A, q⟩ => by
    obtain ⟨z, ez, q2⟩ := After.of q
    obtain ⟨d, ed, ez⟩ := Option.bind_eq_some_iff.mp ez
    obtain ⟨v, ev, sn⟩ := seen_at A ed
    exact ⟨v, ev, fld_run T ez A.sub sn fun w rw' => q2 F H (Same.refl F) A w rw'⟩

/-! ### self.f = v -/
def putI : List Str → List D → Str → D → List Str × List D
  | n :: ns, d :: ds, f, v => if n = f then (n :: ns, v :: ds) else (n :: (putI ns ds f v).1, d :: (putI ns ds f v).2)
  | _, _, f, v => ([f], [v])
theorem putI_ok {K : PySem.W.Frag} {F : Hp} {f : Str} {y : V} {d : D} (r : Rep K F d y) : ∀ {fs : List (Str × V)} {ns : List Str} {ds : List D}, fs.map (·.1) = ns → Reps K F ds (fs.map (·.2)) → (putF f y fs).map (·.1) = (putI ns ds f d).1 ∧ Reps K F (putI ns ds f d).2 ((putF f y fs).map (·.2))
  | [], _, ds, hn, hr => by
    subst hn
    have e : ds = [] := by
      cases ds with
      | nil => rfl
      | cons a b =>
        obtain ⟨_, _, e, _⟩ := hr
        cases e
    subst e
    exact ⟨rfl, reps1 r⟩
  | (n, v) :: fs, _, ds, hn, hr => by
    subst hn
    cases ds with
    | nil =>
      have e : (v :: fs.map (·.2)) = [] := hr
      cases e
    | cons d0 ds =>
      obtain ⟨v', ws, ev, r1, r2⟩ := hr
      cases ev
      obtain ⟨k1, k2⟩ := putI_ok (f := f) r (fs := fs) rfl r2
      show ((if n = f then (n, y) :: fs else (n, v) :: putF f y fs).map (·.1) = (if n = f then (n :: fs.map (·.1), d :: ds) else (n :: (putI (fs.map (·.1)) ds f d).1, d0 :: (putI (fs.map (·.1)) ds f d).2)).1) ∧
        Reps K F (if n = f then (n :: fs.map (·.1), d :: ds) else (n :: (putI (fs.map (·.1)) ds f d).1, d0 :: (putI (fs.map (·.1)) ds f d).2)).2 ((if n = f then (n, y) :: fs else (n, v) :: putF f y fs).map (·.2))
      by_cases h : n = f
      · rw [if_pos h, if_pos h]
        exact ⟨rfl, reps_cons r r2⟩
      · rw [if_neg h, if_neg h]
        exact ⟨by rw [List.map_cons, k1], reps_cons r1 k2⟩
def insAt (i : Nat) (ρ : Rho) : Option D := match (ρ[i]?).bind mutD with
  | some (.ins C ns ds) => some (.ins C ns ds)
  | _ => none
def setFld (tab : List Str) (i : Nat) (f : Str) (g : EV) : SV := fun ρ => (g ρ).stm fun v ρ1 => match (ρ1[i]?).bind mutD with
  | some (.ins C ns ds) => if C ∈ tab ∧ ns.length ≤ 900 then .nx (putAt i (.ins C (putI ns ds f v).1 (putI ns ds f v).2) ρ1) else .stuck
  | _ => .stuck
theorem qs_setFld {pos' : Pos} (T : FTab X.K tab f) (ho : PE X o (tVar i)) (hv : QE X Γ e g) (hs : swapsWith e (some (.Attribute o f pos')) pos.line X.env = pure false := by rfl) : QS X Γ (.Assign [.Attribute o f pos'] e pos) (setFld tab i f g) :=
  ps_weak (ps_fld ho hv hs) fun E σ H ⟨B, F, ρ, A, q⟩ => ⟨B, F, ρ, A, (AfterS.of (o := g ρ) A q).mono fun v ρ1 F1 H1 s1 A1 q1 y r => by
    split at q1
    · rename_i C ns ds em
      split at q1
      · rename_i hc
        obtain ⟨s0, es0, ed⟩ := Option.bind_eq_some_iff.mp em
        have hd0 : s0 = .own (.ins C ns ds) ∨ s0 = .inp (.ins C ns ds) := by
          cases s0 with
          | own d' =>
            cases ed
            exact Or.inl rfl
          | inp d' =>
            cases ed
            exact Or.inr rfl
          | non => cases ed
          | pnd => cases ed
          | val d' => cases ed
        obtain ⟨a, ea, n, m, dx, fs, hs1, hn, hr⟩ := A1.own_at es0 hd0
        obtain ⟨k1, k2⟩ := putI_ok (f := f) r hn hr
        have A2 := A1.write (u := .ins (He.ga X.K C) dx (putF f y fs)) (d' := .ins C (putI ns ds f v).1 (putI ns ds f v).2) es0 hd0 ea ⟨dx, _, upd_same, k1, k2⟩
        have pt : putAt i (.ins C (putI ns ds f v).1 (putI ns ds f v).2) ρ1 = ρ1.set i (s0.put (.ins C (putI ns ds f v).1 (putI ns ds f v).2)) := by
          unfold putAt
          rw [es0]
        rw [pt] at q1
        exact ⟨_, ea, a, _, dx, fs, rfl, hs1, (T C hc.1).1, (T C hc.1).2, by
          have : fs.length = ns.length := by rw [← hn, List.length_map]
          omega, q1 F1 σ _ (Same.refl F1) A2⟩
      · exact q1.elim
    · exact q1.elim⟩

/-! ### C(e, ..) -/
def makeE (C : Str) (fs : FS) (dds : List D) (fa : EA) : EO := fun ρ => (fa ρ).bind fun ds ρ1 => match fs (some (.ins C [] [])) (ds ++ dds) with
  | .ret (.val .non) (some d) => match d with
    | .ins C' ns ds => .ok (.own (.ins C' ns ds)) ρ1
    | _ => .stuck
  | _ => .stuck
theorem qo_make {C : Str} {k n : Nat} {fd : FuncData} {ps : List Str} {fs : FS} {dvs : List V} {ds : List Value} {dds : List D} (M : Mk X.K (He.ga X.K C) (He.ma X.K (He.ga X.K C) "__init__")) (FO : FnOk X.prog X.w X.K X.mg X.base (L2.CX X.prog X.w) k (He.ma X.K (He.ga X.K C) "__init__") fd ps (spF X.K n fs)) (hr : Room (k + 1) X.A)
    (hg : Gl X C) (hm : X.mg C = some (.ref (He.ga X.K C))) (hb : Binds X.K fd ps ds) (hd : Vals dvs ds) (rd : ∀ F, Reps X.K F dds dvs)
    (hlen : (e :: es).length + 1 + dvs.length = n) (ha : QA X Γ (e :: es) fa) (hal : ∀ ρ zs ρ', fa ρ = .ok zs ρ' → zs.length = (e :: es).length) (hdb : (C == ("__debug__" : Str)) = false := by decide)
    (he : starEach (e :: es) X.env = (false, eval e X.env) :: starEach es X.env := by rfl) (hpl : (backTo pos (starEach es X.env)).any (·.1) = false := by rfl) : QO X Γ (.Call (.Name C p) (e :: es) [] pos) (makeE C fs dds fa) :=
  pe_weak (pe_make (E := fun _ _ _ => False) M FO hr hg hm hb hd passL ha hdb he hpl) fun σ H Q ⟨B, F, ρ, A, q⟩ => ⟨B, F, ρ, A, by
    have q0 := After.bind (o := fa ρ) q
    cases ho : fa ρ with
    | exc c ns es ρ1 =>
      rw [ho] at q0
      exact q0
    | stuck =>
      rw [ho] at q0
      exact q0
    | ok zs ρ1 =>
      rw [ho] at q0
      intro F1 H1 s1 A1 vs r x dx hx hdx hne
      have q1 : After X.K Γ B F1 σ (match fs (some (.ins C [] [])) (zs ++ dds) with
        | .ret (.val .non) (some d) => match d with
          | .ins C' ns ds => .ok (.own (.ins C' ns ds)) ρ1
          | _ => .stuck
        | _ => .stuck) (fun s ρ' F' H' => ∀ v, ResOk X.K B F' ρ' σ H' s v → Q v H') := q0 F1 H1 s1 A1
      have hl : zs.length = (e :: es).length := hal ρ zs ρ1 ho
      have sub2 : Same F1 (upd (upd H1 dx (.own x)) x (.ins (He.ga X.K C) dx [])) := (A1.sub.trans (same_upd hdx)).trans (same_upd (by rw [upd_ne (Ne.symm hne)]; exact hx))
      refine ⟨by rw [List.length_cons, List.length_append, ← r.length, hl]; omega, F1, some (x, .ins C [] []), vs ++ dvs, zs ++ dds, sub2, rfl, r.append (rd F1), fun a d z => by cases z; exact ⟨A1.sub.free hx, dx, [], upd_same, rfl, rfl⟩, ?_⟩
      show (match fs (some (.ins C [] [])) (zs ++ dds) with
        | .ret s b => ∀ F' H' v, Ret X.K F1 _ (some x) F' H' b → NewOk X.K _ F' H' s v → v = .non ∧ Q (.ref x) H'
        | .exc c ns es b => ∀ dx F' H', Ret X.K F1 _ (some x) F' H' b → ExOk X.K F' ns es dx → False
        | .stuck => False)
      cases hf : fs (some (.ins C [] [])) (zs ++ dds) with
      | stuck =>
        rw [hf] at q1
        exact q1
      | exc c ns es b =>
        rw [hf] at q1
        exact q1.elim
      | ret s b =>
        rw [hf] at q1
        cases s with
        | val z =>
          cases z with
          | non =>
            cases b with
            | none => exact q1.elim
            | some d =>
              cases d with
              | ins C' ns' ds' =>
                intro F' H' v R nw
                refine ⟨nw, ?_⟩
                obtain ⟨w, nF⟩ := R.back
                have free : ∀ a o, F' a = some o → F1 a = some o ∨ H1 a = none := fun a o ea => by
                  rcases R.new a o ea with q | q
                  · exact Or.inl q
                  · right
                    by_cases h1 : a = x
                    · rw [h1]
                      exact hx
                    · rw [upd_ne h1] at q
                      by_cases h2 : a = dx
                      · rw [h2]
                        exact hdx
                      · rw [upd_ne h2] at q
                        exact q
                have keep : Same H1 H' := fun a o ea => R.keep a o (by
                  rw [upd_ne (ne_of_none ea hx), upd_ne (ne_of_none ea hdx)]
                  exact ea) fun z => by
                  cases z
                  rw [hx] at ea
                  cases ea
                have A2 : Agr X.K Γ.ex B F' ρ1 σ H' := A1.grow ⟨R.f, keep, R.sub, free⟩ Γ.mono
                refine q1 F' H' R.f A2 _ ⟨x, rfl, nF, A1.ground.free hx, w, fun i t ei hm es => ?_⟩
                obtain ⟨d', hd'⟩ : ∃ d', t = .own d' ∨ t = .inp d' := by
                  cases t with
                  | own d => exact ⟨d, Or.inl rfl⟩
                  | inp d => exact ⟨d, Or.inr rfl⟩
                  | non => cases hm
                  | pnd => cases hm
                  | val d => cases hm
                obtain ⟨a', ea', _, _, w'⟩ := A1.own_at ei hd'
                rw [es] at ea'
                cases ea'
                obtain ⟨u, eu⟩ := w'.there
                rw [hx] at eu
                cases eu
              | _ => exact q1.elim
          | _ => exact q1.elim
        | _ => exact q1.elim⟩
end
end HM

set_option Elab.async false
set_option linter.all false
set_option maxRecDepth 100000
set_option maxHeartbeats 4000000
/-! HMMeth: methods, properties; facts of defs by any address. -/
namespace HM
open PySem PySem.Spec PyProof.Rows L2

/-! ### o.m(e, ..) -/
def methE (C m : Str) (fs : FS) (dds : List D) (g : EV) (fa : EA) : EO := fun ρ => (g ρ).bind fun d ρ1 => match d with
  | .ins C' ns ds => if C' = C ∧ m ∉ ns then (fa ρ1).bind fun es ρ2 => match fs none (.ins C' ns ds :: (es ++ dds)) with
    | .ret s none => .ok s ρ2
    | .exc c ks zs none => .exc c ks zs ρ2
    | _ => .stuck
    else .stuck
  | _ => .stuck
def propE (C : Str) (fs : FS) (g : EV) : EO := fun ρ => (g ρ).bind fun d ρ1 => match d with
  | .ins C' ns ds => if C' = C then match fs none [.ins C' ns ds] with
    | .ret s none => .ok s ρ1
    | _ => .stuck
    else .stuck
  | _ => .stuck
def tMethX (C : Addr) (m : Str) (sp : Sp) (dvs : List V) (E : L2.St → XK) (ta : TE) (t : TA) : TE := fun σ H Q => ta σ H fun x H1 => ∃ a dx fs, x = .ref a ∧ H1 a = some (.ins C dx fs) ∧ fs.lookup m = none ∧ t σ H1 fun vs H2 => sp (x :: (vs ++ dvs)) H2 Q (E σ)
theorem lookup_no {K : PySem.W.Frag} {f : Str} : ∀ {fs : List (Str × V)}, f ∉ fs.map (·.1) → fs.lookup f = none
  | [], _ => rfl
  | (n, v) :: fs, h => by
    have h1 : (f == n) = false := beq_eq_false_iff_ne.mpr fun z => h (by rw [z]; exact List.mem_cons_self)
    show (match f == n with | true => some v | false => fs.lookup f) = none
    rw [h1]
    exact lookup_no (K := K) fun z => h (List.mem_cons_of_mem _ z)
section
variable {X : Cx} {Γ : Gam} {e o : Expr} {es : List Expr} {g : EV} {fa : EA} {pos p apos : Pos} {C m : Str} {k n : Nat} {f : Addr} {fd : FuncData} {ps : List Str} {fs : FS} {dvs : List V} {ds : List Value} {dds : List D}
theorem pe_methX {CX : CXT} {sp : Sp} {E : L2.St → XK} {ta : TE} {t : TA} {pl : Sem Bool} (he : PE X o ta) (c : Cls X.K (He.ga X.K C)) (hm : Meth X.K (He.ga X.K C) m f) (FO : FnOk X.prog X.w X.K X.mg X.base CX k f fd ps sp) (hr : Room k X.A) (hb : Binds X.K fd ps ds) (hd : Vals dvs ds) (hx : ∀ σ, PassesAt CX X σ (E σ))
    (ha : PA X (e :: es) t) (hst : starEach (e :: es) X.env = (false, eval e X.env) :: starEach es X.env := by rfl) (hpl : (backTo pos (starEach es X.env)).any (·.1) = false := by rfl)
    (ht : eval (.Call (.Attribute o m apos) (e :: es) [] pos) X.env = (do
      let ov ← eval o X.env
      standAt apos.atName
      let (f, first) ← holding [ov] (getMethod ov m pl)
      callWith pos f first (backTo pos (starEach (e :: es) X.env)) (backToKw pos (keywordEach [] X.env))) := by rfl) :
    PE X (.Call (.Attribute o m apos) (e :: es) [] pos) (tMethX (He.ga X.K C) m sp dvs E ta t) :=
  ⟨fun pins s σ H Q I h => PySem.W.methodCall_KW (pl := pl) (thn (he.run pins s σ H _ I h) fun ov s1 ⟨x, H1, I1, rx, a, dx, fs, ex, ea, l, q⟩ => by
    subst ex
    obtain rfl : ov = Value.ref a := rx
    exact getmeth_ok I1 ea c hm l (PySem.W.callWith_K (first := [.ref a]) (h₀ := X.base) I.ok.mod.kin hm.kp (thn (ha.run pos pins s1 σ H1 _ I1 q) fun us s2 ⟨vs, H2, I2, r, q2⟩ => ⟨I2.kIn, run_fnX (us := .ref a :: us) (vs := .ref a :: vs) FO hr hb hd (hx σ) I2 (.cons rfl r) q2⟩) hst hpl)) ht⟩
theorem qo_meth {pl : Sem Bool} (he : QE X Γ o g) (c : Cls X.K (He.ga X.K C)) (hm : Meth X.K (He.ga X.K C) m f) (FO : FnOk X.prog X.w X.K X.mg X.base (L2.CX X.prog X.w) k f fd ps (spF X.K n fs)) (hr : Room k X.A) (hb : Binds X.K fd ps ds) (hd : Vals dvs ds) (rd : ∀ F, Reps X.K F dds dvs) (tk : Takes X Γ.W)
    (hlen : (e :: es).length + 1 + dvs.length = n) (ha : QA X Γ (e :: es) fa) (hal : ∀ ρ zs ρ', fa ρ = .ok zs ρ' → zs.length = (e :: es).length) (hst : starEach (e :: es) X.env = (false, eval e X.env) :: starEach es X.env := by rfl) (hpl : (backTo pos (starEach es X.env)).any (·.1) = false := by rfl)
    (ht : eval (.Call (.Attribute o m apos) (e :: es) [] pos) X.env = (do
      let ov ← eval o X.env
      standAt apos.atName
      let (f, first) ← holding [ov] (getMethod ov m pl)
      callWith pos f first (backTo pos (starEach (e :: es) X.env)) (backToKw pos (keywordEach [] X.env))) := by rfl) :
    QO X Γ (.Call (.Attribute o m apos) (e :: es) [] pos) (methE C m fs dds g fa) :=
  pe_weak (pe_methX he c hm FO hr hb hd (fun σ => passAt tk σ) ha hst hpl ht) fun σ H Q ⟨B, F, ρ, A, q⟩ => ⟨B, F, ρ, A, (After.bind (o := g ρ) q).mono fun d ρ1 F1 H1 s1 A1 q1 v r => by
    cases d with
    | ins C' ns zs =>
      have q1' : After X.K Γ B F1 σ (if C' = C ∧ m ∉ ns then (fa ρ1).bind fun es ρ2 => match fs none (.ins C' ns zs :: (es ++ dds)) with
        | .ret s none => .ok s ρ2
        | .exc c ks zs none => .exc c ks zs ρ2
        | _ => .stuck
        else .stuck) (fun s ρ' F' H' => ∀ v, ResOk X.K B F' ρ' σ H' s v → Q v H') := q1
      split at q1'
      · rename_i hc
        obtain ⟨rfl, hns⟩ := hc
        obtain ⟨a, dx, ws, ev, hs, hn, hrs⟩ := seen_ins A1.sub (Or.inl r)
        refine ⟨a, dx, ws, ev, hs, lookup_no (K := X.K) (by rw [hn]; exact hns), B, F1, ρ1, A1, ?_⟩
        have q2 := After.bind (o := fa ρ1) q1'
        cases ho : fa ρ1 with
        | exc c ns es ρ2 =>
          rw [ho] at q2
          exact q2
        | stuck =>
          rw [ho] at q2
          exact q2
        | ok ys ρ2 =>
          rw [ho] at q2
          intro F2 H2 s2 A2 us rs
          exact sp_val (dds := dds) (zs := .ins C' ns zs :: ys) (vs := v :: us) (by rw [List.cons_append, List.length_cons, List.length_append, ← rs.length, hal ρ1 ys ρ2 ho]; omega) A2 (reps_cons (Rep.mono s2 _ _ r) rs) rd (q2 F2 H2 s2 A2)
      · exact q1'.elim
    | _ => exact q1.elim⟩
/-- o.f, f a property of the class C -/
theorem qo_prop {pa ga_ : Addr} (he : QE X Γ o g) (c : Cls X.K (He.ga X.K C)) (hp : PropOf X.K (He.ga X.K C) m pa ga_) (FO : FnOk X.prog X.w X.K X.mg X.base (L2.CX X.prog X.w) k ga_ fd ps (spF X.K 1 fs)) (hr : Room (k + 1) X.A) (hb : Binds X.K fd ps [])
    (hab : attributeBase o m X.env (eval o X.env) = eval o X.env := by rfl) : QO X Γ (.Attribute o m pos) (propE C fs g) :=
  pe_weak (pe_prop (E := E0) (dvs := []) he c hp FO hr hb .nil passL hab) fun σ H Q ⟨B, F, ρ, A, q⟩ => ⟨B, F, ρ, A, (After.bind (o := g ρ) q).mono fun d ρ1 F1 H1 s1 A1 q1 v r => by
    cases d with
    | ins C' ns zs =>
      have q1' : After X.K Γ B F1 σ (if C' = C then match fs none [.ins C' ns zs] with
        | .ret s none => .ok s ρ1
        | _ => .stuck
        else .stuck) (fun s ρ' F' H' => ∀ v, ResOk X.K B F' ρ' σ H' s v → Q v H') := q1
      split at q1'
      · rename_i hc
        subst hc
        obtain ⟨a, dx, ws, ev, hs, hn, hrs⟩ := seen_ins A1.sub (Or.inl r)
        subst ev
        refine ⟨a, dx, ws, rfl, hs, rfl, F1, none, [.ref a], [.ins C' ns zs], A1.sub, rfl, reps1 r, fun a d z => (nomatch z), ?_⟩
        show (match fs none [.ins C' ns zs] with
          | .ret s b => ∀ F' H' v, Ret X.K F1 H1 none F' H' b → NewOk X.K H1 F' H' s v → Q v H'
          | .exc c ns es b => ∀ dx F' H', Ret X.K F1 H1 none F' H' b → ExOk X.K F' ns es dx → False
          | .stuck => False)
        cases ho : fs none [.ins C' ns zs] with
        | ret s b =>
          rw [ho] at q1'
          cases b with
          | some d => exact q1'.elim
          | none => exact fun F' H' v R nw => q1' F' H' R.f (A1.called Γ.mono R) v (res_new A1 (fun i t h1 h2 => ⟨t, h1, h2⟩) nw)
        | exc c ns es b =>
          rw [ho] at q1'
          exact q1'.elim
        | stuck =>
          rw [ho] at q1'
          exact q1'
      · exact q1'.elim
    | _ => exact q1.elim⟩

/-! ### n.bit_length(); sum, all of a list; xs * n -/
theorem qe_bits (he : QE X Γ o g) {pl : Sem Bool} (h : PE X e (tBits (rdE X.K Γ g))) : QE X Γ e (op1 bitsD g) := pe_weak h fun σ H Q ⟨B, F, ρ, A, q⟩ => ⟨B, F, ρ, A, (After.bind (o := g ρ) q).mono fun d ρ1 F1 H1 s1 A1 q1 v r => by
  obtain ⟨z, ez, q2⟩ := After.of q1
  unfold bitsD at ez
  split at ez
  · cases ez
    exact ⟨_, r, q2 F1 H1 (Same.refl F1) A1 _ rep_i⟩
  · cases ez⟩
end
def intsOf : List D → Option (List Int)
  | [] => some []
  | .int a :: ds => (intsOf ds).map (a :: ·)
  | _ :: _ => none
def boolsOf : List D → Option (List Bool)
  | [] => some []
  | .bl a :: ds => (boolsOf ds).map (a :: ·)
  | _ :: _ => none
theorem ints_reps {K : PySem.W.Frag} {F : Hp} : ∀ {ds : List D} {is : List Int} {vs : List V}, intsOf ds = some is → Reps K F ds vs → vs = is.map V.int
  | [], _, _, h, r => by
    cases h
    exact r
  | d :: ds, is, _, h, ⟨v, ws, ev, r1, r2⟩ => by
    unfold intsOf at h
    split at h
    · rename_i e
      cases e
    · rename_i a es e
      cases e
      obtain ⟨js, e1, e2⟩ := Option.map_eq_some_iff.mp h
      rw [ev, ← e2, ints_reps e1 r2, show v = V.int a from r1]
      rfl
    · cases h
theorem bools_reps {K : PySem.W.Frag} {F : Hp} : ∀ {ds : List D} {is : List Bool} {vs : List V}, boolsOf ds = some is → Reps K F ds vs → vs = is.map V.bl
  | [], _, _, h, r => by
    cases h
    exact r
  | d :: ds, is, _, h, ⟨v, ws, ev, r1, r2⟩ => by
    unfold boolsOf at h
    split at h
    · rename_i e
      cases e
    · rename_i a es e
      cases e
      obtain ⟨js, e1, e2⟩ := Option.map_eq_some_iff.mp h
      rw [ev, ← e2, bools_reps e1 r2, show v = V.bl a from r1]
      rfl
    · cases h
def sumD : D → Option D
  | .lst ds => (intsOf ds).map fun is => .int is.sum
  | _ => none
def allD : D → Option D
  | .lst ds => (boolsOf ds).map fun is => .bl (is.all id)
  | _ => none
theorem seen_lst {K : PySem.W.Frag} {F H : Hp} (s : Same F H) {ds : List D} {v : V} (h : Seen K F H (.lst ds) v) : ∃ a vs, v = .ref a ∧ H a = some (.lst vs) ∧ Reps K F ds vs := by
  rcases h with ⟨a, vs, ea, ha, ra⟩ | ⟨a, ea, vs, ha, ra⟩
  · exact ⟨a, vs, ea, s _ _ ha, ra⟩
  · exact ⟨a, vs, ea, ha, ra⟩
theorem o_sum {K : PySem.W.Frag} : OpV1 K (fun x H Q => rSum K [x] H Q) sumD := fun d z ez F H x Q s sn q => by
  unfold sumD at ez
  split at ez
  · obtain ⟨is, e1, e2⟩ := Option.map_eq_some_iff.mp ez
    obtain ⟨a, vs, ea, ha, ra⟩ := seen_lst s sn
    subst e2
    rw [ints_reps e1 ra] at ha
    exact ⟨a, is, by rw [ea], SqL.of ha, pureQ s rep_i q⟩
  · cases ez
theorem o_all {K : PySem.W.Frag} : OpV1 K (fun x H Q => rAll K [x] H Q) allD := fun d z ez F H x Q s sn q => by
  unfold allD at ez
  split at ez
  · obtain ⟨is, e1, e2⟩ := Option.map_eq_some_iff.mp ez
    obtain ⟨a, vs, ea, ha, ra⟩ := seen_lst s sn
    subst e2
    rw [bools_reps e1 ra] at ha
    exact ⟨a, is, by rw [ea], SqL.of ha, pureQ s rep_b q⟩
  · cases ez
end HM

set_option Elab.async false
set_option linter.all false
set_option maxRecDepth 100000
set_option maxHeartbeats 4000000
/-! HMFact: facts of classes; defs that stand at any address (getters of properties). -/
namespace HM
open PySem PySem.Spec PyProof.Rows L2

/-- the getter of the property f of the class C -/
def pgA (C f : Str) (K : PySem.W.Frag) : Addr := match PySem.W.recIn K (He.ma K (He.ga K C) f) "property" with
  | some (.ref g :: _) => g
  | _ => 0
def propB (K : PySem.W.Frag) (C f : Str) : Bool := He.eqO (PySem.W.findIn K (.ref (He.ga K C)) f) (some (some (.ref (He.ma K (He.ga K C) f)))) && (He.eqO (PySem.W.specialIn K (.ref (He.ma K (He.ga K C) f)) "__get__") (some (some (.builtin "property.__get__"))) &&
  (decide (PySem.W.takesIn K (.ref (He.ma K (He.ga K C) f)) = some true) && (match PySem.W.recIn K (He.ma K (He.ga K C) f) "property" with
    | some (.ref _ :: _) => true
    | _ => false)))
theorem propB_ok {K : PySem.W.Frag} {C f : Str} (h : propB K C f = true) : PropOf K (He.ga K C) f (He.ma K (He.ga K C) f) (pgA C f K) := by
  obtain ⟨h1, h⟩ := He.ba h
  obtain ⟨h2, h⟩ := He.ba h
  obtain ⟨h3, h4⟩ := He.ba h
  refine ⟨He.eqO_ok h1, He.eqO_ok h2, of_decide_eq_true h3, ?_⟩
  unfold pgA
  split at h4
  · rename_i g r e
    rw [e]
    exact ⟨r, rfl⟩
  · cases h4
inductive Fq where
  | fm (f : Fm) | prop (C f : Str) | fld (C f : Str)
def Fq.ok (K : PySem.W.Frag) : Fq → Bool
  | .fm f => f.ok K
  | .prop C f => propB K C f
  | .fld C f => He.Fa.ok K (.cls C) && He.Fa.ok K (.noat C f)
theorem prop_ok {K : PySem.W.Frag} {C f : Str} (c : (Fq.prop C f).ok K = true) : PropOf K (He.ga K C) f (He.ma K (He.ga K C) f) (pgA C f K) := propB_ok c
theorem fld_ok {K : PySem.W.Frag} {C f : Str} (c : (Fq.fld C f).ok K = true) : Cls K (He.ga K C) ∧ NoAttr K (He.ga K C) f := by
  obtain ⟨c1, c2⟩ := He.ba c
  exact ⟨He.cls_ok c1, He.noat_ok c2⟩

/-! ### a def at any address -/
structure Df where
  loc : PySem.W.Frag → Addr
  d : He.DefD
def fnA (K : PySem.W.Frag) (a : Addr) : He.FnW := match K.lookup a with
  | some ob => (match ob.data with
    | .func z => some (z.name, z.qualname, z.params, z.body, z.scope, z.globals, z.closure, z.builtins)
    | _ => none)
  | none => none
def Df.ok (K : PySem.W.Frag) (f : Df) : Bool := PySem.W.keepIn K (.ref (f.loc K)) && (match K.lookup (f.loc K) with
  | some ob => (match ob.data with
    | .func z => PySem.W.codeIn K z.code f.d.qual && (He.dflB K z.defaults (f.d.dvs K) && He.kwdB K z.kwdefaults (f.d.kws K))
    | _ => false)
  | none => false)
theorem Df.funD {K : PySem.W.Frag} {f : Df} (e : fnA K (f.loc K) = f.d.val) (c : f.ok K = true) : ∃ fd, FunD K f.d.name f.d.qual f.d.params f.d.body f.d.scope (f.d.dvs K) (f.d.kws K) (f.loc K) fd := by
  obtain ⟨kp, c2⟩ := He.ba c
  cases q : K.lookup (f.loc K) with
  | none =>
    rw [q] at c2
    cases c2
  | some o =>
    unfold fnA at e
    rw [q] at e c2
    obtain ⟨oc, od, dt, osl⟩ := o
    dsimp only at e c2
    split at e
    · rename_i z
      dsimp only at c2
      obtain ⟨g1, g2, g3, g4, g5, g6, g7, g8, g9, g10, g11, g12, g13, g14, g15⟩ := z
      have e2 : (some (g1, g2, g3, g4, g5, g6, g7, g15) : He.FnW) = some (f.d.name, f.d.qual, f.d.params, .stmts f.d.body, f.d.scope, mainGlobals, [], builtinsNs) := e
      have e3 := Option.some.inj e2
      simp only [Prod.mk.injEq] at e3
      obtain ⟨rfl, rfl, rfl, rfl, rfl, rfl, rfl, rfl⟩ := e3
      obtain ⟨k1, k2⟩ := He.ba c2
      obtain ⟨k3, k4⟩ := He.ba k2
      exact ⟨_, ⟨oc, od, g8, g9, g10, g11, g12, g13, g14, osl, rfl, q, k1, He.dflB_ok k3, He.kwdB_ok k4⟩, kp⟩
    · cases e
/-! ### the Hook -/
def obsN (fa : List Fq) (fn : List Df) (K : PySem.W.Frag) : He.AlD := ((fa.all fun f => f.ok K) && fn.all fun d => d.ok K, fn.map fun d => fnA K (d.loc K))
def valN (fn : List Df) : He.AlD := (true, fn.map fun d => d.d.val)
def SaysN (fa : List Fq) (fn : List Df) (K : PySem.W.Frag) : Prop := obsN fa fn K = valN fn
def obsNG (n : Nat) (fa : List Fq) (fn : List Df) (g : Addr → Option Obj) : He.AlD := obsN fa fn (He.frG g (He.asD g n))
def hookN (n : Nat) (fa : List Fq) (fn : List Df) : PySem.W.Hook where
  α := He.AlD
  obs := fun s => obsNG n fa fn s.heap.get?
  val := fun _ => valN fn
  says := fun _ h => ∃ K : PySem.W.Frag, K.In h ∧ SaysN fa fn K
  of := fun _ _ e => ⟨_, He.frG_in, e⟩
  keeps := fun _ _ _ ⟨K, hK, c⟩ k => ⟨K, PySem.W.Frag.In.keeps hK k, c⟩
theorem obsNG_eq {n : Nat} {fa : List Fq} {fn : List Df} {g : Addr → Option Obj} {s : Shared} (h : ∀ a, g a = s.heap.get? a) : obsNG n fa fn g = (hookN n fa fn).obs s := by
  have e : g = s.heap.get? := funext h
  rw [e] <;> rfl
section
variable {fa : List Fq} {fn : List Df} {K : PySem.W.Frag}
theorem SaysN.fact (c : SaysN fa fn K) (i : Nat) {f : Fq} (h : fa[i]? = some f := by rfl) : f.ok K = true := by
  have c1 := (He.ba (congrArg Prod.fst c : ((fa.all fun f => f.ok K) && fn.all fun d => d.ok K) = true)).1
  exact List.all_eq_true.mp c1 f (List.mem_of_getElem? h)
theorem SaysN.def_ (c : SaysN fa fn K) (i : Nat) {d : Df} (h : fn[i]? = some d := by rfl) : ∃ fd, FunD K d.d.name d.d.qual d.d.params d.d.body d.d.scope (d.d.dvs K) (d.d.kws K) (d.loc K) fd := by
  have c2 := (He.ba (congrArg Prod.fst c : ((fa.all fun f => f.ok K) && fn.all fun d => d.ok K) = true)).2
  have e : fn.map (fun d => fnA K (d.loc K)) = fn.map fun d => d.d.val := congrArg Prod.snd c
  have e2 : (fn.map fun d => fnA K (d.loc K))[i]? = (fn.map fun d => d.d.val)[i]? := by rw [e]
  rw [List.getElem?_map, List.getElem?_map, h] at e2
  exact Df.funD (Option.some.inj e2) (List.all_eq_true.mp c2 d (List.mem_of_getElem? h))
end
end HM

set_option Elab.async false
set_option linter.all false
set_option maxRecDepth 100000
set_option maxHeartbeats 4000000
/-! HMZip: zip of two sequences, each a list or a tuple. -/
namespace HM
open PySem PySem.Spec PyProof.Rows L2

/-- a kind of sequence and its iterator -/
structure IK where
  it : Heap → Addr → Addr → Nat → Prop
  sq : Heap → Addr → Array Value → Prop
  itE : ∀ {h h' : Heap} {c i l : Addr} {n : Nat}, it h i l n → Heap.ExtBut c h h' → i ≠ c → it h' i l n
  sqE : ∀ {h h' : Heap} {c l : Addr} {xs : Array Value}, sq h l xs → Heap.ExtBut c h h' → l ≠ c → sq h' l xs
  itK : ∀ {h h' : Heap} {i l : Addr} {n : Nat}, it h i l n → (∀ o, h.get? i = some o → h'.get? i = some o) → it h' i l n
  itA : ∀ {h : Heap} {i l : Addr} {n : Nat}, it h i l n → ∃ o vs, h.get? i = some o ∧ o.data = .fields vs
  sqA : ∀ {h : Heap} {l : Addr} {xs : Array Value}, sq h l xs → ∃ o, h.get? l = some o
  item : ∀ {prog : Program} {w : World} {A : Around} {E : Value → Shared → Prop} {s : Shared} {i l : Addr} {n : Nat} {xs : Array Value} {x : Value} {Q : Value → Shared → Prop}, it s.heap i l n → sq s.heap l xs → xs[n]? = some x →
    (∀ h', it h' i l (n + 1) → Heap.SameBut i s.heap h' → Q x { s with heap := h' }) → wpAny (model prog w) A (Builtin.SmallTypes.nextOf (.ref i)) Q E s
  stop : ∀ {prog : Program} {w : World} {A : Around} {E : Value → Shared → Prop} {s : Shared} {i l : Addr} {n : Nat} {xs : Array Value} {Q : Value → Shared → Prop}, A.handled = none → it s.heap i l n → sq s.heap l xs → xs[n]? = none →
    (∀ h' e, Heap.ExtBut i s.heap h' → (∃ o, h'.get? e = some o ∧ o.cls = .type "StopIteration") → E (.ref e) { s with heap := h' }) → wpAny (model prog w) A (Builtin.SmallTypes.nextOf (.ref i)) Q E s
def kL : IK where
  it := fun h i l n => h.IsListIter i l n
  sq := fun h l xs => h.IsList l xs
  itE := fun a b c => a.extBut b c
  sqE := fun a b c => a.extBut b c
  itK := fun a b => a.at b
  itA := fun ⟨o, e, _, d⟩ => ⟨o, _, e, d⟩
  sqA := fun ⟨o, e, _⟩ => ⟨o, e⟩
  item := fun a b c d => wpAny_nextOf_list_item a b c d
  stop := fun a b c d e => wpAny_nextOf_list_end a b c d e
def kT : IK where
  it := fun h i l n => h.IsTupleIter i l n
  sq := fun h l xs => h.IsTuple l xs
  itE := fun a b c => a.extBut b c
  sqE := fun a b c => a.extBut b c
  itK := fun a b => a.at b
  itA := fun ⟨o, e, _, d⟩ => ⟨o, _, e, d⟩
  sqA := fun ⟨o, e, _⟩ => ⟨o, e⟩
  item := fun a b c d => RZ.nextOf_tuple_item a b c d
  stop := fun a b c d e => RZ.nextOf_tuple_end a b c d e

section
variable {prog : Program} {w : World} {A : Around} {E : Value → Shared → Prop} {s : Shared} (k₁ k₂ : IK)
theorem zk_item {zz TI TO ia ib la lb : Addr} {n1 n2 : Nat} {xs ys : Array Value} {x y a b : Value} {Q : Value → Shared → Prop} (D : ZipApart zz TI TO ia ib la lb)
    (gz : IsZip s.heap zz TI TO .none) (gI : IsPair s.heap TI (.ref ia) (.ref ib)) (gO : IsPair s.heap TO a b) (u1 : k₁.it s.heap ia la n1) (u2 : k₂.it s.heap ib lb n2) (v1 : k₁.sq s.heap la xs) (v2 : k₂.sq s.heap lb ys) (ex : xs[n1]? = some x) (ey : ys[n2]? = some y)
    (go : ∀ h', IsZip h' zz TI TO (rawInt s.heap.objs.size) → IsPair h' TO x y → k₁.it h' ia la (n1 + 1) → k₂.it h' ib lb (n2 + 1) → IsPair h' s.heap.objs.size x y → h'.objs.size = s.heap.objs.size + 1 →
      (∀ c o, c ≠ zz → c ≠ TO → c ≠ ia → c ≠ ib → s.heap.get? c = some o → h'.get? c = some o) → Q (.ref s.heap.objs.size) { s with heap := h' }) :
    wpAny (model prog w) A (Builtin.«zip.__next__» ⟨[.ref zz], []⟩) (fun fin s' => ∃ v, fin = .done (.ret v) ∧ Q v s') E s := by
  show wpAny _ _ (field (.ref zz) 2 >>= _) _ _ _
  refine wpAny_bind (wpAny_field gz rfl (x := .bool false) rfl ?_)
  show wpAny _ _ (field (.ref zz) 3 >>= _) _ _ _
  refine wpAny_bind (wpAny_field gz rfl (x := .ref TI) rfl (wpAny_bind (wpAny_seqItems gI rfl ?_)))
  show wpAny _ _ (Builtin.SmallTypes.ownedTupleIsFree (.ref zz) >>= _) _ _ _
  unfold Builtin.SmallTypes.ownedTupleIsFree
  refine wpAny_bind (wpAny_bind (wpAny_field gz rfl (x := .none) rfl (wpAny_pure ?_)))
  simp only [if_true]
  refine wpAny_bind (wpAny_rule (wpAny_bind (wpAny_field gz rfl (x := .ref TO) rfl (wpAny_bind (wpAny_setField_rec gz (by simp) fun j₁ gz₁ c₁ => ?_)))))
  replace gz₁ : IsZip j₁ zz TI TO .ellipsis := gz₁
  simp only [List.zipIdx_cons, List.zipIdx_nil, List.forIn_cons, List.forIn_nil]
  refine wpAny_bind (wpAny_bind (wpAny_bind (wpAny_onRaise ?_)))
  show wpAny _ _ (Builtin.SmallTypes.nextOf (.ref ia) >>= _) _ _ _
  refine wpAny_bind (k₁.item (k₁.itE u1 c₁.extBut D.i1z) (k₁.sqE v1 c₁.extBut D.l1z) ex fun j₂ u1₂ c₂ => wpAny_pure ?_)
  have gO₂ : IsPair j₂ TO a b := c₂.extBut _ _ D.TOi1 (c₁.extBut _ _ D.TOz gO)
  refine wpAny_bind (wpAny_seqItems gO₂ rfl (wpAny_bind (wpAny_updateSeq_pair gO₂ fun j₃ gO₃ c₃ => ?_)))
  replace gO₃ : IsPair j₃ TO x b := gO₃
  refine wpAny_bind (wpAny_letGo (wpAny_pure (wpAny_bind (wpAny_bind (wpAny_onRaise ?_)))))
  show wpAny _ _ (Builtin.SmallTypes.nextOf (.ref ib) >>= _) _ _ _
  refine wpAny_bind (k₂.item (k₂.itE (k₂.itE (k₂.itE u2 c₁.extBut D.i2z) c₂.extBut D.i12.symm) c₃.extBut D.TOi2.symm) (k₂.sqE (k₂.sqE (k₂.sqE v2 c₁.extBut D.l2z) c₂.extBut D.l2i1) c₃.extBut D.l2TO) ey fun j₄ u2₄ c₄ => wpAny_pure ?_)
  have gO₄ : IsPair j₄ TO x b := c₄.extBut _ _ D.TOi2 gO₃
  refine wpAny_bind (wpAny_seqItems gO₄ rfl (wpAny_bind (wpAny_updateSeq_pair gO₄ fun j₅ gO₅ c₅ => ?_)))
  replace gO₅ : IsPair j₅ TO x y := gO₅
  refine wpAny_bind (wpAny_letGo (wpAny_pure (wpAny_pure (wpAny_bind (wpAny_seqItems gO₅ rfl (wpAny_bind (wpAny_newTuple ?_)))))))
  have sz : j₅.objs.size = s.heap.objs.size := by rw [c₅.1, c₄.1, c₃.1, c₂.1, c₁.1]
  have gz₅ : IsZip j₅ zz TI TO .ellipsis := c₅.extBut _ _ D.TOz.symm (c₄.extBut _ _ D.i2z.symm (c₃.extBut _ _ D.TOz.symm (c₂.extBut _ _ D.i1z.symm gz₁)))
  have kk : ∀ c o, c ≠ zz → c ≠ TO → c ≠ ia → c ≠ ib → s.heap.get? c = some o → j₅.get? c = some o := fun c o p1 p2 p3 p4 e => c₅.extBut _ _ p2 (c₄.extBut _ _ p4 (c₃.extBut _ _ p2 (c₂.extBut _ _ p3 (c₁.extBut _ _ p1 e))))
  have w1 : k₁.it j₅ ia la (n1 + 1) := k₁.itE (k₁.itE (k₁.itE u1₂ c₃.extBut D.TOi1.symm) c₄.extBut D.i12) c₅.extBut D.TOi1.symm
  have w2 : k₂.it j₅ ib lb (n2 + 1) := k₂.itE u2₄ c₅.extBut D.TOi2.symm
  have zlt : zz < j₅.objs.size := Heap.lt_size gz₅
  show wpAny _ _ (Builtin.SmallTypes.ownedTupleHandOut (.ref zz) (.ref j₅.objs.size) >>= _) _ _ _
  unfold Builtin.SmallTypes.ownedTupleHandOut
  have gz₆ : IsZip (j₅.push { cls := .type "tuple", data := .seq #[x, y] }) zz TI TO .ellipsis := Heap.get?_push_of_some _ gz₅
  refine wpAny_bind (wpAny_bind (wpAny_setField_rec gz₆ (by simp) fun j₇ gz₇ c₇ => ?_))
  replace gz₇ : IsZip j₇ zz TI TO (rawInt j₅.objs.size) := gz₇
  refine wpAny_setField_rec gz₇ (by simp) fun j₈ gz₈ c₈ => ?_
  replace gz₈ : IsZip j₈ zz TI TO (rawInt j₅.objs.size) := gz₈
  have up : ∀ c o, c ≠ zz → j₅.get? c = some o → j₈.get? c = some o := fun c o p e => c₈.extBut _ _ p (c₇.extBut _ _ p (Heap.get?_push_of_some _ e))
  have gT : IsPair j₈ j₅.objs.size x y := c₈.extBut _ _ (Nat.ne_of_gt zlt) (c₇.extBut _ _ (Nat.ne_of_gt zlt) (Heap.get?_push_size _ rfl))
  have sz8 : j₈.objs.size = j₅.objs.size + 1 := by rw [c₈.1, c₇.1, Heap.size_push]
  rw [sz] at gz₈ gT sz8
  refine wpAny_pure ⟨_, rfl, ?_⟩
  show Q (.ref j₅.objs.size) _
  rw [sz]
  exact go j₈ gz₈ (up _ _ D.TOz gO₅) (k₁.itK w1 fun o e => up _ o D.i1z e) (k₂.itK w2 fun o e => up _ o D.i2z e) gT sz8 fun c o p1 p2 p3 p4 e => up c o p1 (kk c o p1 p2 p3 p4 e)
theorem zk_end {zz TI TO ia ib la lb : Addr} {n1 n2 : Nat} {xs ys : Array Value} {a b : Value} {Q : Fin → Shared → Prop} (hh : A.handled = none) (D : ZipApart zz TI TO ia ib la lb)
    (gz : IsZip s.heap zz TI TO .none) (gI : IsPair s.heap TI (.ref ia) (.ref ib)) (gO : IsPair s.heap TO a b) (u1 : k₁.it s.heap ia la n1) (u2 : k₂.it s.heap ib lb n2) (v1 : k₁.sq s.heap la xs) (v2 : k₂.sq s.heap lb ys) (no : xs[n1]? = none ∨ ys[n2]? = none)
    (go : ∀ h' e, (∀ c o, c ≠ zz → c ≠ TO → c ≠ ia → c ≠ ib → s.heap.get? c = some o → h'.get? c = some o) → (∃ o, h'.get? e = some o ∧ o.cls = .type "StopIteration") → E (.ref e) { s with heap := h' }) :
    wpAny (model prog w) A (Builtin.«zip.__next__» ⟨[.ref zz], []⟩) Q E s := by
  show wpAny _ _ (field (.ref zz) 2 >>= _) _ _ _
  refine wpAny_bind (wpAny_field gz rfl (x := .bool false) rfl ?_)
  show wpAny _ _ (field (.ref zz) 3 >>= _) _ _ _
  refine wpAny_bind (wpAny_field gz rfl (x := .ref TI) rfl (wpAny_bind (wpAny_seqItems gI rfl ?_)))
  show wpAny _ _ (Builtin.SmallTypes.ownedTupleIsFree (.ref zz) >>= _) _ _ _
  unfold Builtin.SmallTypes.ownedTupleIsFree
  refine wpAny_bind (wpAny_bind (wpAny_field gz rfl (x := .none) rfl (wpAny_pure ?_)))
  simp only [if_true]
  refine wpAny_bind (wpAny_rule (wpAny_bind (wpAny_field gz rfl (x := .ref TO) rfl (wpAny_bind (wpAny_setField_rec gz (by simp) fun j₁ gz₁ c₁ => ?_)))))
  replace gz₁ : IsZip j₁ zz TI TO .ellipsis := gz₁
  simp only [List.zipIdx_cons, List.zipIdx_nil, List.forIn_cons, List.forIn_nil]
  refine wpAny_bind (wpAny_bind (wpAny_bind (wpAny_onRaise ?_)))
  show wpAny _ _ (Builtin.SmallTypes.nextOf (.ref ia) >>= _) _ _ _
  have ne : ∀ {h : Heap} {e : Addr} {oe : Obj} {f : Value}, IsZip h zz TI TO f → h.get? e = some oe → oe.cls = .type "StopIteration" → e ≠ zz := fun {h e oe f} g q r z => by
    subst z
    rw [g] at q
    cases q
    simp at r
  cases e1 : xs[n1]? with
  | none =>
    refine wpAny_bind (k₁.stop hh (k₁.itE u1 c₁.extBut D.i1z) (k₁.sqE v1 c₁.extBut D.l1z) e1 fun j₂ e c₂ ⟨oe, qe, re⟩ => ?_)
    have gz₂ : IsZip j₂ zz TI TO .ellipsis := c₂ _ _ D.i1z.symm gz₁
    exact wpAny_setField_rec gz₂ (by simp) fun j₃ _ c₃ => go j₃ e (fun c o p1 _ p3 _ q => c₃.extBut _ _ p1 (c₂ _ _ p3 (c₁.extBut _ _ p1 q))) ⟨oe, c₃.extBut _ _ (ne gz₂ qe re) qe, re⟩
  | some x =>
    have e2 : ys[n2]? = none := by
      rcases no with q | q
      · rw [e1] at q
        cases q
      · exact q
    refine wpAny_bind (k₁.item (k₁.itE u1 c₁.extBut D.i1z) (k₁.sqE v1 c₁.extBut D.l1z) e1 fun j₂ u1₂ c₂ => wpAny_pure ?_)
    have gO₂ : IsPair j₂ TO a b := c₂.extBut _ _ D.TOi1 (c₁.extBut _ _ D.TOz gO)
    refine wpAny_bind (wpAny_seqItems gO₂ rfl (wpAny_bind (wpAny_updateSeq_pair gO₂ fun j₃ gO₃ c₃ => ?_)))
    refine wpAny_bind (wpAny_letGo (wpAny_pure (wpAny_bind (wpAny_bind (wpAny_onRaise ?_)))))
    show wpAny _ _ (Builtin.SmallTypes.nextOf (.ref ib) >>= _) _ _ _
    refine wpAny_bind (k₂.stop hh (k₂.itE (k₂.itE (k₂.itE u2 c₁.extBut D.i2z) c₂.extBut D.i12.symm) c₃.extBut D.TOi2.symm) (k₂.sqE (k₂.sqE (k₂.sqE v2 c₁.extBut D.l2z) c₂.extBut D.l2i1) c₃.extBut D.l2TO) e2 fun j₄ e c₄ ⟨oe, qe, re⟩ => ?_)
    have gz₄ : IsZip j₄ zz TI TO .ellipsis := c₄ _ _ D.i2z.symm (c₃.extBut _ _ D.TOz.symm (c₂.extBut _ _ D.i1z.symm gz₁))
    exact wpAny_setField_rec gz₄ (by simp) fun j₅ _ c₅ => go j₅ e (fun c o p1 p2 p3 p4 q => c₅.extBut _ _ p1 (c₄ _ _ p4 (c₃.extBut _ _ p2 (c₂.extBut _ _ p3 (c₁.extBut _ _ p1 q))))) ⟨oe, c₅.extBut _ _ (ne gz₄ qe re) qe, re⟩
end

/-! ### in the abstract heap: false a list, true a tuple -/
def ik : Bool → IK
  | false => kL
  | true => kT
def SqK (K : PySem.W.Frag) (b : Bool) (H : Hp) (a : Addr) (xs : List V) : Prop := match b with
  | false => SqL K H a xs
  | true => SqT K H a xs
theorem SqK.look {X : Cx} {pins : List (Addr × Obj)} {σ : L2.St} {H : Hp} {s : Shared} {b : Bool} {a : Addr} {xs : List V} (I : Inv X pins σ H s) (h : SqK X.K b H a xs) : ∃ its : List Value, Vals xs its ∧ (ik b).sq s.heap a its.toArray := by
  cases b with
  | false =>
    obtain ⟨its, rv, p, _⟩ := I.list h
    exact ⟨its, rv, p.isList⟩
  | true =>
    obtain ⟨its, rv, p, _⟩ := I.tuple h
    exact ⟨its, rv, p⟩
theorem SqK.inj {X : Cx} {pins : List (Addr × Obj)} {σ : L2.St} {H : Hp} {s : Shared} {b : Bool} {a : Addr} {xs ys : List V} (I : Inv X pins σ H s) (h : SqK X.K b H a xs) (h' : SqK X.K b H a ys) : xs = ys := by
  cases b with
  | false => exact I.list_inj h h'
  | true => exact I.tuple_inj h h'
/-- two sequences side by side -/
def Izk (K : PySem.W.Frag) (k1 k2 : Bool) (a b : Addr) : It :=
  ⟨fun i H => ∃ (xs ys : List V) (x y : V), SqK K k1 H a xs ∧ SqK K k2 H b ys ∧ xs[i]? = some x ∧ ys[i]? = some y,
    fun i H v H' => ∃ T x y, v = .ref T ∧ H T = none ∧ H' = upd H T (.tup [x, y]) ∧ (∀ xs, SqK K k1 H a xs → xs[i]? = some x) ∧ ∀ ys, SqK K k2 H b ys → ys[i]? = some y,
    fun i H => ∃ xs ys : List V, SqK K k1 H a xs ∧ SqK K k2 H b ys ∧ (xs.length ≤ i ∨ ys.length ≤ i)⟩
theorem next_zk {prog : Program} {w : World} {A : Around} {E : Value → Shared → Prop} {s : Shared} (k₁ k₂ : IK) {zz TI TO ia ib la lb : Addr} {n1 n2 : Nat} {xs ys : Array Value} {x y a b : Value} {Q : Option Value → Shared → Prop} (D : ZipApart zz TI TO ia ib la lb)
    (gz : IsZip s.heap zz TI TO .none) (gI : IsPair s.heap TI (.ref ia) (.ref ib)) (gO : IsPair s.heap TO a b) (u1 : k₁.it s.heap ia la n1) (u2 : k₂.it s.heap ib lb n2) (v1 : k₁.sq s.heap la xs) (v2 : k₂.sq s.heap lb ys) (ex : xs[n1]? = some x) (ey : ys[n2]? = some y)
    (go : ∀ h', IsZip h' zz TI TO (rawInt s.heap.objs.size) → IsPair h' TO x y → k₁.it h' ia la (n1 + 1) → k₂.it h' ib lb (n2 + 1) → IsPair h' s.heap.objs.size x y → h'.objs.size = s.heap.objs.size + 1 →
      (∀ c o, c ≠ zz → c ≠ TO → c ≠ ia → c ≠ ib → s.heap.get? c = some o → h'.get? c = some o) → Q (some (.ref s.heap.objs.size)) { s with heap := h' }) : wpAny (model prog w) A (pyNext (.ref zz)) Q E s := by
  have ty : s.TypeIs (.ref zz) "zip" := ⟨_, gz, rfl⟩
  unfold pyNext
  refine wpAny_bind (wpAny_attempt (wpAny_callSpecial?_slot (name := Str.ofString "__next__") ty F.slot_zip_next (wpAny_call_entry F.slot_zip_next ty F.entry_zip_next ?_ (F.args_zip_next_1 _))))
  exact zk_item k₁ k₂ D gz gI gO u1 u2 v1 v2 ex ey fun h' b1 b2 b3 b4 b5 b6 b7 => wpAny_pure (go h' b1 b2 b3 b4 b5 b6 b7)
theorem next_zk_end {prog : Program} {w : World} {A : Around} {E : Value → Shared → Prop} {s : Shared} (k₁ k₂ : IK) {zz TI TO ia ib la lb : Addr} {n1 n2 : Nat} {xs ys : Array Value} {a b : Value} {Q : Option Value → Shared → Prop} (hh : A.handled = none) (D : ZipApart zz TI TO ia ib la lb)
    (gz : IsZip s.heap zz TI TO .none) (gI : IsPair s.heap TI (.ref ia) (.ref ib)) (gO : IsPair s.heap TO a b) (u1 : k₁.it s.heap ia la n1) (u2 : k₂.it s.heap ib lb n2) (v1 : k₁.sq s.heap la xs) (v2 : k₂.sq s.heap lb ys) (no : xs[n1]? = none ∨ ys[n2]? = none)
    (go : ∀ h', (∀ c o, c ≠ zz → c ≠ TO → c ≠ ia → c ≠ ib → s.heap.get? c = some o → h'.get? c = some o) → Q none { s with heap := h' }) : wpAny (model prog w) A (pyNext (.ref zz)) Q E s := by
  have ty : s.TypeIs (.ref zz) "zip" := ⟨_, gz, rfl⟩
  unfold pyNext
  refine wpAny_bind (wpAny_attempt (wpAny_callSpecial?_slot (name := Str.ofString "__next__") ty F.slot_zip_next (wpAny_call_entry F.slot_zip_next ty F.entry_zip_next ?_ (F.args_zip_next_1 _))))
  exact zk_end k₁ k₂ hh D gz gI gO u1 u2 v1 v2 no fun h' e kk ⟨o, ho, hc⟩ => wpAny_bind (wpAny_isInstance (T := "StopIteration") (b := true) ⟨o, ho, hc⟩ isSubtype_stop (wpAny_pure (go h' kk)))
theorem turn_zk {P : Program} {w : World} {K : PySem.W.Frag} {elts : List Expr} {kk : Nat} {tpos : Pos} {a b zz TI TO ia ib : Addr} (k1 k2 : Bool) (D : ZipApart zz TI TO ia ib a b) :
    Turn P w K (.Tuple elts kk tpos) (Izk K k1 k2 a b) [zz, TI, TO, ia, ib] zz (fun i h => IsZip h zz TI TO .none ∧ IsPair h TI (.ref ia) (.ref ib) ∧ (∃ x y, IsPair h TO x y) ∧ (ik k1).it h ia a i ∧ (ik k2).it h ib b i) where
  mem := by simp
  obj := fun i h ⟨gz, gI, ⟨x, y, gO⟩, u1, u2⟩ c hc => by
    obtain ⟨o1, w1, e1, d1⟩ := (ik k1).itA u1
    obtain ⟨o2, w2, e2, d2⟩ := (ik k2).itA u2
    simp only [List.mem_cons, List.not_mem_nil, or_false] at hc
    rcases hc with rfl | rfl | rfl | rfl | rfl
    · exact ⟨_, gz, fun v q => nomatch q⟩
    · exact ⟨_, gI, fun v q => nomatch q⟩
    · exact ⟨_, gO, fun v q => nomatch q⟩
    · exact ⟨o1, e1, fun v q => by
        rw [d1] at q
        cases q⟩
    · exact ⟨o2, e2, fun v q => by
        rw [d2] at q
        cases q⟩
  keep := fun i h h' ⟨gz, gI, ⟨x, y, gO⟩, u1, u2⟩ k => ⟨k zz (by simp) _ gz, k TI (by simp) _ gI, ⟨x, y, k TO (by simp) _ gO⟩, (ik k1).itK u1 fun o q => k ia (by simp) o q, (ik k2).itK u2 fun o q => k ib (by simp) o q⟩
  item := by
    rintro X rfl rfl rfl hc i pins s σ H E I hf ⟨gz, gI, ⟨x0, y0, gO⟩, u1, u2⟩ ⟨xs, ys, x, y, qx, qy, hx, hy⟩
    obtain ⟨its, rv, p⟩ := qx.look I
    obtain ⟨its2, rv2, p2⟩ := qy.look I
    obtain ⟨u, hu, ru⟩ := rv.get hx
    obtain ⟨u', hu', ru'⟩ := rv2.get hy
    have zlt : zz < s.heap.objs.size := Heap.lt_size gz
    refine next_zk (ik k1) (ik k2) D gz gI gO u1 u2 p p2 (x := u) (y := u') (by simpa using hu) (by simpa using hu') fun h' gz' gO' u1' u2' gT sz kp => ⟨_, rfl, wpAny_letOwnedTupleGo_zip (s := { s with heap := h' }) gz' fun h'' gz'' sb => ?_⟩
    have gT2 : h''.get? s.heap.objs.size = some { cls := .type "tuple", data := .seq #[u, u'] } := (sb.2 _ (Nat.ne_of_gt zlt)).trans gT
    have new : ObjOk X.prog X.w (upd H s.heap.objs.size (.tup [x, y])) h'' s.heap.objs.size (.tup [x, y]) := ⟨(by decide : 2 ≤ sizeLine), [u, u'], .cons ru (.cons ru' .nil), ⟨_, gT2, rfl, _, rfl⟩⟩
    have kp2 : ∀ c o, c ∉ [zz, TI, TO, ia, ib] → s.heap.get? c = some o → h''.get? c = some o := fun c o hb q => by
      simp only [List.mem_cons, List.not_mem_nil, or_false, not_or] at hb
      exact (sb.2 c hb.1).trans (kp c o hb.1 hb.2.2.1 hb.2.2.2.1 hb.2.2.2.2 q)
    have I1 : Inv X pins σ (upd H s.heap.objs.size (.tup [x, y])) { s with heap := h'' } := I.turnedNew (t' := s.toks) (ch := [zz, TI, TO, ia, ib]) kp2 hf (Nat.le_refl _) new
    refine ⟨.ref s.heap.objs.size, _, I1, rfl, ⟨_, x, y, rfl, I.hok.fresh (Nat.le_refl _), rfl, fun l hl => by rw [hl.inj I qx]; exact hx, fun l hl => by rw [hl.inj I qy]; exact hy⟩, ⟨gz'', ?_, ⟨u, u', ?_⟩, ?_, ?_⟩, fun c hcm => ?_⟩
    · exact (sb.2 _ D.TIz).trans (kp _ _ D.TIz D.TITO D.TIi1 D.TIi2 gI)
    · exact (sb.2 _ D.TOz).trans gO'
    · exact (ik k1).itK u1' fun o q => (sb.2 _ D.i1z).trans q
    · exact (ik k2).itK u2' fun o q => (sb.2 _ D.i2z).trans q
    · have lt : c < s.heap.objs.size := by
        obtain ⟨o1, w1, e1, d1⟩ := (ik k1).itA u1
        obtain ⟨o2, w2, e2, d2⟩ := (ik k2).itA u2
        simp only [List.mem_cons, List.not_mem_nil, or_false] at hcm
        rcases hcm with rfl | rfl | rfl | rfl | rfl
        · exact zlt
        · exact Heap.lt_size gI
        · exact Heap.lt_size gO
        · exact Heap.lt_size e1
        · exact Heap.lt_size e2
      rw [upd_ne (Nat.ne_of_lt lt)]
      exact (hf c hcm).1
  done := by
    rintro X rfl rfl rfl hc i pins s σ H E I hf ⟨gz, gI, ⟨x0, y0, gO⟩, u1, u2⟩ ⟨xs, ys, qx, qy, no⟩
    obtain ⟨its, rv, p⟩ := qx.look I
    obtain ⟨its2, rv2, p2⟩ := qy.look I
    have l1 := rv.length
    have l2 := rv2.length
    refine next_zk_end (ik k1) (ik k2) (I.ok.hd hc) D gz gI gO u1 u2 p p2 ?_ fun h' kp => ⟨rfl, I.turnedL (t' := s.toks) (ch := [zz, TI, TO, ia, ib]) (fun c o hb q => ?_) hf⟩
    · rcases no with q | q
      · left
        simp
        omega
      · right
        simp
        omega
    · simp only [List.mem_cons, List.not_mem_nil, or_false, not_or] at hb
      exact kp c o hb.1 hb.2.2.1 hb.2.2.2.1 hb.2.2.2.2 q
  self := fun A i s Q E st h => wpAny_pyIter_zip st.1 h

/-! ### zip(list, tuple) is made -/
abbrev mz1 (h : Heap) (la : Addr) : Heap := h.push { cls := .type "list_iterator", data := .fields #[.ref la, .int 0 0] }
abbrev mz2 (h : Heap) (la lb : Addr) : Heap := (mz1 h la).push { cls := .type "tuple_iterator", data := .fields #[.ref lb, .int 0 0] }
abbrev mz3 (h : Heap) (la lb : Addr) : Heap := (mz2 h la lb).push { cls := .type "tuple", data := .seq #[.ref h.objs.size, .ref (mz1 h la).objs.size] }
abbrev mz4 (h : Heap) (la lb : Addr) : Heap := (mz3 h la lb).push { cls := .type "tuple", data := .seq #[.none, .none] }
abbrev mz5 (h : Heap) (la lb : Addr) : Heap := (mz4 h la lb).push { cls := .type "zip", data := .fields #[.none, .bool false, .bool false, .ref (mz2 h la lb).objs.size, .ref (mz3 h la lb).objs.size] }
theorem new_mz (la lb : Addr) (xs ys : Array Value) : Meets (Builtin.«zip.__new__» ⟨[.type "zip", .ref la, .ref lb], []⟩) (fun _ R s => s.heap.IsList la xs ∧ s.heap.IsTuple lb ys ∧ R (.ok (.ret (.ref (mz4 s.heap la lb).objs.size))) { s with heap := mz5 s.heap la lb }) :=
  .of_wp fun prog w A R s ⟨p1, p2, go⟩ => by
    obtain ⟨hp, gs, dr, tk, os⟩ := s
    have su := sub_zip
    have P1 : Heap.IsList (Shared.heap ⟨hp, gs, dr, tk, os⟩) la xs := p1
    have P2 : Heap.IsTuple (Shared.heap ⟨mz1 hp la, gs, dr, tk, os⟩) lb ys := Heap.IsTuple.push p2 _
    wp_walk using wpAny_pyIter_list P1, wpAny_pyIter_tuple P2
    exact ⟨_, rfl, go⟩
theorem call_mz {prog : Program} {w : World} {A : Around} {E : Value → Shared → Prop} {s : Shared} {la lb : Addr} {xs ys : Array Value} {Q : Value → Shared → Prop} (p1 : s.heap.IsList la xs) (p2 : s.heap.IsTuple lb ys)
    (go : ∀ h', IsZip h' (s.heap.objs.size + 4) (s.heap.objs.size + 2) (s.heap.objs.size + 3) .none → IsPair h' (s.heap.objs.size + 2) (.ref s.heap.objs.size) (.ref (s.heap.objs.size + 1)) → IsPair h' (s.heap.objs.size + 3) .none .none →
      h'.IsListIter s.heap.objs.size la 0 → h'.IsTupleIter (s.heap.objs.size + 1) lb 0 → (∀ c o, s.heap.get? c = some o → h'.get? c = some o) → Q (.ref (s.heap.objs.size + 4)) { s with heap := h' }) :
    wpAny (model prog w) A (call (.type "zip") [.ref la, .ref lb]) Q E s := by
  refine callType_new F.called_zip (by decide) (F.typeCall_zip_2 _ _) (F.newCall_zip_2 _ _) (fun obj => F.args_object_init_3 obj _ _) F.entry_zip_new (new_mz la lb xs ys) ⟨p1, p2, ?_⟩
  have up : ∀ {h : Heap} {o : Obj} {c : Addr} {u : Obj}, h.get? c = some u → (h.push o).get? c = some u := fun {h o c u} e => Heap.get?_push_of_some _ e
  have y1 : (mz1 s.heap la).objs.size = s.heap.objs.size + 1 := Heap.size_push ..
  have y2 : (mz2 s.heap la lb).objs.size = s.heap.objs.size + 2 := by rw [Heap.size_push, y1]
  have y3 : (mz3 s.heap la lb).objs.size = s.heap.objs.size + 3 := by rw [Heap.size_push, y2]
  have y4 : (mz4 s.heap la lb).objs.size = s.heap.objs.size + 4 := by rw [Heap.size_push, y3]
  have r5 : (mz5 s.heap la lb).get? (mz4 s.heap la lb).objs.size = some _ := Heap.get?_push_size _ rfl
  have r4 : (mz5 s.heap la lb).get? (mz3 s.heap la lb).objs.size = some _ := up (Heap.get?_push_size _ rfl)
  have r3 : (mz5 s.heap la lb).get? (mz2 s.heap la lb).objs.size = some _ := up (up (Heap.get?_push_size _ rfl))
  have r2 : (mz5 s.heap la lb).get? (mz1 s.heap la).objs.size = some _ := up (up (up (Heap.get?_push_size _ rfl)))
  have r1 : (mz5 s.heap la lb).get? s.heap.objs.size = some _ := up (up (up (up (Heap.get?_push_size _ rfl))))
  show _ ∧ _
  rw [y2, y3, y4] at r5
  rw [y1, y2] at r3
  rw [y3] at r4
  rw [y1] at r2
  rw [y4]
  exact ⟨⟨_, r5, rfl⟩, go _ r5 r3 r4 ⟨_, r1, rfl, rfl⟩ ⟨_, r2, rfl, rfl⟩ fun c o e => up (up (up (up (up e))))⟩
def iZipM (K : PySem.W.Frag) (ta : TA) : TI := fun σ H R => ta σ H fun vs H1 => ∃ a b k1 k2 xs ys, vs = [.ref a, .ref b] ∧ (k1 = false ∨ k2 = true) ∧ SqK K k1 H1 a xs ∧ SqK K k2 H1 b ys ∧ R (Izk K k1 k2 a b) H1
theorem pi_zipM {X : Cx} {e e2 : Expr} {ta : TA} {p pos tpos : Pos} {elts : List Expr} {kk : Nat} (hg : Gl X "zip") (hm : X.mg "zip" = none) (ha : PA X [e, e2] ta)
    (hs : starEach [e, e2] X.env = (false, eval e X.env) :: starEach [e2] X.env := by rfl) (hpl : (backTo pos (starEach [e2] X.env)).any (·.1) = false := by rfl) : PI X (.Tuple elts kk tpos) (.Call (.Name "zip" p) [e, e2] [] pos) (iZipM X.K ta) :=
  ⟨fun pins s σ H R I h => Call_ (ld_blt I hg hm PyProof.Rows.boot_zip (PyProof.Rows.callWith_type1 (thn (ha.run pos pins s σ H _ I h) fun us s1 ⟨vs, H1, I1, r1, a, b, k1, k2, xs, ys, ex, hk, qx, qy, q⟩ => by
    subst ex
    obtain ⟨u1, u2, rfl⟩ : ∃ u1 u2, us = [u1, u2] := by
      cases r1 with
      | cons _ rr => cases rr with
        | cons _ rr2 => cases rr2 with
          | nil => exact ⟨_, _, rfl⟩
    obtain ⟨rfl, rfl⟩ : u1 = Value.ref a ∧ u2 = Value.ref b := by
      cases r1 with
      | cons h1 rr => cases rr with
        | cons h2 rr2 => exact ⟨h1, h2⟩
    have mem5 : ∀ c, c ∈ [s1.heap.objs.size + 4, s1.heap.objs.size + 2, s1.heap.objs.size + 3, s1.heap.objs.size, s1.heap.objs.size + 1] → FpOk X pins H1 c := fun c hc => by
      have le : s1.heap.objs.size ≤ c := by
        simp only [List.mem_cons, List.not_mem_nil, or_false] at hc
        omega
      exact I1.fpOk le (I1.hok.fresh le)
    obtain ⟨its, rv, p1⟩ := qx.look I1
    obtain ⟨its2, rv2, p2⟩ := qy.look I1
    obtain ⟨o1, ho1⟩ := (ik k1).sqA p1
    obtain ⟨o2, ho2⟩ := (ik k2).sqA p2
    have fin : ∀ h', IsZip h' (s1.heap.objs.size + 4) (s1.heap.objs.size + 2) (s1.heap.objs.size + 3) .none → IsPair h' (s1.heap.objs.size + 2) (.ref s1.heap.objs.size) (.ref (s1.heap.objs.size + 1)) → IsPair h' (s1.heap.objs.size + 3) .none .none →
        (ik k1).it h' s1.heap.objs.size a 0 → (ik k2).it h' (s1.heap.objs.size + 1) b 0 → (∀ c o, s1.heap.get? c = some o → h'.get? c = some o) → wpAny (model X.prog X.w) X.A (pyIter (.ref (s1.heap.objs.size + 4))) (PIE X pins σ (.Tuple elts kk tpos) R) X.xe { s1 with heap := h' } := fun h' gz gI gO w1 w2 kp => wpAny_pyIter_zip gz
      ⟨s1.heap.objs.size + 4, [s1.heap.objs.size + 4, s1.heap.objs.size + 2, s1.heap.objs.size + 3, s1.heap.objs.size, s1.heap.objs.size + 1], _, _, H1, rfl, I1.kept (t' := s1.toks) kp, turn_zk k1 k2 (PySem.W.ktu_apart s1.heap.objs.size a b (Heap.lt_size ho1) (Heap.lt_size ho2)), ⟨gz, gI, ⟨_, _, gO⟩, w1, w2⟩, mem5, q⟩
    match k1, k2, hk, p1, p2, fin with
    | false, false, _, p1, p2, fin => exact call_zip_2 (show s1.heap.IsList a its.toArray from p1) (show s1.heap.IsList b its2.toArray from p2) fun h' gz gI gO w1 w2 _ kp => fin h' gz gI gO w1 w2 kp
    | true, true, _, p1, p2, fin => exact RZ.call_zipT (show s1.heap.IsTuple a its.toArray from p1) (show s1.heap.IsTuple b its2.toArray from p2) fun h' gz gI gO w1 w2 _ kp => fin h' gz gI gO w1 w2 kp
    | false, true, _, p1, p2, fin => exact call_mz (show s1.heap.IsList a its.toArray from p1) (show s1.heap.IsTuple b its2.toArray from p2) fun h' gz gI gO w1 w2 kp => fin h' gz gI gO w1 w2 kp
    | true, false, hk, _, _, _ => exact absurd hk (by decide)) hs hpl))⟩
/-- zip(f, f'): two sequences, the first a list where they are unlike -/
def zipD2 : D → D → Option (List D)
  | .lst ds, .lst es => some ((ds.zip es).map fun p => .tup [p.1, p.2])
  | .tup ds, .tup es => some ((ds.zip es).map fun p => .tup [p.1, p.2])
  | .lst ds, .tup es => some ((ds.zip es).map fun p => .tup [p.1, p.2])
  | _, _ => none
def zipM (f f' : EV) : EA := fun ρ => (f ρ).bind fun d ρ1 => (f' ρ1).bind fun d' ρ2 => Out.of (zipD2 d d') ρ2
theorem sqk_mono {K : PySem.W.Frag} {F H : Hp} {b : Bool} {a : Addr} {xs : List V} (s : Same F H) (h : SqK K b F a xs) : SqK K b H a xs := by
  cases b with
  | false => exact s.seq h
  | true => exact seqT s h
theorem iter_zk {K : PySem.W.Frag} {F : Hp} {a b : Addr} {k1 k2 : Bool} {vs ws : List V} {ds es : List D} (h : SqK K k1 F a vs) (h' : SqK K k2 F b ws) (r : Reps K F ds vs) (r' : Reps K F es ws) : IterOk K F (Izk K k1 k2 a b) ((ds.zip es).map fun p => .tup [p.1, p.2]) := fun i F1 H s1 s2 => by
  have hH := sqk_mono s2 (sqk_mono s1 h)
  have hH' := sqk_mono s2 (sqk_mono s1 h')
  refine ⟨fun d hd => ?_, fun hl => ⟨vs, ws, hH, hH', ?_⟩⟩
  · rw [List.getElem?_map] at hd
    obtain ⟨p, hp, ed⟩ := Option.map_eq_some_iff.mp hd
    obtain ⟨e1, e2⟩ := List.getElem?_zip_eq_some.mp hp
    obtain ⟨v, hv, rv⟩ := r.get e1
    obtain ⟨w, hw, rw'⟩ := r'.get e2
    refine ⟨⟨vs, ws, v, w, hH, hH', hv, hw⟩, fun x H' y => ?_⟩
    obtain ⟨T, x1, y1, ex, hT, eH, k1, k2⟩ := y
    have e3 := k1 vs hH
    have e4 := k2 ws hH'
    rw [hv] at e3
    rw [hw] at e4
    cases e3
    cases e4
    rw [eH, ex, ← ed]
    exact ⟨_, Grow.alloc s2 hT, rep_tup upd_same (Reps.mono (s1.trans (Grow.alloc s2 hT).f) _ _ (reps_cons rv (reps1 rw')))⟩
  · rw [List.length_map, List.length_zip, r.length, r'.length] at hl
    omega
theorem qi_zipM {X : Cx} {Γ : Gam} {e e' : Expr} {f f' : EV} {p pos tpos : Pos} {elts : List Expr} {kk : Nat} (hg : Gl X "zip") (hm : X.mg "zip" = none) (ha : QE X Γ e f) (hb : QE X Γ e' f')
    (hs : starEach [e, e'] X.env = (false, eval e X.env) :: starEach [e'] X.env := by rfl) (hs2 : starEach [e'] X.env = (false, eval e' X.env) :: starEach [] X.env := by rfl) (hpl : (backTo pos (starEach [e'] X.env)).any (·.1) = false := by rfl) :
    QI X Γ (.Tuple elts kk tpos) (.Call (.Name "zip" p) [e, e'] [] pos) (zipM f f') :=
  pi_weak (pi_zipM hg hm (pa_cons ha (pa_cons hb pa_nil hs2) hs) hs hpl) fun σ H R ⟨B, F, ρ, A, q⟩ => ⟨B, F, ρ, A, (After.bind (o := f ρ) q).mono fun d ρ1 F1 H1 s1 A1 q1 v r => ⟨B, F1, ρ1, A1, (After.bind (o := f' ρ1) q1).mono fun d' ρ2 F2 H2 s2 A2 q2 v' r' => by
    obtain ⟨zs, ez, q3⟩ := After.of q2
    have q4 := q3 F2 H2 (Same.refl F2) A2
    have r2 := Rep.mono s2 _ _ r
    unfold zipD2 at ez
    split at ez
    · cases ez
      obtain ⟨a, vs, ea, ha, ra⟩ := r2
      obtain ⟨b, ws, eb, hb, rb⟩ := r'
      exact ⟨a, b, false, false, vs, ws, by rw [ea, eb], .inl rfl, SqL.of (A2.sub _ _ ha), SqL.of (A2.sub _ _ hb), q4 _ (iter_zk (k1 := false) (k2 := false) (SqL.of ha) (SqL.of hb) ra rb)⟩
    · cases ez
      obtain ⟨a, vs, ea, ha, ra⟩ := r2
      obtain ⟨b, ws, eb, hb, rb⟩ := r'
      exact ⟨a, b, true, true, vs, ws, by rw [ea, eb], .inr rfl, tupS A2.sub ha, tupS A2.sub hb, q4 _ (iter_zk (k1 := true) (k2 := true) (SqT.of ha) (SqT.of hb) ra rb)⟩
    · cases ez
      obtain ⟨a, vs, ea, ha, ra⟩ := r2
      obtain ⟨b, ws, eb, hb, rb⟩ := r'
      exact ⟨a, b, false, true, vs, ws, by rw [ea, eb], .inl rfl, SqL.of (A2.sub _ _ ha), tupS A2.sub hb, q4 _ (iter_zk (k1 := false) (k2 := true) (SqL.of ha) (SqT.of hb) ra rb)⟩
    · cases ez⟩⟩
end HM

set_option Elab.async false
set_option linter.all false
set_option maxRecDepth 100000
set_option maxHeartbeats 4000000
/-! HMMore: calls with defaults, xs * n, n.bit_length(), is None as a test. -/
namespace HM
open PySem PySem.Spec PyProof.Rows L2
section
variable {X : Cx} {Γ : Gam} {k : Nat} {f : Addr} {fd : FuncData} {ps : List Str} {n i : Nat} {fs : FS} {dvs : List V} {dds : List D} {x C m : Str} {p pos apos : Pos} {e e' o : Expr} {es : List Expr} {fa : EA} {g : EV}
theorem qo_callD (FO : FnOk X.prog X.w X.K X.mg X.base (L2.CX X.prog X.w) k f fd ps (spF X.K n fs)) (hr : Room k X.A) (hg : Gl X x) (hm : X.mg x = some (.ref f)) (hk : PySem.W.keepIn X.K (.ref f) = true) (hbd : ∃ ds, Vals dvs ds ∧ Binds X.K fd ps ds) (rd : ∀ F, Reps X.K F dds dvs) (tk : Takes X Γ.W)
    (hlen : (e :: es).length + dvs.length = n) (ha : QA X Γ (e :: es) fa) (hal : ∀ ρ zs ρ', fa ρ = .ok zs ρ' → zs.length = (e :: es).length) (hdb : (x == ("__debug__" : Str)) = false := by decide)
    (he : starEach (e :: es) X.env = (false, eval e X.env) :: starEach es X.env := by rfl) (hpl : (backTo pos (starEach es X.env)).any (·.1) = false := by rfl) : QO X Γ (.Call (.Name x p) (e :: es) [] pos) (callF fs dds fa) := by
  obtain ⟨ds, hd, hb⟩ := hbd
  exact qo_call FO hr hg hm hk hb hd rd tk hlen ha hal hdb he hpl
theorem qe_bit (he : QE X Γ o g) (hbase : attributeBase o "bit_length" X.env (eval o X.env) = eval o X.env := by rfl) (hline : (apos.endLine == pos.line) = true := by rfl) : QE X Γ (.Call (.Attribute o "bit_length" apos) [] [] pos) (op1 bitsD g) :=
  qe_bits (pl := pure true) he (pe_bits he hbase hline)
end
section
variable {K : PySem.W.Frag}
def repD : D → D → Option D
  | .lst ds, .int k => if ds.length * k.toNat ≤ 100000 ∧ -(2 ^ 60) ≤ k ∧ k ≤ 2 ^ 60 then some (.lst (List.replicate k.toNat ds).flatten) else none
  | _, _ => none
theorem reps_rep {F : Hp} {ds : List D} {vs : List V} (r : Reps K F ds vs) : ∀ n : Nat, Reps K F (List.replicate n ds).flatten (List.replicate n vs).flatten
  | 0 => rfl
  | n + 1 => by
    rw [List.replicate_succ, List.replicate_succ, List.flatten_cons, List.flatten_cons]
    exact r.append (reps_rep r n)
theorem o_rep : Op2 K rRep repD := fun d e z ez F H x y Q s r1 r2 q => by
  unfold repD at ez
  split at ez
  · split at ez
    · rename_i ds k hc
      cases ez
      obtain ⟨a, vs, ea, ha, ra⟩ := r1
      refine ⟨a, k, vs, ea, r2, s _ _ ha, by omega, by omega, by rw [← ra.length]; exact Nat.le_trans hc.1 (by decide), fun p hp => ?_⟩
      exact q _ _ _ (Grow.alloc s hp) ⟨p, _, rfl, upd_same, Reps.mono (Grow.alloc s hp).f _ _ (reps_rep ra k.toNat)⟩
    · cases ez
  · cases ez
def isN2 (neg : Bool) (d e : D) : Option D := match e with
  | .non => some (.bl (if neg then !isNon d else isNon d))
  | _ => none
theorem o_isN2 : Op2 K (fun x y H Q => y = .non ∧ Q (.bl (decide (x = .non))) H) (isN2 false) := fun d e z ez F H x y Q s r1 r2 q => by
  unfold isN2 at ez
  split at ez
  · cases ez
    exact ⟨r2, pureQ s (by rw [rep_non r1]; exact rep_b) q⟩
  · cases ez
theorem o_notN2 : Op2 K (fun x y H Q => y = .non ∧ Q (.bl (!decide (x = .non))) H) (isN2 true) := fun d e z ez F H x y Q s r1 r2 q => by
  unfold isN2 at ez
  split at ez
  · cases ez
    exact ⟨r2, pureQ s (by rw [rep_non r1]; exact rep_b) q⟩
  · cases ez
end
end HM

set_option Elab.async false
set_option linter.all false
set_option maxRecDepth 100000
set_option maxHeartbeats 4000000
/-! HMLc: comprehensions whose turns leave all else as it was. -/
namespace HM
open PySem PySem.Spec PyProof.Rows L2
theorem lcS_map {t : Tg} {f : EV} {vs : List Nat} {ρ : Rho} {g : D → D} : ∀ (ds acc : List D), acc.length + ds.length ≤ 90000 → (∀ d ∈ ds, ∃ ρ1 ρ2, t d ρ = some ρ1 ∧ f ρ1 = .ok (g d) ρ2 ∧ wipeR ρ2 vs = ρ) → lcS t yesB f vs ds ρ acc = .ok (acc ++ ds.map g) ρ
  | [], acc, _, _ => by
    rw [List.map_nil, List.append_nil]
    rfl
  | d :: ds, acc, hl, h => by
    obtain ⟨ρ1, ρ2, e1, e2, e3⟩ := h d List.mem_cons_self
    rw [List.length_cons] at hl
    have hs : small (acc.length + 1) = true := small_of (by omega)
    rw [lcS, e1]
    show (match f ρ1 with
      | .ok v ρ3 => if small (acc.length + 1) then lcS t yesB f vs ds (wipeR ρ3 vs) (acc ++ [v]) else .stuck
      | _ => .stuck) = _
    rw [e2]
    show (if small (acc.length + 1) then lcS t yesB f vs ds (wipeR ρ2 vs) (acc ++ [g d]) else .stuck) = _
    rw [if_pos hs, e3, lcS_map ds (acc ++ [g d]) (by rw [List.length_append, List.length_cons, List.length_nil]; omega) fun d' hd => h d' (List.mem_cons_of_mem _ hd), List.append_assoc]
    rfl
/-- the whole comprehension -/
theorem lcE_map {it : EA} {t : Tg} {f : EV} {vs : List Nat} {ρ ρ1 ρ2 : Rho} {ds : List D} {g : D → D} (hi : it ρ = .ok ds ρ1) (hl : ds.length ≤ 90000) (hw : wipeR ρ1 vs = ρ2) (hu : unwipe ρ1 vs ρ2 = ρ1) (h : ∀ d ∈ ds, ∃ r1 r2, t d ρ2 = some r1 ∧ f r1 = .ok (g d) r2 ∧ wipeR r2 vs = ρ2) :
    lcE it t yesB f vs ρ = .ok (.own (.lst (ds.map g))) ρ1 := by
  unfold lcE
  rw [hi, bind_ok, hw, lcS_map ds [] (by rw [List.length_nil]; omega) h]
  show Out.ok (Sl.own (.lst ([] ++ ds.map g))) (unwipe ρ1 vs ρ2) = _
  rw [hu, List.nil_append]
end HM

set_option Elab.async false
set_option linter.all false
set_option maxRecDepth 100000
set_option maxHeartbeats 4000000
/-! HMS2: equations of construction, methods, properties; small lengths. -/
namespace HM
open PySem PySem.Spec PyProof.Rows L2
def mkRes : FOut → Rho → Out Sl
  | .ret (.val .non) (some (.ins C ns ds)), ρ => .ok (.own (.ins C ns ds)) ρ
  | _, _ => .stuck
def clRes : FOut → Rho → Out Sl
  | .ret s none, ρ => .ok s ρ
  | .exc c ks zs none, ρ => .exc c ks zs ρ
  | _, _ => .stuck
def okM (C m : Str) : D → Bool
  | .ins C' ns _ => decide (C' = C ∧ m ∉ ns)
  | _ => false
def okC (C : Str) : D → Bool
  | .ins C' _ _ => decide (C' = C)
  | _ => false
section
variable {C m : Str} {fs : FS} {dds : List D} {fa : EA} {g : EV} {ρ : Rho}
theorem makeE_ap : makeE C fs dds fa ρ = (fa ρ).bind fun ds ρ1 => mkRes (fs (some (.ins C [] [])) (ds ++ dds)) ρ1 := by
  unfold makeE
  congr 1
  funext ds ρ1
  cases fs (some (.ins C [] [])) (ds ++ dds) with
  | ret s l =>
    cases s with
    | val d => cases d <;> cases l with
      | none => rfl
      | some z => cases z <;> rfl
    | _ => rfl
  | _ => rfl
theorem methE_ap : methE C m fs dds g fa ρ = (g ρ).bind fun d ρ1 => if okM C m d = true then (fa ρ1).bind fun es ρ2 => clRes (fs none (d :: (es ++ dds))) ρ2 else .stuck := by
  unfold methE
  congr 1
  funext d ρ1
  cases d with
  | ins C' ns ds =>
    by_cases h : C' = C ∧ m ∉ ns
    · rw [if_pos (show okM C m (.ins C' ns ds) = true from decide_eq_true h)]
      show (if C' = C ∧ m ∉ ns then _ else _) = _
      rw [if_pos h]
      congr 1
      funext es ρ2
      cases fs none (.ins C' ns ds :: (es ++ dds)) with
      | ret s l => cases l <;> rfl
      | exc c ks zs l => cases l <;> rfl
      | _ => rfl
    · rw [if_neg (show ¬ okM C m (.ins C' ns ds) = true from fun z => h (of_decide_eq_true z))]
      show (if C' = C ∧ m ∉ ns then _ else _) = _
      rw [if_neg h]
  | _ => rfl
def prRes : FOut → Rho → Out Sl
  | .ret s none, ρ => .ok s ρ
  | _, _ => .stuck
theorem propE_ap : propE C fs g ρ = (g ρ).bind fun d ρ1 => if okC C d = true then prRes (fs none [d]) ρ1 else .stuck := by
  unfold propE
  congr 1
  funext d ρ1
  cases d with
  | ins C' ns ds =>
    by_cases h : C' = C
    · rw [if_pos (show okC C (.ins C' ns ds) = true from decide_eq_true h)]
      show (if C' = C then _ else _) = _
      rw [if_pos h]
      cases fs none [.ins C' ns ds] with
      | ret s l => cases l <;> rfl
      | _ => rfl
    · rw [if_neg (show ¬ okC C (.ins C' ns ds) = true from fun z => h (of_decide_eq_true z))]
      show (if C' = C then _ else _) = _
      rw [if_neg h]
  | _ => rfl
@[simp] theorem clRes_ret {s : Sl} : clRes (.ret s none) ρ = .ok s ρ := id rfl
@[simp] theorem clRes_exc {c : XC} {ks : List Str} {zs : List D} : clRes (.exc c ks zs none) ρ = .exc c ks zs ρ := id rfl
@[simp] theorem prRes_ret {s : Sl} : prRes (.ret s none) ρ = .ok s ρ := id rfl
theorem nn_i {x : Int} : isNotNoneD (.int x) = some (.bl true) := id rfl
theorem nn_t {ds : List D} : isNotNoneD (.tup ds) = some (.bl true) := id rfl
theorem nn_n : isNotNoneD .non = some (.bl false) := id rfl
theorem nn_s {ns : List Str} {ds : List D} : isNotNoneD (.ins C ns ds) = some (.bl true) := id rfl
theorem ni_i {x : Int} : isNoneD (.int x) = some (.bl false) := id rfl
theorem ni_t {ds : List D} : isNoneD (.tup ds) = some (.bl false) := id rfl
theorem ni_n : isNoneD .non = some (.bl true) := id rfl
theorem ni_s {ns : List Str} {ds : List D} : isNoneD (.ins C ns ds) = some (.bl false) := id rfl
theorem truV_ap {i : Nat} : truV i ρ = Out.of ((peek i ρ).bind truD) ρ := id rfl
theorem truB_ap {f : EV} : truB f ρ = (f ρ).bind fun d ρ1 => Out.of (truD d) ρ1 := id rfl
theorem truD_b {b : Bool} : truD (.bl b) = some b := id rfl
theorem isN2_n {b : Bool} : isN2 b .non .non = some (.bl (!b)) := by cases b <;> rfl
theorem isN2_t {b : Bool} {ds : List D} : isN2 b (.tup ds) .non = some (.bl b) := by cases b <;> rfl
theorem isBD_b {n a b : Bool} : isBD n (.bl a) (.bl b) = some (.bl (if n then !decide (a = b) else decide (a = b))) := id rfl
theorem rng2D_i {x y : Int} (h1 : -(2 ^ 60) ≤ x) (h2 : x ≤ 2 ^ 60) (h3 : -(2 ^ 60) ≤ y) (h4 : y ≤ 2 ^ 60) : rng2D (.int x) (.int y) = some (intsFrom x (y - x).toNat) := rng2_i (inBnd_of h1 h2) (inBnd_of h3 h4)
/-- a for whose turns leave all as it was -/
theorem forS_const {t : Tg} {s : SV} : ∀ {ds : List D}, (∀ d ∈ ds, ∃ ρ1, t d ρ = some ρ1 ∧ s ρ1 = .nx ρ) → forS t s ds ρ = .nx ρ
  | [], _ => forS_nil
  | d :: ds, h => by
    obtain ⟨ρ1, e1, e2⟩ := h d List.mem_cons_self
    rw [forS_cons, e1]
    simp only [e2]
    exact forS_const fun d' hd => h d' (List.mem_cons_of_mem _ hd)
theorem ne_of_eq {d e : D} {b : Bool} (h : eqD d e = some (.bl b)) : neD d e = some (.bl (!b)) := by
  have h1 : (eqvD d e).map D.bl = some (.bl b) := h
  show (eqvD d e).map (fun b => D.bl (!b)) = _
  cases k : eqvD d e with
  | none =>
    rw [k] at h1
    cases h1
  | some c =>
    rw [k] at h1
    have : D.bl c = D.bl b := Option.some.inj h1
    cases this
    rfl
theorem eqD_b {a b : Bool} : eqD (.bl a) (.bl b) = some (.bl (decide (a = b))) := by cases a <;> cases b <;> kernel_rfl
theorem neD_b {a b : Bool} : neD (.bl a) (.bl b) = some (.bl (!decide (a = b))) := ne_of_eq eqD_b
theorem lcE_ap {it : EA} {t : Tg} {c : EB} {f : EV} {vs : List Nat} : lcE it t c f vs ρ = (it ρ).bind fun ds ρ1 => match lcS t c f vs ds (wipeR ρ1 vs) [] with
  | .ok acc ρ2 => .ok (.own (.lst acc)) (unwipe ρ1 vs ρ2)
  | _ => .stuck := id rfl
theorem lcS_nil {t : Tg} {c : EB} {f : EV} {vs : List Nat} {acc : List D} : lcS t c f vs [] ρ acc = .ok acc ρ := id rfl
theorem lcS_cons {t : Tg} {f : EV} {vs : List Nat} {d : D} {ds acc : List D} : lcS t yesB f vs (d :: ds) ρ acc = match t d ρ with
    | none => .stuck
    | some ρ1 => match f ρ1 with
      | .ok v ρ3 => if small (acc.length + 1) = true then lcS t yesB f vs ds (wipeR ρ3 vs) (acc ++ [v]) else .stuck
      | _ => .stuck := id rfl
theorem wipeR_nil : wipeR ρ [] = ρ := id rfl
theorem wipeR_cons {v : Nat} {vs : List Nat} : wipeR ρ (v :: vs) = (wipeR ρ vs).set v .non := id rfl
theorem unwipe_nil {ρ1 : Rho} : unwipe ρ1 [] ρ = ρ := id rfl
theorem unwipe_cons {v : Nat} {vs : List Nat} {ρ1 : Rho} : unwipe ρ1 (v :: vs) ρ = unwipe ρ1 vs (ρ.set v (keepV ρ1[v]?)) := id rfl
theorem keepV_non : keepV (some .non) = .non := id rfl
theorem keepV_val {d : D} : keepV (some (.val d)) = .val d := id rfl
theorem il20 {a b : D} : itemD (.lst [a, b]) (.int 0) = some a := id rfl
theorem il21 {a b : D} : itemD (.lst [a, b]) (.int 1) = some b := id rfl
theorem tl20 {a b : D} : itemD (.tup [a, b]) (.int 0) = some a := id rfl
theorem tl21 {a b : D} : itemD (.tup [a, b]) (.int 1) = some b := id rfl
theorem il30 {a b c : D} : itemD (.lst [a, b, c]) (.int 0) = some a := id rfl
theorem il31 {a b c : D} : itemD (.lst [a, b, c]) (.int 1) = some b := id rfl
theorem il32 {a b c : D} : itemD (.lst [a, b, c]) (.int 2) = some c := id rfl
theorem tl30 {a b c : D} : itemD (.tup [a, b, c]) (.int 0) = some a := id rfl
theorem tl31 {a b c : D} : itemD (.tup [a, b, c]) (.int 1) = some b := id rfl
theorem tl32 {a b c : D} : itemD (.tup [a, b, c]) (.int 2) = some c := id rfl
theorem mkRes_ins {ns : List Str} {ds : List D} : mkRes (.ret (.val .non) (some (.ins C ns ds))) ρ = .ok (.own (.ins C ns ds)) ρ := id rfl
end
end HM

set_option Elab.async false
set_option linter.all false
set_option maxRecDepth 100000
set_option maxHeartbeats 0
/-! K90Sem: what the defs of the law compute, as functions on plain data (printed by gen.py). -/
namespace HT
open PySem PySem.Spec PyProof.Rows L2 HM
def top (i : Nat) : Stmt := PySem.Challenge.pw_heardmarks_k90_whole_good_lines.main.body.getD i (.Pass ⟨0, 0, 0, 0⟩)
abbrev s_BadPoint___init__ : Stmt := inClass (top 4) 0
abbrev s_OtherSpace___init__ : Stmt := inClass (top 5) 0
abbrev s_is_whole : Stmt := top 9
abbrev s_lowest : Stmt := top 11
abbrev s_divisor : Stmt := top 16
abbrev s_multiple : Stmt := top 17
abbrev s__good_twice : Stmt := top 34
abbrev s__whole_at : Stmt := top 36
abbrev s__is_whole_point : Stmt := top 38
abbrev s__law_stream : Stmt := top 41
abbrev s__law_take : Stmt := top 42
abbrev s__law_whole : Stmt := top 43
abbrev s__law_divisor : Stmt := top 44
abbrev s__law_point : Stmt := top 49
abbrev s__law_is_whole : Stmt := top 56
abbrev s_Flat_length2 : Stmt := inClass (top 29) 1
abbrev s_is_fraction : Stmt := top 10
abbrev s_plus : Stmt := top 12
abbrev s_minus : Stmt := top 13
abbrev s_times : Stmt := top 14
abbrev s_dotted : Stmt := top 15
abbrev s_common_low : Stmt := top 18
abbrev s_common_of : Stmt := top 25
abbrev s__law_frac : Stmt := top 45
abbrev s__law_is_frac : Stmt := top 50
abbrev s__law_direction : Stmt := top 54
abbrev s_is_point : Stmt := top 20
abbrev s_taken : Stmt := top 22
abbrev s_squared : Stmt := top 23
abbrev s_is_direction : Stmt := top 26
abbrev s_height_of : Stmt := top 27
abbrev s__check_plane : Stmt := top 33
abbrev s__law_plus : Stmt := top 46
abbrev s__law_minus : Stmt := top 47
abbrev s__law_times : Stmt := top 48
abbrev s__law_is_point : Stmt := top 51
abbrev s_check_point : Stmt := top 21
abbrev s_flat_mirrored : Stmt := top 28
abbrev s_Flat___init__ : Stmt := inClass (top 29) 0
abbrev s_is_good : Stmt := top 35
abbrev s__law_height : Stmt := top 52
abbrev s__law_due : Stmt := top 55
abbrev s_Flat_mirrored : Stmt := inClass (top 29) 5
abbrev s_good_pair : Stmt := top 37
abbrev s__law_mirrored : Stmt := top 53
abbrev s_flat_from : Stmt := top 30
abbrev s_whole_mirrored : Stmt := top 39
abbrev s__law_pair_right : Stmt := top 57
abbrev s_between : Stmt := top 31
abbrev s__law_image_right : Stmt := top 58
abbrev s__law_refusal : Stmt := top 61
abbrev s__law_line_right : Stmt := top 59
abbrev s__law_between_right : Stmt := top 60
abbrev s__law_refuses : Stmt := top 62
abbrev s_law : Stmt := top 63
def mt : MtT := [("BadPoint", "BadPoint", true), ("BadPoint", "OtherSpace", false), ("OtherSpace", "BadPoint", false), ("OtherSpace", "OtherSpace", true)]
def m_is_whole : SV :=
  (retS ((thw ((andV ((isInst "int" ((var 0)))) ((op1 notD ((isInst "bool" ((var 0)))))))))))
def f_is_whole : FS := defF 1 1 m_is_whole
def m_lowest : SV :=
  (sq (ifS ((asB (op2 ltD ((var 1)) (cst (.int 0)))))
    (asg2 0 1 ((aCons ((op1 negD ((var 0)))) ((aCons ((op1 negD ((var 1)))) (aNil))))))
    skp)
    (sq (ifS ((asB (op2 eqD ((var 1)) (cst (.int 1)))))
    (retS ((thw ((tupE ((aCons ((var 0)) ((aCons (cst (.int 1)) (aNil))))))))))
    skp)
    (sq (asg 2 ((thw ((opN gcdD ((aCons ((var 0)) ((aCons ((var 1)) (aNil))))))))))
    (retS ((thw ((tupE ((aCons ((op2 fdivD ((var 0)) ((var 2)))) ((aCons ((op2 fdivD ((var 1)) ((var 2)))) (aNil)))))))))))))
def f_lowest : FS := defF 2 3 m_lowest
def m_divisor : SV :=
  (retS ((thw ((opN gcdD ((aCons ((var 0)) ((aCons ((var 1)) (aNil))))))))))
def f_divisor : FS := defF 2 2 m_divisor
def m_multiple : SV :=
  (retS ((thw ((op2 mulD ((op2 fdivD ((op1 absD ((var 0)))) ((opN gcdD ((aCons ((var 0)) ((aCons ((var 1)) (aNil))))))))) ((op1 absD ((var 1)))))))))
def f_multiple : FS := defF 2 2 m_multiple
def m__good_twice : SV :=
  (sq (ifS ((asB (op2 neD ((op2 modD (cst (.int 2)) ((op2 itemD ((opV1 (fldD ["Flat"] "offset") 0)) (cst (.int 1)))))) (cst (.int 0)))))
    (retS ((thw (cst .non))))
    skp)
    (retS ((thw ((op2 mulD ((op2 itemD ((opV1 (fldD ["Flat"] "offset") 0)) (cst (.int 0)))) ((op2 fdivD (cst (.int 2)) ((op2 itemD ((opV1 (fldD ["Flat"] "offset") 0)) (cst (.int 1))))))))))))
def f__good_twice : FS := defF 1 1 m__good_twice
def p0__whole_at : EB :=
  (asB (op2 neD ((opV2 itemD 4 (cst (.int 0)))) (cst (.int 0))))
def p1__whole_at : SV :=
  (sq (asg 5 ((thw ((op2 fdivD ((opV2 itemD 3 (cst (.int 0)))) ((opV2 itemD 4 (cst (.int 0)))))))))
    (sq (asg2 3 4 ((aCons ((var 4)) ((aCons ((tupE ((aCons ((op2 subD ((opV2 itemD 3 (cst (.int 0)))) ((op2 mulD ((var 5)) ((opV2 itemD 4 (cst (.int 0)))))))) ((aCons ((op2 subD ((opV2 itemD 3 (cst (.int 1)))) ((op2 mulD ((var 5)) ((opV2 itemD 4 (cst (.int 1)))))))) ((aCons ((op2 subD ((opV2 itemD 3 (cst (.int 2)))) ((op2 mulD ((var 5)) ((opV2 itemD 4 (cst (.int 2)))))))) (aNil))))))))) (aNil)))))) (fgt [5])))
def m__whole_at : SV :=
  (sq (asg 3 ((thw ((tupE ((aCons ((var 0)) ((aCons (cst (.int 1)) ((aCons (cst (.int 0)) (aNil))))))))))))
    (sq (asg 4 ((thw ((tupE ((aCons ((var 1)) ((aCons (cst (.int 0)) ((aCons (cst (.int 1)) (aNil))))))))))))
    (sq (sq (whileS p0__whole_at p1__whole_at 200) (fgt [5, 4]))
    (sq (asg 6 ((thw ((op2 mulD ((var 2)) ((opV2 itemD 3 (cst (.int 0)))))))))
    (retS ((thw ((tupE ((aCons ((op2 mulD ((opV2 itemD 3 (cst (.int 1)))) ((var 6)))) ((aCons ((op2 mulD ((opV2 itemD 3 (cst (.int 2)))) ((var 6)))) (aNil))))))))))))))
def f__whole_at : FS := defF 3 7 m__whole_at
def m__is_whole_point : SV :=
  (retS ((thw ((andV ((op2 eqD ((op2 itemD ((opV2 itemD 0 (cst (.int 0)))) (cst (.int 1)))) (cst (.int 1)))) ((op2 eqD ((op2 itemD ((opV2 itemD 0 (cst (.int 1)))) (cst (.int 1)))) (cst (.int 1)))))))))
def f__is_whole_point : FS := defF 1 1 m__is_whole_point
def p0__law_stream : SV :=
  (sq (ifS ((asB (op2 gtD ((var 3)) (cst (.int 0)))))
    (sq (dropS ((thw ((appE 1 ((op2 modD ((op1 intD ((var 3)))) (cst (.int 60)))))))))
    (asg 3 ((thw ((op2 fdivD ((var 3)) (cst (.int 60))))))))
    skp) (fgt [5]))
def p1__law_stream : SV :=
  (sq (asg 6 ((thw ((op2 modD ((op1 intD ((op2 addD ((op2 addD ((op2 addD ((op2 mulD ((var 6)) ((var 6)))) ((op2 mulD ((var 2)) (cst (.int 31)))))) ((op2 mulD ((var 5)) (cst (.int 1009)))))) (cst (.int 5)))))) (cst (.int 1000000007)))))))
    (sq (dropS ((thw ((appE 1 ((var 6))))))) (fgt [5])))
def p2__law_stream : SV :=
  (sq (asg 3 ((thw ((op1 intD ((opV2 itemD 0 ((var 2)))))))))
    (sq (asg 4 ((thw (cst (.int 0)))))
    (sq (ifS ((asB (op2 ltD ((var 3)) (cst (.int 0)))))
    (sq (asg 3 ((thw ((op1 negD ((var 3)))))))
    (asg 4 ((thw (cst (.int 1))))))
    skp)
    (sq (sq (ifS ((asB (op2 geD ((var 3)) ((op2 powD (cst (.int 10)) (cst (.int 18)))))))
    (sq (forE ((rng1 (cst (.int 60)))) ((tgN 5)) p0__law_stream) (fgt [5, 3]))
    (sq (asg 6 ((thw ((op2 modD ((op1 intD ((op2 addD ((op2 addD ((op2 addD ((op2 mulD ((var 3)) (cst (.int 7919)))) ((op2 mulD ((var 2)) (cst (.int 104729)))))) ((op2 mulD ((var 4)) (cst (.int 613)))))) (cst (.int 17)))))) (cst (.int 998244353)))))))
    (sq (forE ((rng1 (cst (.int 5)))) ((tgN 5)) p1__law_stream) (fgt [5, 6])))) (fgt [5, 3, 6])) (fgt [2, 3, 4, 5, 6])))))
def m__law_stream : SV :=
  (sq (asg 1 ((lstE (aNil))))
    (sq (sq (forE ((rng1 ((opN min2D ((aCons ((opV1 lenD 0)) ((aCons (cst (.int 63)) (aNil))))))))) ((tgN 2)) p2__law_stream) (fgt [2, 3, 4, 5, 6]))
    (sq (dropS ((thw ((revE 1)))))
    (retS ((move 1))))))
def f__law_stream : FS := defF 1 7 m__law_stream
def m__law_take : SV :=
  (sq (ifS ((asB (op2 eqD ((opV1 lenD 0)) (cst (.int 0)))))
    (retS ((thw (cst (.int 0)))))
    skp)
    (retS ((thw ((op2 modD ((op1 intD ((popE 0)))) ((var 1))))))))
def f__law_take : FS := defF 2 2 m__law_take
def m__law_whole : SV :=
  (retS ((thw ((andV ((isInst "int" ((var 0)))) ((op1 notD ((isInst "bool" ((var 0)))))))))))
def f__law_whole : FS := defF 1 1 m__law_whole
def p0__law_divisor : SV :=
  (sq (sq (ifS ((asB (op2 gtD ((var 3)) (cst (.int 0)))))
    (sq (asg 5 ((thw ((op2 modD ((op1 intD ((var 2)))) ((var 3)))))))
    (sq (asg 2 ((move 3)))
    (asg 3 ((move 5)))))
    skp) (fgt [5])) (fgt [4, 5]))
def m__law_divisor : SV :=
  (sq (asg 2 ((thw ((op1 absD ((var 0)))))))
    (sq (asg 3 ((thw ((op1 absD ((var 1)))))))
    (sq (sq (forE ((rng1 ((op2 addD ((op2 mulD (cst (.int 2)) ((op1 bitsD ((var 3)))))) (cst (.int 10)))))) ((tgN 4)) p0__law_divisor) (fgt [4, 5, 3]))
    (retS ((move 2))))))
def f__law_divisor : FS := defF 2 6 m__law_divisor
def m__law_point : SV :=
  (retS ((thw ((op1 tupleD ((frz ((lcE ((itE ((var 0)))) ((tgN 1)) (yesB) ((tupE ((aCons ((var 1)) ((aCons (cst (.int 1)) (aNil))))))) [1])))))))))
def f__law_point : FS := defF 1 2 m__law_point
def m__law_is_whole : SV :=
  (retS ((thw ((andV ((op2 eqD ((op2 itemD ((opV2 itemD 0 (cst (.int 0)))) (cst (.int 1)))) (cst (.int 1)))) ((op2 eqD ((op2 itemD ((opV2 itemD 0 (cst (.int 1)))) (cst (.int 1)))) (cst (.int 1)))))))))
def f__law_is_whole : FS := defF 1 1 m__law_is_whole
def m_Flat_length2 : SV :=
  (retS ((thw ((op1 sumD ((frz ((lcE ((itE ((opV1 (fldD ["Flat"] "direction") 0)))) ((tgN 1)) (yesB) ((op2 mulD ((var 1)) ((var 1)))) [1])))))))))
def f_Flat_length2 : FS := defF 1 2 m_Flat_length2
def m_is_fraction : SV :=
  (sq (ifS ((orB ((notB ((asB ((isInst "tuple" ((var 0)))))))) ((asB (op2 neD ((opV1 lenD 0)) (cst (.int 2)))))))
    (retS ((thw (cst (.bl false)))))
    skp)
    (sq (ifS ((orB ((notB ((asB ((frz ((callF f_is_whole [] ((aCons ((opV2 itemD 0 (cst (.int 0)))) (aNil))))))))))) ((orB ((notB ((asB ((frz ((callF f_is_whole [] ((aCons ((opV2 itemD 0 (cst (.int 1)))) (aNil))))))))))) ((asB (op2 ltD ((opV2 itemD 0 (cst (.int 1)))) (cst (.int 1)))))))))
    (retS ((thw (cst (.bl false)))))
    skp)
    (retS ((thw ((orV ((op2 eqD ((opV2 itemD 0 (cst (.int 1)))) (cst (.int 1)))) ((op2 eqD ((opN gcdD ((aCons ((opV2 itemD 0 (cst (.int 0)))) ((aCons ((opV2 itemD 0 (cst (.int 1)))) (aNil))))))) (cst (.int 1)))))))))))
def f_is_fraction : FS := defF 1 1 m_is_fraction
def m_plus : SV :=
  (sq (ifS ((andB ((asB (op2 eqD ((opV2 itemD 0 (cst (.int 1)))) (cst (.int 1))))) ((asB (op2 eqD ((opV2 itemD 1 (cst (.int 1)))) (cst (.int 1)))))))
    (retS ((thw ((tupE ((aCons ((op2 addD ((opV2 itemD 0 (cst (.int 0)))) ((opV2 itemD 1 (cst (.int 0)))))) ((aCons (cst (.int 1)) (aNil))))))))))
    skp)
    (retS ((callF f_lowest [] ((aCons ((op2 addD ((op2 mulD ((opV2 itemD 0 (cst (.int 0)))) ((opV2 itemD 1 (cst (.int 1)))))) ((op2 mulD ((opV2 itemD 1 (cst (.int 0)))) ((opV2 itemD 0 (cst (.int 1)))))))) ((aCons ((op2 mulD ((opV2 itemD 0 (cst (.int 1)))) ((opV2 itemD 1 (cst (.int 1)))))) (aNil)))))))))
def f_plus : FS := defF 2 2 m_plus
def m_minus : SV :=
  (sq (ifS ((andB ((asB (op2 eqD ((opV2 itemD 0 (cst (.int 1)))) (cst (.int 1))))) ((asB (op2 eqD ((opV2 itemD 1 (cst (.int 1)))) (cst (.int 1)))))))
    (retS ((thw ((tupE ((aCons ((op2 subD ((opV2 itemD 0 (cst (.int 0)))) ((opV2 itemD 1 (cst (.int 0)))))) ((aCons (cst (.int 1)) (aNil))))))))))
    skp)
    (retS ((callF f_lowest [] ((aCons ((op2 subD ((op2 mulD ((opV2 itemD 0 (cst (.int 0)))) ((opV2 itemD 1 (cst (.int 1)))))) ((op2 mulD ((opV2 itemD 1 (cst (.int 0)))) ((opV2 itemD 0 (cst (.int 1)))))))) ((aCons ((op2 mulD ((opV2 itemD 0 (cst (.int 1)))) ((opV2 itemD 1 (cst (.int 1)))))) (aNil)))))))))
def f_minus : FS := defF 2 2 m_minus
def m_times : SV :=
  (sq (ifS ((andB ((asB (op2 eqD ((opV2 itemD 0 (cst (.int 1)))) (cst (.int 1))))) ((asB (op2 eqD ((opV2 itemD 1 (cst (.int 1)))) (cst (.int 1)))))))
    (retS ((thw ((tupE ((aCons ((op2 mulD ((opV2 itemD 0 (cst (.int 0)))) ((opV2 itemD 1 (cst (.int 0)))))) ((aCons (cst (.int 1)) (aNil))))))))))
    skp)
    (retS ((callF f_lowest [] ((aCons ((op2 mulD ((opV2 itemD 0 (cst (.int 0)))) ((opV2 itemD 1 (cst (.int 0)))))) ((aCons ((op2 mulD ((opV2 itemD 0 (cst (.int 1)))) ((opV2 itemD 1 (cst (.int 1)))))) (aNil)))))))))
def f_times : FS := defF 2 2 m_times
def p0_dotted : SV :=
  (sq (asg 6 ((thw ((op2 mulD ((opV2 itemD 4 (cst (.int 1)))) ((opV2 itemD 5 (cst (.int 1)))))))))
    (sq (ifS ((asB (op2 eqD ((var 6)) ((var 3)))))
    (asg 2 ((thw ((op2 addD ((var 2)) ((op2 mulD ((opV2 itemD 4 (cst (.int 0)))) ((opV2 itemD 5 (cst (.int 0)))))))))))
    (sq (asg 2 ((thw ((op2 addD ((op2 mulD ((var 2)) ((var 6)))) ((op2 mulD ((op2 mulD ((opV2 itemD 4 (cst (.int 0)))) ((opV2 itemD 5 (cst (.int 0)))))) ((var 3)))))))))
    (asg 3 ((thw ((op2 mulD ((var 3)) ((var 6))))))))) (fgt [4, 5, 6])))
def m_dotted : SV :=
  (sq (asg 2 ((thw (cst (.int 0)))))
    (sq (asg 3 ((thw (cst (.int 1)))))
    (sq (sq (forE ((zipM ((var 0)) ((var 1)))) ((tgT (((tgN 4)) :: (((tgN 5)) :: [])))) p0_dotted) (fgt [4, 5, 6]))
    (retS ((callF f_lowest [] ((aCons ((var 2)) ((aCons ((var 3)) (aNil)))))))))))
def f_dotted : FS := defF 2 7 m_dotted
def p0_common_low : SV :=
  (sq (ifS ((asB (op2 neD ((opV2 itemD 2 (cst (.int 1)))) (cst (.int 1)))))
    (asg 1 ((callF f_multiple [] ((aCons ((var 1)) ((aCons ((opV2 itemD 2 (cst (.int 1)))) (aNil))))))))
    skp) (fgt [2]))
def m_common_low : SV :=
  (sq (asg 1 ((thw (cst (.int 1)))))
    (sq (sq (forE ((itE ((var 0)))) ((tgN 2)) p0_common_low) (fgt [2]))
    (retS ((move 1)))))
def f_common_low : FS := defF 1 3 m_common_low
def p0_common_of : SV :=
  (sq (asg 1 ((callF f_divisor [] ((aCons ((var 1)) ((aCons ((var 3)) (aNil))))))))
    (sq (ifS ((asB (op2 eqD ((var 2)) (cst (.int 0)))))
    (asg 2 ((move 3)))
    skp) (fgt [3])))
def m_common_of : SV :=
  (sq (asg 1 ((thw (cst (.int 0)))))
    (sq (asg 2 ((thw (cst (.int 0)))))
    (sq (sq (forE ((itE ((var 0)))) ((tgN 3)) p0_common_of) (fgt [3]))
    (retS ((thw ((ifE ((asB (op2 ltD ((var 2)) (cst (.int 0))))) ((op1 negD ((var 1)))) ((var 1))))))))))
def f_common_of : FS := defF 1 4 m_common_of
def m__law_frac : SV :=
  (sq (ifS ((asB (op2 ltD ((var 1)) (cst (.int 0)))))
    (sq (asg 0 ((thw ((op1 negD ((var 0)))))))
    (asg 1 ((thw ((op1 negD ((var 1))))))))
    skp)
    (sq (asg 2 ((callF f__law_divisor [] ((aCons ((var 1)) ((aCons ((var 0)) (aNil))))))))
    (retS ((thw ((tupE ((aCons ((op2 fdivD ((var 0)) ((var 2)))) ((aCons ((op2 fdivD ((var 1)) ((var 2)))) (aNil))))))))))))
def f__law_frac : FS := defF 2 3 m__law_frac
def m__law_is_frac : SV :=
  (sq (ifS ((orB ((notB ((asB ((isInst "tuple" ((var 0)))))))) ((asB (op2 neD ((opV1 lenD 0)) (cst (.int 2)))))))
    (retS ((thw (cst (.bl false)))))
    skp)
    (sq (ifS ((orB ((notB ((asB ((frz ((callF f__law_whole [] ((aCons ((opV2 itemD 0 (cst (.int 0)))) (aNil))))))))))) ((orB ((notB ((asB ((frz ((callF f__law_whole [] ((aCons ((opV2 itemD 0 (cst (.int 1)))) (aNil))))))))))) ((asB (op2 ltD ((opV2 itemD 0 (cst (.int 1)))) (cst (.int 1)))))))))
    (retS ((thw (cst (.bl false)))))
    skp)
    (retS ((thw ((op2 eqD ((frz ((callF f__law_divisor [] ((aCons ((opV2 itemD 0 (cst (.int 1)))) ((aCons ((opV2 itemD 0 (cst (.int 0)))) (aNil))))))))) (cst (.int 1)))))))))
def f__law_is_frac : FS := defF 1 1 m__law_is_frac
def m__law_direction : SV :=
  (sq (asg 2 ((thw ((op2 addD ((frz ((callL f__law_take 0 [] ((aCons ((var 1)) (aNil))))))) (cst (.int 1)))))))
    (sq (asg 3 ((thw ((op2 subD ((frz ((callL f__law_take 0 [] ((aCons ((op2 addD ((op2 mulD (cst (.int 2)) ((var 1)))) (cst (.int 1)))) (aNil))))))) ((var 1)))))))
    (sq (asg 4 ((callF f__law_divisor [] ((aCons ((var 2)) ((aCons ((var 3)) (aNil))))))))
    (sq (asg 5 ((callL f__law_take 0 [] ((aCons (cst (.int 6)) (aNil))))))
    (sq (ifS ((asB (op2 eqD ((var 5)) (cst (.int 1)))))
    (retS ((thw ((tupE ((aCons (cst (.int 0)) ((aCons (cst (.int 1)) (aNil))))))))))
    skp)
    (sq (ifS ((asB (op2 eqD ((var 5)) (cst (.int 2)))))
    (retS ((thw ((tupE ((aCons (cst (.int 1)) ((aCons (cst (.int 0)) (aNil))))))))))
    skp)
    (retS ((thw ((tupE ((aCons ((op2 fdivD ((var 2)) ((var 4)))) ((aCons ((op2 fdivD ((var 3)) ((var 4)))) (aNil))))))))))))))))
def f__law_direction : FS := defF 2 6 m__law_direction
def m_is_point : SV :=
  (sq (ifS ((orB ((notB ((asB ((isInst "tuple" ((var 0)))))))) ((notB ((asB (chain leD leD (cst (.int 1)) ((opV1 lenD 0)) (cst (.int 3)))))))))
    (retS ((thw (cst (.bl false)))))
    skp)
    (sq (ifS ((andB ((asB (op2 neD ((var 1)) (cst (.int 0))))) ((asB (op2 neD ((opV1 lenD 0)) ((var 1)))))))
    (retS ((thw (cst (.bl false)))))
    skp)
    (retS ((thw ((op1 allD ((frz ((lcE ((itE ((var 0)))) ((tgN 2)) (yesB) ((frz ((callF f_is_fraction [] ((aCons ((var 2)) (aNil))))))) [2])))))))))))
def f_is_point : FS := defF 2 3 m_is_point
def m_taken : SV :=
  (retS ((thw ((op1 tupleD ((frz ((lcE ((zipM ((var 0)) ((var 1)))) ((tgT (((tgN 2)) :: (((tgN 3)) :: [])))) (yesB) ((frz ((callF f_minus [] ((aCons ((var 2)) ((aCons ((var 3)) (aNil))))))))) [2, 3])))))))))
def f_taken : FS := defF 2 4 m_taken
def m_squared : SV :=
  (retS ((callF f_dotted [] ((aCons ((var 0)) ((aCons ((var 0)) (aNil))))))))
def f_squared : FS := defF 1 1 m_squared
def m_is_direction : SV :=
  (sq (ifS ((orB ((notB ((asB ((isInst "tuple" ((var 0)))))))) ((notB ((asB (chain leD leD (cst (.int 1)) ((opV1 lenD 0)) (cst (.int 3)))))))))
    (retS ((thw (cst (.bl false)))))
    skp)
    (retS ((thw ((andV ((op1 allD ((frz ((lcE ((itE ((var 0)))) ((tgN 1)) (yesB) ((frz ((callF f_is_whole [] ((aCons ((var 1)) (aNil))))))) [1])))))) ((op2 eqD ((frz ((callF f_common_of [] ((aCons ((var 0)) (aNil))))))) (cst (.int 1))))))))))
def f_is_direction : FS := defF 1 2 m_is_direction
def m_height_of : SV :=
  (retS ((callF f_minus [] ((aCons ((var 1)) ((aCons ((frz ((callF f_dotted [] ((aCons ((frz ((lcE ((itE ((var 0)))) ((tgN 3)) (yesB) ((tupE ((aCons ((var 3)) ((aCons (cst (.int 1)) (aNil))))))) [3])))) ((aCons ((var 2)) (aNil))))))))) (aNil))))))))
def f_height_of : FS := defF 3 4 m_height_of
def m__check_plane : SV :=
  (ifS ((asB (op2 neD ((var 0)) (cst (.int 2)))))
    (raiseS "OtherSpace" ["wanted", "got"] ((aCons (cst (.int 2)) ((aCons ((var 0)) (aNil))))))
    skp)
def f__check_plane : FS := defF 1 1 m__check_plane
def m__law_plus : SV :=
  (retS ((callF f__law_frac [] ((aCons ((op2 addD ((op2 mulD ((opV2 itemD 0 (cst (.int 0)))) ((opV2 itemD 1 (cst (.int 1)))))) ((op2 mulD ((opV2 itemD 1 (cst (.int 0)))) ((opV2 itemD 0 (cst (.int 1)))))))) ((aCons ((op2 mulD ((opV2 itemD 0 (cst (.int 1)))) ((opV2 itemD 1 (cst (.int 1)))))) (aNil))))))))
def f__law_plus : FS := defF 2 2 m__law_plus
def m__law_minus : SV :=
  (retS ((callF f__law_frac [] ((aCons ((op2 subD ((op2 mulD ((opV2 itemD 0 (cst (.int 0)))) ((opV2 itemD 1 (cst (.int 1)))))) ((op2 mulD ((opV2 itemD 1 (cst (.int 0)))) ((opV2 itemD 0 (cst (.int 1)))))))) ((aCons ((op2 mulD ((opV2 itemD 0 (cst (.int 1)))) ((opV2 itemD 1 (cst (.int 1)))))) (aNil))))))))
def f__law_minus : FS := defF 2 2 m__law_minus
def m__law_times : SV :=
  (retS ((callF f__law_frac [] ((aCons ((op2 mulD ((opV2 itemD 0 (cst (.int 0)))) ((opV2 itemD 1 (cst (.int 0)))))) ((aCons ((op2 mulD ((opV2 itemD 0 (cst (.int 1)))) ((opV2 itemD 1 (cst (.int 1)))))) (aNil))))))))
def f__law_times : FS := defF 2 2 m__law_times
def p0__law_is_point : SV :=
  (sq (ifS ((notB ((asB ((frz ((callF f__law_is_frac [] ((aCons ((var 2)) (aNil)))))))))))
    (retS ((thw (cst (.bl false)))))
    skp) (fgt [2]))
def m__law_is_point : SV :=
  (sq (ifS ((orB ((notB ((asB ((isInst "tuple" ((var 0)))))))) ((asB (op2 neD ((opV1 lenD 0)) ((var 1)))))))
    (retS ((thw (cst (.bl false)))))
    skp)
    (sq (sq (forE ((itE ((var 0)))) ((tgN 2)) p0__law_is_point) (fgt [2]))
    (retS ((thw (cst (.bl true)))))))
def f__law_is_point : FS := defF 2 3 m__law_is_point
def m_check_point : SV :=
  (sq (ifS ((notB ((asB ((frz ((callF f_is_point [.int 0] ((aCons ((var 0)) (aNil)))))))))))
    (raiseS "BadPoint" ["place"] ((aCons ((var 2)) (aNil))))
    skp)
    (ifS ((asB (op2 neD ((opV1 lenD 0)) ((var 1)))))
    (raiseS "OtherSpace" ["wanted", "got"] ((aCons ((var 1)) ((aCons ((opV1 lenD 0)) (aNil))))))
    skp))
def f_check_point : FS := defF 3 3 m_check_point
def m_flat_mirrored : SV :=
  (sq (asg 3 ((callF f_times [] ((aCons ((frz ((callF f_height_of [] ((aCons ((var 0)) ((aCons ((var 1)) ((aCons ((var 2)) (aNil))))))))))) ((aCons ((frz ((callF f_lowest [] ((aCons (cst (.int 2)) ((aCons ((op1 sumD ((frz ((lcE ((itE ((var 0)))) ((tgN 5)) (yesB) ((op2 mulD ((var 5)) ((var 5)))) [5])))))) (aNil))))))))) (aNil))))))))
    (retS ((thw ((op1 tupleD ((frz ((lcE ((zipM ((var 2)) ((var 0)))) ((tgT (((tgN 4)) :: (((tgN 5)) :: [])))) (yesB) ((frz ((callF f_plus [] ((aCons ((var 4)) ((aCons ((frz ((callF f_times [] ((aCons ((var 3)) ((aCons ((tupE ((aCons ((var 5)) ((aCons (cst (.int 1)) (aNil))))))) (aNil))))))))) (aNil))))))))) [4, 5]))))))))))
def f_flat_mirrored : FS := defF 3 6 m_flat_mirrored
def m_Flat___init__ : SV :=
  (sq (ifS ((orB ((notB ((asB ((frz ((callF f_is_direction [] ((aCons ((var 1)) (aNil))))))))))) ((notB ((asB ((frz ((callF f_is_fraction [] ((aCons ((var 2)) (aNil)))))))))))))
    (fun _ => .stuck)
    skp)
    (sq (setFld ["Flat"] 0 "direction" ((var 1)))
    (sq (setFld ["Flat"] 0 "offset" ((var 2)))
    (setFld ["Flat"] 0 "size" ((opV1 lenD 1))))))
def f_Flat___init__ : FS := defF 3 3 m_Flat___init__
def m_is_good : SV :=
  (sq (dropS ((callF f__check_plane [] ((aCons ((opV1 (fldD ["Flat"] "size") 0)) (aNil))))))
    (sq (asg 1 ((callF f__good_twice [] ((aCons ((var 0)) (aNil))))))
    (retS ((thw ((andV ((op1 isNotNoneD ((var 1)))) ((orV ((op2 eqD ((op2 modD ((var 1)) (cst (.int 2)))) (cst (.int 0)))) ((op2 eqD ((op2 modD ((frz ((propE "Flat" f_Flat_length2 ((var 0)))))) (cst (.int 2)))) (cst (.int 1)))))))))))))
def f_is_good : FS := defF 1 2 m_is_good
def p0__law_height : SV :=
  (sq (asg 2 ((callF f__law_minus [] ((aCons ((var 2)) ((aCons ((frz ((callF f__law_times [] ((aCons ((tupE ((aCons ((op2 itemD ((opV2 itemD 0 (cst (.int 0)))) ((var 3)))) ((aCons (cst (.int 1)) (aNil))))))) ((aCons ((opV2 itemD 1 ((var 3)))) (aNil))))))))) (aNil)))))))) (fgt [3]))
def m__law_height : SV :=
  (sq (asg 2 ((thw ((opV2 itemD 0 (cst (.int 1)))))))
    (sq (sq (forE ((rng1 ((opV1 lenD 1)))) ((tgN 3)) p0__law_height) (fgt [3]))
    (retS ((move 2)))))
def f__law_height : FS := defF 2 4 m__law_height
def m__law_due : SV :=
  (sq (asg 1 ((callF f__law_times [] ((aCons ((tupE ((aCons (cst (.int 2)) ((aCons (cst (.int 1)) (aNil))))))) ((aCons ((opV2 itemD 0 (cst (.int 1)))) (aNil))))))))
    (sq (ifS ((asB (op2 neD ((opV2 itemD 1 (cst (.int 1)))) (cst (.int 1)))))
    (retS ((thw (cst (.bl false)))))
    skp)
    (sq (asg 2 ((thw ((op2 addD ((op2 mulD ((op2 itemD ((opV2 itemD 0 (cst (.int 0)))) (cst (.int 0)))) ((op2 itemD ((opV2 itemD 0 (cst (.int 0)))) (cst (.int 0)))))) ((op2 mulD ((op2 itemD ((opV2 itemD 0 (cst (.int 0)))) (cst (.int 1)))) ((op2 itemD ((opV2 itemD 0 (cst (.int 0)))) (cst (.int 1)))))))))))
    (retS ((thw ((orV ((op2 eqD ((op2 modD ((op1 intD ((opV2 itemD 1 (cst (.int 0)))))) (cst (.int 2)))) (cst (.int 0)))) ((op2 eqD ((op2 modD ((op1 intD ((var 2)))) (cst (.int 2)))) (cst (.int 1))))))))))))
def f__law_due : FS := defF 1 3 m__law_due
def m_Flat_mirrored : SV :=
  (sq (dropS ((callF f_check_point [.int 0] ((aCons ((var 1)) ((aCons ((opV1 (fldD ["Flat"] "size") 0)) (aNil))))))))
    (retS ((callF f_flat_mirrored [] ((aCons ((opV1 (fldD ["Flat"] "direction") 0)) ((aCons ((opV1 (fldD ["Flat"] "offset") 0)) ((aCons ((var 1)) (aNil)))))))))))
def f_Flat_mirrored : FS := defF 2 2 m_Flat_mirrored
def m_good_pair : SV :=
  (sq (ifS ((notB ((asB ((frz ((callF f_is_good [] ((aCons ((var 0)) (aNil)))))))))))
    (retS ((thw (cst .non))))
    skp)
    (sq (asg 1 ((callF f__good_twice [] ((aCons ((var 0)) (aNil))))))
    (sq (asgT ((tgT (((tgN 2)) :: (((tgN 3)) :: [])))) ((opV1 (fldD ["Flat"] "direction") 0)))
    (sq (asg 4 ((thw ((ifE ((asB (op2 eqD ((op2 modD ((op2 subD ((var 1)) ((frz ((propE "Flat" f_Flat_length2 ((var 0)))))))) (cst (.int 2)))) (cst (.int 0))))) (cst (.int 1)) (cst (.int 2)))))))
    (sq (asgT ((tgT (((tgN 5)) :: (((tgN 6)) :: [])))) ((frz ((callF f__whole_at [] ((aCons ((var 2)) ((aCons ((var 3)) ((aCons ((op2 fdivD ((op2 subD ((var 1)) ((op2 mulD ((var 4)) ((frz ((propE "Flat" f_Flat_length2 ((var 0)))))))))) (cst (.int 2)))) (aNil))))))))))))
    (retS ((thw ((tupE ((aCons ((tupE ((aCons ((tupE ((aCons ((var 5)) ((aCons (cst (.int 1)) (aNil))))))) ((aCons ((tupE ((aCons ((var 6)) ((aCons (cst (.int 1)) (aNil))))))) (aNil))))))) ((aCons ((tupE ((aCons ((tupE ((aCons ((op2 addD ((var 5)) ((op2 mulD ((var 4)) ((var 2)))))) ((aCons (cst (.int 1)) (aNil))))))) ((aCons ((tupE ((aCons ((op2 addD ((var 6)) ((op2 mulD ((var 4)) ((var 3)))))) ((aCons (cst (.int 1)) (aNil))))))) (aNil))))))) (aNil)))))))))))))))
def f_good_pair : FS := defF 1 7 m_good_pair
def p0__law_mirrored : SV :=
  (sq (augS 2 addI ((op2 mulD ((var 3)) ((var 3))))) (fgt [3]))
def p1__law_mirrored : SV :=
  (sq (dropS ((thw ((appE 5 ((frz ((callF f__law_plus [] ((aCons ((opV2 itemD 1 ((var 6)))) ((aCons ((frz ((callF f__law_frac [] ((aCons ((op2 mulD ((opV2 itemD 4 (cst (.int 0)))) ((op2 itemD ((opV2 itemD 0 (cst (.int 0)))) ((var 6)))))) ((aCons ((op2 mulD ((opV2 itemD 4 (cst (.int 1)))) ((var 2)))) (aNil))))))))) (aNil)))))))))))))) (fgt [6]))
def m__law_mirrored : SV :=
  (sq (asg 2 ((thw (cst (.int 0)))))
    (sq (sq (forE ((itE ((opV2 itemD 0 (cst (.int 0)))))) ((tgN 3)) p0__law_mirrored) (fgt [3]))
    (sq (asg 4 ((callF f__law_times [] ((aCons ((frz ((callF f__law_height [] ((aCons ((var 0)) ((aCons ((var 1)) (aNil))))))))) ((aCons ((tupE ((aCons (cst (.int 2)) ((aCons (cst (.int 1)) (aNil))))))) (aNil))))))))
    (sq (asg 5 ((lstE (aNil))))
    (sq (sq (forE ((rng1 ((opV1 lenD 1)))) ((tgN 6)) p1__law_mirrored) (fgt [6]))
    (retS ((thw ((opV1 tupleD 5))))))))))
def f__law_mirrored : FS := defF 2 7 m__law_mirrored
def m_flat_from : SV :=
  (sq (asg 2 ((callF f_common_low [] ((aCons ((var 0)) (aNil))))))
    (sq (asg 3 (lcE ((itE ((var 0)))) ((tgN 5)) (yesB) ((op2 mulD ((opV2 itemD 5 (cst (.int 0)))) ((op2 fdivD ((var 2)) ((opV2 itemD 5 (cst (.int 1)))))))) [5]))
    (sq (asg 4 ((callF f_common_of [] ((aCons ((var 3)) (aNil))))))
    (retS ((makeE "Flat" f_Flat___init__ [] ((aCons ((op1 tupleD ((frz ((lcE ((itE ((var 3)))) ((tgN 6)) (yesB) ((op2 fdivD ((var 6)) ((var 4)))) [6])))))) ((aCons ((frz ((callF f_times [] ((aCons ((var 1)) ((aCons ((frz ((callF f_lowest [] ((aCons ((var 2)) ((aCons ((var 4)) (aNil))))))))) (aNil))))))))) (aNil)))))))))))
def f_flat_from : FS := defF 2 7 m_flat_from
def m_whole_mirrored : SV :=
  (sq (dropS ((callF f__check_plane [] ((aCons ((opV1 (fldD ["Flat"] "size") 0)) (aNil))))))
    (sq (dropS ((callF f_check_point [.int 0] ((aCons ((var 1)) ((aCons (cst (.int 2)) (aNil))))))))
    (sq (asg 2 ((methE "Flat" "mirrored" f_Flat_mirrored [] ((var 0)) ((aCons ((var 1)) (aNil))))))
    (retS ((thw ((ifE ((andB ((asB ((frz ((callF f__is_whole_point [] ((aCons ((var 1)) (aNil))))))))) ((asB ((frz ((callF f__is_whole_point [] ((aCons ((var 2)) (aNil))))))))))) ((var 2)) (cst .non)))))))))
def f_whole_mirrored : FS := defF 2 3 m_whole_mirrored
def p0__law_pair_right : SV :=
  (sq (ifS ((orB ((notB ((asB ((frz ((callF f__law_is_point [] ((aCons ((var 2)) ((aCons (cst (.int 2)) (aNil))))))))))))) ((notB ((asB ((frz ((callF f__law_is_whole [] ((aCons ((var 2)) (aNil)))))))))))))
    (retS ((thw (cst (.bl false)))))
    skp) (fgt [2]))
def m__law_pair_right : SV :=
  (sq (asg 1 ((callF f_good_pair [] ((aCons ((frz ((makeE "Flat" f_Flat___init__ [] ((aCons ((opV2 itemD 0 (cst (.int 0)))) ((aCons ((opV2 itemD 0 (cst (.int 1)))) (aNil))))))))) (aNil))))))
    (sq (ifS ((orB ((notB ((asB ((isInst "tuple" ((var 1)))))))) ((asB (op2 neD ((opV1 lenD 1)) (cst (.int 2)))))))
    (retS ((thw (cst (.bl false)))))
    skp)
    (sq (sq (forE ((itE ((var 1)))) ((tgN 2)) p0__law_pair_right) (fgt [2]))
    (retS ((thw ((andV ((op2 neD ((opV2 itemD 1 (cst (.int 0)))) ((opV2 itemD 1 (cst (.int 1)))))) ((op2 eqD ((frz ((callF f__law_mirrored [] ((aCons ((var 0)) ((aCons ((opV2 itemD 1 (cst (.int 0)))) (aNil))))))))) ((opV2 itemD 1 (cst (.int 1))))))))))))))
def f__law_pair_right : FS := defF 1 3 m__law_pair_right
def m_between : SV :=
  (sq (ifS ((notB ((asB ((frz ((callF f_is_point [.int 0] ((aCons ((var 0)) (aNil)))))))))))
    (raiseS "BadPoint" ["place"] ((aCons (cst (.int 0)) (aNil))))
    skp)
    (sq (dropS ((callF f_check_point [] ((aCons ((var 1)) ((aCons ((opV1 lenD 0)) ((aCons (cst (.int 1)) (aNil))))))))))
    (sq (ifS ((asB (op2 eqD ((var 0)) ((var 1)))))
    (fun _ => .stuck)
    skp)
    (retS ((callF f_flat_from [] ((aCons ((frz ((callF f_taken [] ((aCons ((var 0)) ((aCons ((var 1)) (aNil))))))))) ((aCons ((frz ((callF f_times [] ((aCons ((frz ((callF f_minus [] ((aCons ((frz ((callF f_squared [] ((aCons ((var 0)) (aNil))))))) ((aCons ((frz ((callF f_squared [] ((aCons ((var 1)) (aNil))))))) (aNil))))))))) ((aCons ((tupE ((aCons (cst (.int 1)) ((aCons (cst (.int 2)) (aNil))))))) (aNil))))))))) (aNil)))))))))))
def f_between : FS := defF 2 2 m_between
def m__law_image_right : SV :=
  (sq (asg 2 ((callF f_whole_mirrored [] ((aCons ((frz ((makeE "Flat" f_Flat___init__ [] ((aCons ((opV2 itemD 0 (cst (.int 0)))) ((aCons ((opV2 itemD 0 (cst (.int 1)))) (aNil))))))))) ((aCons ((var 1)) (aNil))))))))
    (sq (asg 3 ((callF f__law_mirrored [] ((aCons ((var 0)) ((aCons ((var 1)) (aNil))))))))
    (sq (ifS ((andB ((asB ((frz ((callF f__law_is_whole [] ((aCons ((var 1)) (aNil))))))))) ((asB ((frz ((callF f__law_is_whole [] ((aCons ((var 3)) (aNil)))))))))))
    (retS ((thw ((op2 eqD ((var 2)) ((var 3)))))))
    skp)
    (retS ((thw ((op1 isNoneD ((var 2))))))))))
def f__law_image_right : FS := defF 2 4 m__law_image_right
def m__law_refusal : SV :=
  (sq (asg 2 ((thw ((tupE ((aCons (cst (.str "returned")) (aNil))))))))
    (sq (tryS (mtOf mt) (ifS ((asB (op2 eqD ((var 0)) (cst (.int 0)))))
    (dropS ((callF f_is_good [] ((aCons ((opV2 itemD 1 (cst (.int 0)))) (aNil))))))
    (ifS ((asB (op2 eqD ((var 0)) (cst (.int 1)))))
    (dropS ((callF f_good_pair [] ((aCons ((opV2 itemD 1 (cst (.int 0)))) (aNil))))))
    (dropS ((callF f_whole_mirrored [] ((aCons ((opV2 itemD 1 (cst (.int 0)))) ((aCons ((opV2 itemD 1 (cst (.int 1)))) (aNil))))))))))
    ((.own "BadPoint", some 3, fun _ ns ds => (asg 2 ((thw ((tupE ((aCons (cst (.str "point")) ((aCons ((exFld ns ds "place" 3)) (aNil))))))))))) :: ((.own "OtherSpace", some 3, fun _ ns ds => (asg 2 ((thw ((tupE ((aCons (cst (.str "space")) ((aCons ((exFld ns ds "wanted" 3)) ((aCons ((exFld ns ds "got" 3)) (aNil))))))))))))) :: [])))
    (retS ((move 2)))))
def f__law_refusal : FS := defF 2 4 m__law_refusal
def p0__law_line_right : SV :=
  (sq (asg 7 ((callF f__law_point [] ((aCons ((frz ((lstE ((aCons ((var 5)) ((aCons ((var 6)) (aNil))))))))) (aNil))))))
    (sq (asg 8 ((callF f__law_mirrored [] ((aCons ((var 1)) ((aCons ((var 7)) (aNil))))))))
    (sq (ifS ((andB ((notB ((truV 3)))) ((andB ((asB ((frz ((callF f__law_is_whole [] ((aCons ((var 8)) (aNil))))))))) ((asB (op2 neD ((var 8)) ((var 7)))))))))
    (retS ((thw (cst (.bl false)))))
    skp) (fgt [6, 7, 8]))))
def p1__law_line_right : SV :=
  (sq (sq (forE ((rng2 ((op1 negD ((var 2)))) ((op2 addD ((var 2)) (cst (.int 1)))))) ((tgN 6)) p0__law_line_right) (fgt [6, 7, 8])) (fgt [5, 6, 7, 8]))
def p2__law_line_right : SV :=
  (sq (ifS ((notB ((asB ((frz ((callF f__law_image_right [] ((aCons ((var 1)) ((aCons ((var 7)) (aNil)))))))))))))
    (retS ((thw (cst (.bl false)))))
    skp) (fgt [7]))
def m__law_line_right : SV :=
  (sq (asg 3 ((callF f__law_due [] ((aCons ((var 1)) (aNil))))))
    (sq (asg 4 ((callF f_is_good [] ((aCons ((frz ((makeE "Flat" f_Flat___init__ [] ((aCons ((opV2 itemD 1 (cst (.int 0)))) ((aCons ((opV2 itemD 1 (cst (.int 1)))) (aNil))))))))) (aNil))))))
    (sq (ifS ((orB ((notB ((asB ((isInst "bool" ((var 4)))))))) ((asB (op2 neD ((var 4)) ((var 3)))))))
    (retS ((thw (cst (.bl false)))))
    skp)
    (sq (ifS ((andB ((truV 3)) ((notB ((asB ((frz ((callF f__law_pair_right [] ((aCons ((var 1)) (aNil)))))))))))))
    (retS ((thw (cst (.bl false)))))
    skp)
    (sq (ifS ((andB ((notB ((truV 3)))) ((asB (op2 (isN2 true) ((frz ((callF f_good_pair [] ((aCons ((frz ((makeE "Flat" f_Flat___init__ [] ((aCons ((opV2 itemD 1 (cst (.int 0)))) ((aCons ((opV2 itemD 1 (cst (.int 1)))) (aNil))))))))) (aNil))))))) (cst .non))))))
    (retS ((thw (cst (.bl false)))))
    skp)
    (sq (sq (forE ((rng2 ((op1 negD ((var 2)))) ((op2 addD ((var 2)) (cst (.int 1)))))) ((tgN 5)) p1__law_line_right) (fgt [5, 6, 7, 8]))
    (sq (asg 9 ((lstE ((aCons ((frz ((callF f__law_point [] ((aCons ((frz ((lstE ((aCons ((op2 subD ((frz ((callL f__law_take 0 [] ((aCons (cst (.int 41)) (aNil))))))) (cst (.int 20)))) ((aCons ((op2 subD ((frz ((callL f__law_take 0 [] ((aCons (cst (.int 41)) (aNil))))))) (cst (.int 20)))) (aNil))))))))) (aNil))))))) (aNil))))))
    (sq (dropS ((thw ((appE 9 ((tupE ((aCons ((frz ((callF f__law_frac [] ((aCons ((frz ((callL f__law_take 0 [] ((aCons (cst (.int 9)) (aNil))))))) ((aCons (cst (.int 2)) (aNil))))))))) ((aCons ((frz ((callF f__law_frac [] ((aCons ((op2 subD ((frz ((callL f__law_take 0 [] ((aCons (cst (.int 9)) (aNil))))))) (cst (.int 4)))) ((aCons ((op2 addD (cst (.int 1)) ((frz ((callL f__law_take 0 [] ((aCons (cst (.int 2)) (aNil))))))))) (aNil))))))))) (aNil))))))))))))
    (sq (ifS ((truV 3))
    (dropS ((thw ((appE 9 ((op2 itemD ((frz ((callF f_good_pair [] ((aCons ((frz ((makeE "Flat" f_Flat___init__ [] ((aCons ((opV2 itemD 1 (cst (.int 0)))) ((aCons ((opV2 itemD 1 (cst (.int 1)))) (aNil))))))))) (aNil))))))) (cst (.int 1)))))))))
    skp)
    (sq (sq (forE ((itE ((var 9)))) ((tgN 7)) p2__law_line_right) (fgt [7]))
    (retS ((thw (cst (.bl true)))))))))))))))
def f__law_line_right : FS := defF 3 10 m__law_line_right
def m__law_between_right : SV :=
  (sq (asg 2 (lcE ((rng1 (cst (.int 2)))) ((tgN 9)) (yesB) ((op2 subD ((frz ((callL f__law_take 0 [] ((aCons ((op2 addD ((op2 mulD (cst (.int 2)) ((var 1)))) (cst (.int 1)))) (aNil))))))) ((var 1)))) [9]))
    (sq (asg 3 ((lstE ((aCons ((op2 subD ((frz ((callL f__law_take 0 [] ((aCons ((op2 addD ((op2 mulD (cst (.int 2)) ((var 1)))) (cst (.int 1)))) (aNil))))))) ((var 1)))) ((aCons ((op2 addD (cst (.int 1)) ((frz ((callL f__law_take 0 [] ((aCons ((var 1)) (aNil))))))))) (aNil))))))))
    (sq (ifS ((asB (op2 eqD ((frz ((callL f__law_take 0 [] ((aCons (cst (.int 2)) (aNil))))))) (cst (.int 1)))))
    (asg 3 ((lstE ((aCons ((opV2 itemD 3 (cst (.int 1)))) ((aCons (cst (.int 0)) (aNil))))))))
    skp)
    (sq (asg 4 ((thw ((op2 addD (cst (.int 1)) ((frz ((callL f__law_take 0 [] ((aCons (cst (.int 3)) (aNil))))))))))))
    (sq (asg 5 ((callF f__law_point [] ((aCons ((var 2)) (aNil))))))
    (sq (asg 6 ((callF f__law_point [] ((aCons ((frz ((lstE ((aCons ((op2 addD ((opV2 itemD 2 (cst (.int 0)))) ((op2 mulD ((var 4)) ((opV2 itemD 3 (cst (.int 0)))))))) ((aCons ((op2 addD ((opV2 itemD 2 (cst (.int 1)))) ((op2 mulD ((var 4)) ((opV2 itemD 3 (cst (.int 1)))))))) (aNil))))))))) (aNil))))))
    (sq (asg 7 ((callF f_between [] ((aCons ((var 5)) ((aCons ((var 6)) (aNil))))))))
    (sq (asg 8 ((thw ((tupE ((aCons ((opV1 (fldD ["Flat"] "direction") 7)) ((aCons ((opV1 (fldD ["Flat"] "offset") 7)) (aNil))))))))))
    (sq (ifS ((orB ((asB (op2 (isBD true) ((frz ((callF f_is_good [] ((aCons ((var 7)) (aNil))))))) (cst (.bl true))))) ((orB ((notB ((asB ((frz ((callF f__law_due [] ((aCons ((var 8)) (aNil))))))))))) ((notB ((asB ((frz ((callF f__law_pair_right [] ((aCons ((var 8)) (aNil)))))))))))))))
    (retS ((thw (cst (.bl false)))))
    skp)
    (retS ((thw ((andV ((op2 eqD ((frz ((callF f_whole_mirrored [] ((aCons ((var 7)) ((aCons ((var 5)) (aNil))))))))) ((var 6)))) ((op2 eqD ((frz ((callF f__law_mirrored [] ((aCons ((var 8)) ((aCons ((var 5)) (aNil))))))))) ((var 6))))))))))))))))))
def f__law_between_right : FS := defF 2 10 m__law_between_right
def p0__law_refuses : SV :=
  (sq (ifS ((asB (op2 neD ((frz ((callF f__law_refusal [] ((aCons ((var 6)) ((aCons ((frz ((lstE ((aCons ((var 3)) ((aCons ((var 4)) (aNil))))))))) (aNil))))))))) ((tupE ((aCons (cst (.str "space")) ((aCons (cst (.int 2)) ((aCons ((var 2)) (aNil))))))))))))
    (retS ((thw (cst (.bl false)))))
    skp) (fgt [6]))
def m__law_refuses : SV :=
  (sq (asg 2 ((thw ((op2 addD (cst (.int 1)) ((op2 mulD (cst (.int 2)) ((frz ((callL f__law_take 0 [] ((aCons (cst (.int 2)) (aNil))))))))))))))
    (sq (asg 3 ((makeE "Flat" f_Flat___init__ [] ((aCons ((op1 tupleD ((op2 repD ((frz ((lstE ((aCons (cst (.int 1)) (aNil))))))) ((var 2)))))) ((aCons ((opV2 itemD 1 (cst (.int 1)))) (aNil))))))))
    (sq (asg 4 ((thw ((op2 itemD ((frz ((lstE ((aCons ((tupE ((aCons (cst (.int 1)) ((aCons (cst (.int 2)) (aNil))))))) ((aCons ((frz ((lstE ((aCons ((tupE ((aCons (cst (.int 1)) ((aCons (cst (.int 1)) (aNil))))))) ((aCons ((tupE ((aCons (cst (.int 2)) ((aCons (cst (.int 1)) (aNil))))))) (aNil))))))))) ((aCons ((tupE ((aCons ((tupE ((aCons (cst (.int 2)) ((aCons (cst (.int 2)) (aNil))))))) ((aCons ((tupE ((aCons (cst (.int 0)) ((aCons (cst (.int 1)) (aNil))))))) (aNil))))))) ((aCons (cst .non) (aNil))))))))))))) ((frz ((callL f__law_take 0 [] ((aCons (cst (.int 4)) (aNil))))))))))))
    (sq (asg 5 ((makeE "Flat" f_Flat___init__ [] ((aCons ((opV2 itemD 1 (cst (.int 0)))) ((aCons ((opV2 itemD 1 (cst (.int 1)))) (aNil))))))))
    (sq (sq (forE ((rng1 (cst (.int 3)))) ((tgN 6)) p0__law_refuses) (fgt [6]))
    (sq (ifS ((asB (op2 neD ((frz ((callF f__law_refusal [] ((aCons (cst (.int 2)) ((aCons ((frz ((lstE ((aCons ((var 5)) ((aCons ((var 4)) (aNil))))))))) (aNil))))))))) ((tupE ((aCons (cst (.str "point")) ((aCons (cst (.int 0)) (aNil))))))))))
    (retS ((thw (cst (.bl false)))))
    skp)
    (retS ((thw ((op2 eqD ((frz ((callF f__law_refusal [] ((aCons (cst (.int 2)) ((aCons ((frz ((lstE ((aCons ((var 5)) ((aCons ((frz ((callF f__law_point [] ((aCons ((op2 repD ((frz ((lstE ((aCons (cst (.int 1)) (aNil))))))) ((var 2)))) (aNil))))))) (aNil))))))))) (aNil))))))))) ((tupE ((aCons (cst (.str "space")) ((aCons (cst (.int 2)) ((aCons ((var 2)) (aNil))))))))))))))))))))
def f__law_refuses : FS := defF 2 7 m__law_refuses
def p0_law : SV :=
  (sq (asg 6 ((thw ((op2 itemD ((frz ((lstE ((aCons (cst (.int 2)) ((aCons (cst (.int 1)) ((aCons (cst (.int 3)) ((aCons (cst (.int 4)) ((aCons ((op2 addD (cst (.int 1)) ((frz ((callL f__law_take 1 [] ((aCons (cst (.int 12)) (aNil))))))))) (aNil))))))))))))))) ((frz ((callL f__law_take 1 [] ((aCons (cst (.int 5)) (aNil))))))))))))
    (sq (asg 7 ((callF f__law_frac [] ((aCons ((op2 subD ((frz ((callL f__law_take 1 [] ((aCons ((op2 addD ((op2 mulD (cst (.int 2)) ((var 2)))) (cst (.int 1)))) (aNil))))))) ((var 2)))) ((aCons ((var 6)) (aNil))))))))
    (sq (ifS ((notB ((asB ((frz ((callL f__law_line_right 1 [] ((aCons ((tupE ((aCons ((var 4)) ((aCons ((var 7)) (aNil))))))) ((aCons ((var 3)) (aNil)))))))))))))
    (retS ((thw (cst (.bl false)))))
    skp)
    (sq (asg 4 ((callL f__law_direction 1 [] ((aCons ((var 2)) (aNil)))))) (fgt [5, 6, 7])))))
def p1_law : SV :=
  (asg 1 ((callF f__law_stream [] ((aCons ((var 0)) (aNil))))))
def p2_law : SV :=
  (asg 2 ((thw (cst (.int 9)))))
def p3_law : SV :=
  (asg 3 ((thw (cst (.int 2)))))
def p4_law : SV :=
  (ifS ((asB (op2 eqD ((frz ((callL f__law_take 1 [] ((aCons (cst (.int 24)) (aNil))))))) (cst (.int 23)))))
    (sq (asg 2 ((thw ((op2 powD (cst (.int 10)) (cst (.int 12)))))))
    (asg 3 ((thw (cst (.int 1))))))
    skp)
def p5_law : SV :=
  (asg 4 ((callL f__law_direction 1 [] ((aCons ((var 2)) (aNil))))))
def p6_law : SV :=
  (sq (forE ((rng1 (cst (.int 3)))) ((tgN 5)) p0_law) (fgt [5, 6, 7]))
def p7_law : SV :=
  (ifS ((notB ((asB ((frz ((callL f__law_line_right 1 [] ((aCons ((tupE ((aCons ((tupE ((aCons (cst (.int 1)) ((aCons (cst (.int 1)) (aNil))))))) ((aCons ((tupE ((aCons ((op2 subD (cst (.int 3)) ((op2 mulD (cst (.int 2)) ((frz ((callL f__law_take 1 [] ((aCons (cst (.int 4)) (aNil))))))))))) ((aCons (cst (.int 2)) (aNil))))))) (aNil))))))) ((aCons (cst (.int 5)) (aNil)))))))))))))
    (retS ((thw (cst (.bl false)))))
    skp)
def p8_law : SV :=
  (ifS ((notB ((asB ((frz ((callL f__law_between_right 1 [] ((aCons ((var 2)) (aNil)))))))))))
    (retS ((thw (cst (.bl false)))))
    skp)
def p9_law : SV :=
  (retS ((callL f__law_refuses 1 [] ((aCons ((tupE ((aCons ((var 4)) ((aCons ((tupE ((aCons (cst (.int 1)) ((aCons (cst (.int 2)) (aNil))))))) (aNil))))))) (aNil))))))
def m_law : SV :=
  (sq p1_law (sq p2_law (sq p3_law (sq p4_law (sq p5_law (sq p6_law (sq p7_law (sq p8_law p9_law))))))))
def f_law : FS := defF 1 8 m_law
end HT

set_option Elab.async false
set_option linter.all false
set_option maxRecDepth 100000
set_option maxHeartbeats 0
/-! K90Walk: each def computes its function (printed by gen.py). -/
namespace HT
open PySem PySem.Spec PyProof.Rows L2 HM
def d_BadPoint___init__ : He.DefD := ⟨("BadPoint", some "__init__"), "__init__", "BadPoint.__init__", defArgs s_BadPoint___init__, defBody s_BadPoint___init__, defScope s_BadPoint___init__, [], []⟩
def d_OtherSpace___init__ : He.DefD := ⟨("OtherSpace", some "__init__"), "__init__", "OtherSpace.__init__", defArgs s_OtherSpace___init__, defBody s_OtherSpace___init__, defScope s_OtherSpace___init__, [], []⟩
def d_is_whole : He.DefD := ⟨("is_whole", none), "is_whole", "is_whole", defArgs s_is_whole, defBody s_is_whole, defScope s_is_whole, [], []⟩
def d_lowest : He.DefD := ⟨("lowest", none), "lowest", "lowest", defArgs s_lowest, defBody s_lowest, defScope s_lowest, [], []⟩
def d_divisor : He.DefD := ⟨("divisor", none), "divisor", "divisor", defArgs s_divisor, defBody s_divisor, defScope s_divisor, [], []⟩
def d_multiple : He.DefD := ⟨("multiple", none), "multiple", "multiple", defArgs s_multiple, defBody s_multiple, defScope s_multiple, [], []⟩
def d__good_twice : He.DefD := ⟨("_good_twice", none), "_good_twice", "_good_twice", defArgs s__good_twice, defBody s__good_twice, defScope s__good_twice, [], []⟩
def d__whole_at : He.DefD := ⟨("_whole_at", none), "_whole_at", "_whole_at", defArgs s__whole_at, defBody s__whole_at, defScope s__whole_at, [], []⟩
def d__is_whole_point : He.DefD := ⟨("_is_whole_point", none), "_is_whole_point", "_is_whole_point", defArgs s__is_whole_point, defBody s__is_whole_point, defScope s__is_whole_point, [], []⟩
def d__law_stream : He.DefD := ⟨("_law_stream", none), "_law_stream", "_law_stream", defArgs s__law_stream, defBody s__law_stream, defScope s__law_stream, [], []⟩
def d__law_take : He.DefD := ⟨("_law_take", none), "_law_take", "_law_take", defArgs s__law_take, defBody s__law_take, defScope s__law_take, [], []⟩
def d__law_whole : He.DefD := ⟨("_law_whole", none), "_law_whole", "_law_whole", defArgs s__law_whole, defBody s__law_whole, defScope s__law_whole, [], []⟩
def d__law_divisor : He.DefD := ⟨("_law_divisor", none), "_law_divisor", "_law_divisor", defArgs s__law_divisor, defBody s__law_divisor, defScope s__law_divisor, [], []⟩
def d__law_point : He.DefD := ⟨("_law_point", none), "_law_point", "_law_point", defArgs s__law_point, defBody s__law_point, defScope s__law_point, [], []⟩
def d__law_is_whole : He.DefD := ⟨("_law_is_whole", none), "_law_is_whole", "_law_is_whole", defArgs s__law_is_whole, defBody s__law_is_whole, defScope s__law_is_whole, [], []⟩
def d_Flat_length2 : He.DefD := ⟨("Flat", some "length2"), "length2", "Flat.length2", defArgs s_Flat_length2, defBody s_Flat_length2, defScope s_Flat_length2, [], []⟩
def d_is_fraction : He.DefD := ⟨("is_fraction", none), "is_fraction", "is_fraction", defArgs s_is_fraction, defBody s_is_fraction, defScope s_is_fraction, [], []⟩
def d_plus : He.DefD := ⟨("plus", none), "plus", "plus", defArgs s_plus, defBody s_plus, defScope s_plus, [], []⟩
def d_minus : He.DefD := ⟨("minus", none), "minus", "minus", defArgs s_minus, defBody s_minus, defScope s_minus, [], []⟩
def d_times : He.DefD := ⟨("times", none), "times", "times", defArgs s_times, defBody s_times, defScope s_times, [], []⟩
def d_dotted : He.DefD := ⟨("dotted", none), "dotted", "dotted", defArgs s_dotted, defBody s_dotted, defScope s_dotted, [], []⟩
def d_common_low : He.DefD := ⟨("common_low", none), "common_low", "common_low", defArgs s_common_low, defBody s_common_low, defScope s_common_low, [], []⟩
def d_common_of : He.DefD := ⟨("common_of", none), "common_of", "common_of", defArgs s_common_of, defBody s_common_of, defScope s_common_of, [], []⟩
def d__law_frac : He.DefD := ⟨("_law_frac", none), "_law_frac", "_law_frac", defArgs s__law_frac, defBody s__law_frac, defScope s__law_frac, [], []⟩
def d__law_is_frac : He.DefD := ⟨("_law_is_frac", none), "_law_is_frac", "_law_is_frac", defArgs s__law_is_frac, defBody s__law_is_frac, defScope s__law_is_frac, [], []⟩
def d__law_direction : He.DefD := ⟨("_law_direction", none), "_law_direction", "_law_direction", defArgs s__law_direction, defBody s__law_direction, defScope s__law_direction, [], []⟩
def d_is_point : He.DefD := ⟨("is_point", none), "is_point", "is_point", defArgs s_is_point, defBody s_is_point, defScope s_is_point, [.int 0], []⟩
def d_taken : He.DefD := ⟨("taken", none), "taken", "taken", defArgs s_taken, defBody s_taken, defScope s_taken, [], []⟩
def d_squared : He.DefD := ⟨("squared", none), "squared", "squared", defArgs s_squared, defBody s_squared, defScope s_squared, [], []⟩
def d_is_direction : He.DefD := ⟨("is_direction", none), "is_direction", "is_direction", defArgs s_is_direction, defBody s_is_direction, defScope s_is_direction, [], []⟩
def d_height_of : He.DefD := ⟨("height_of", none), "height_of", "height_of", defArgs s_height_of, defBody s_height_of, defScope s_height_of, [], []⟩
def d__check_plane : He.DefD := ⟨("_check_plane", none), "_check_plane", "_check_plane", defArgs s__check_plane, defBody s__check_plane, defScope s__check_plane, [], []⟩
def d__law_plus : He.DefD := ⟨("_law_plus", none), "_law_plus", "_law_plus", defArgs s__law_plus, defBody s__law_plus, defScope s__law_plus, [], []⟩
def d__law_minus : He.DefD := ⟨("_law_minus", none), "_law_minus", "_law_minus", defArgs s__law_minus, defBody s__law_minus, defScope s__law_minus, [], []⟩
def d__law_times : He.DefD := ⟨("_law_times", none), "_law_times", "_law_times", defArgs s__law_times, defBody s__law_times, defScope s__law_times, [], []⟩
def d__law_is_point : He.DefD := ⟨("_law_is_point", none), "_law_is_point", "_law_is_point", defArgs s__law_is_point, defBody s__law_is_point, defScope s__law_is_point, [], []⟩
def d_check_point : He.DefD := ⟨("check_point", none), "check_point", "check_point", defArgs s_check_point, defBody s_check_point, defScope s_check_point, [.int 0], []⟩
def d_flat_mirrored : He.DefD := ⟨("flat_mirrored", none), "flat_mirrored", "flat_mirrored", defArgs s_flat_mirrored, defBody s_flat_mirrored, defScope s_flat_mirrored, [], []⟩
def d_Flat___init__ : He.DefD := ⟨("Flat", some "__init__"), "__init__", "Flat.__init__", defArgs s_Flat___init__, defBody s_Flat___init__, defScope s_Flat___init__, [], []⟩
def d_is_good : He.DefD := ⟨("is_good", none), "is_good", "is_good", defArgs s_is_good, defBody s_is_good, defScope s_is_good, [], []⟩
def d__law_height : He.DefD := ⟨("_law_height", none), "_law_height", "_law_height", defArgs s__law_height, defBody s__law_height, defScope s__law_height, [], []⟩
def d__law_due : He.DefD := ⟨("_law_due", none), "_law_due", "_law_due", defArgs s__law_due, defBody s__law_due, defScope s__law_due, [], []⟩
def d_Flat_mirrored : He.DefD := ⟨("Flat", some "mirrored"), "mirrored", "Flat.mirrored", defArgs s_Flat_mirrored, defBody s_Flat_mirrored, defScope s_Flat_mirrored, [], []⟩
def d_good_pair : He.DefD := ⟨("good_pair", none), "good_pair", "good_pair", defArgs s_good_pair, defBody s_good_pair, defScope s_good_pair, [], []⟩
def d__law_mirrored : He.DefD := ⟨("_law_mirrored", none), "_law_mirrored", "_law_mirrored", defArgs s__law_mirrored, defBody s__law_mirrored, defScope s__law_mirrored, [], []⟩
def d_flat_from : He.DefD := ⟨("flat_from", none), "flat_from", "flat_from", defArgs s_flat_from, defBody s_flat_from, defScope s_flat_from, [], []⟩
def d_whole_mirrored : He.DefD := ⟨("whole_mirrored", none), "whole_mirrored", "whole_mirrored", defArgs s_whole_mirrored, defBody s_whole_mirrored, defScope s_whole_mirrored, [], []⟩
def d__law_pair_right : He.DefD := ⟨("_law_pair_right", none), "_law_pair_right", "_law_pair_right", defArgs s__law_pair_right, defBody s__law_pair_right, defScope s__law_pair_right, [], []⟩
def d_between : He.DefD := ⟨("between", none), "between", "between", defArgs s_between, defBody s_between, defScope s_between, [], []⟩
def d__law_image_right : He.DefD := ⟨("_law_image_right", none), "_law_image_right", "_law_image_right", defArgs s__law_image_right, defBody s__law_image_right, defScope s__law_image_right, [], []⟩
def d__law_refusal : He.DefD := ⟨("_law_refusal", none), "_law_refusal", "_law_refusal", defArgs s__law_refusal, defBody s__law_refusal, defScope s__law_refusal, [], []⟩
def d__law_line_right : He.DefD := ⟨("_law_line_right", none), "_law_line_right", "_law_line_right", defArgs s__law_line_right, defBody s__law_line_right, defScope s__law_line_right, [], []⟩
def d__law_between_right : He.DefD := ⟨("_law_between_right", none), "_law_between_right", "_law_between_right", defArgs s__law_between_right, defBody s__law_between_right, defScope s__law_between_right, [], []⟩
def d__law_refuses : He.DefD := ⟨("_law_refuses", none), "_law_refuses", "_law_refuses", defArgs s__law_refuses, defBody s__law_refuses, defScope s__law_refuses, [], []⟩
def d_law : He.DefD := ⟨("law", none), "law", "law", defArgs s_law, defBody s_law, defScope s_law, [], []⟩
def fn : List Df := [⟨fun K => (He.ma K (He.ga K "BadPoint") "__init__"), d_BadPoint___init__⟩, ⟨fun K => (He.ma K (He.ga K "OtherSpace") "__init__"), d_OtherSpace___init__⟩, ⟨fun K => (He.ga K "is_whole"), d_is_whole⟩, ⟨fun K => (He.ga K "lowest"), d_lowest⟩, ⟨fun K => (He.ga K "divisor"), d_divisor⟩, ⟨fun K => (He.ga K "multiple"), d_multiple⟩, ⟨fun K => (He.ga K "_good_twice"), d__good_twice⟩, ⟨fun K => (He.ga K "_whole_at"), d__whole_at⟩, ⟨fun K => (He.ga K "_is_whole_point"), d__is_whole_point⟩, ⟨fun K => (He.ga K "_law_stream"), d__law_stream⟩, ⟨fun K => (He.ga K "_law_take"), d__law_take⟩, ⟨fun K => (He.ga K "_law_whole"), d__law_whole⟩, ⟨fun K => (He.ga K "_law_divisor"), d__law_divisor⟩, ⟨fun K => (He.ga K "_law_point"), d__law_point⟩, ⟨fun K => (He.ga K "_law_is_whole"), d__law_is_whole⟩, ⟨fun K => (pgA "Flat" "length2" K), d_Flat_length2⟩, ⟨fun K => (He.ga K "is_fraction"), d_is_fraction⟩, ⟨fun K => (He.ga K "plus"), d_plus⟩, ⟨fun K => (He.ga K "minus"), d_minus⟩, ⟨fun K => (He.ga K "times"), d_times⟩, ⟨fun K => (He.ga K "dotted"), d_dotted⟩, ⟨fun K => (He.ga K "common_low"), d_common_low⟩, ⟨fun K => (He.ga K "common_of"), d_common_of⟩, ⟨fun K => (He.ga K "_law_frac"), d__law_frac⟩, ⟨fun K => (He.ga K "_law_is_frac"), d__law_is_frac⟩, ⟨fun K => (He.ga K "_law_direction"), d__law_direction⟩, ⟨fun K => (He.ga K "is_point"), d_is_point⟩, ⟨fun K => (He.ga K "taken"), d_taken⟩, ⟨fun K => (He.ga K "squared"), d_squared⟩, ⟨fun K => (He.ga K "is_direction"), d_is_direction⟩, ⟨fun K => (He.ga K "height_of"), d_height_of⟩, ⟨fun K => (He.ga K "_check_plane"), d__check_plane⟩, ⟨fun K => (He.ga K "_law_plus"), d__law_plus⟩, ⟨fun K => (He.ga K "_law_minus"), d__law_minus⟩, ⟨fun K => (He.ga K "_law_times"), d__law_times⟩, ⟨fun K => (He.ga K "_law_is_point"), d__law_is_point⟩, ⟨fun K => (He.ga K "check_point"), d_check_point⟩, ⟨fun K => (He.ga K "flat_mirrored"), d_flat_mirrored⟩, ⟨fun K => (He.ma K (He.ga K "Flat") "__init__"), d_Flat___init__⟩, ⟨fun K => (He.ga K "is_good"), d_is_good⟩, ⟨fun K => (He.ga K "_law_height"), d__law_height⟩, ⟨fun K => (He.ga K "_law_due"), d__law_due⟩, ⟨fun K => (He.ma K (He.ga K "Flat") "mirrored"), d_Flat_mirrored⟩, ⟨fun K => (He.ga K "good_pair"), d_good_pair⟩, ⟨fun K => (He.ga K "_law_mirrored"), d__law_mirrored⟩, ⟨fun K => (He.ga K "flat_from"), d_flat_from⟩, ⟨fun K => (He.ga K "whole_mirrored"), d_whole_mirrored⟩, ⟨fun K => (He.ga K "_law_pair_right"), d__law_pair_right⟩, ⟨fun K => (He.ga K "between"), d_between⟩, ⟨fun K => (He.ga K "_law_image_right"), d__law_image_right⟩, ⟨fun K => (He.ga K "_law_refusal"), d__law_refusal⟩, ⟨fun K => (He.ga K "_law_line_right"), d__law_line_right⟩, ⟨fun K => (He.ga K "_law_between_right"), d__law_between_right⟩, ⟨fun K => (He.ga K "_law_refuses"), d__law_refuses⟩, ⟨fun K => (He.ga K "law"), d_law⟩]
def fa : List Fq := [.fm (.he (.glo "is_whole")),
  .fm (.he (.glo "lowest")),
  .fm (.he (.glo "divisor")),
  .fm (.he (.glo "multiple")),
  .fm (.he (.glo "_good_twice")),
  .fm (.he (.glo "_whole_at")),
  .fm (.he (.glo "_is_whole_point")),
  .fm (.he (.glo "_law_stream")),
  .fm (.he (.glo "_law_take")),
  .fm (.he (.glo "_law_whole")),
  .fm (.he (.glo "_law_divisor")),
  .fm (.he (.glo "_law_point")),
  .fm (.he (.glo "_law_is_whole")),
  .fm (.he (.glo "is_fraction")),
  .fm (.he (.glo "plus")),
  .fm (.he (.glo "minus")),
  .fm (.he (.glo "times")),
  .fm (.he (.glo "dotted")),
  .fm (.he (.glo "common_low")),
  .fm (.he (.glo "common_of")),
  .fm (.he (.glo "_law_frac")),
  .fm (.he (.glo "_law_is_frac")),
  .fm (.he (.glo "_law_direction")),
  .fm (.he (.glo "is_point")),
  .fm (.he (.glo "taken")),
  .fm (.he (.glo "squared")),
  .fm (.he (.glo "is_direction")),
  .fm (.he (.glo "height_of")),
  .fm (.he (.glo "_check_plane")),
  .fm (.he (.glo "_law_plus")),
  .fm (.he (.glo "_law_minus")),
  .fm (.he (.glo "_law_times")),
  .fm (.he (.glo "_law_is_point")),
  .fm (.he (.glo "check_point")),
  .fm (.he (.glo "flat_mirrored")),
  .fm (.he (.glo "is_good")),
  .fm (.he (.glo "_law_height")),
  .fm (.he (.glo "_law_due")),
  .fm (.he (.glo "good_pair")),
  .fm (.he (.glo "_law_mirrored")),
  .fm (.he (.glo "flat_from")),
  .fm (.he (.glo "whole_mirrored")),
  .fm (.he (.glo "_law_pair_right")),
  .fm (.he (.glo "between")),
  .fm (.he (.glo "_law_image_right")),
  .fm (.he (.glo "_law_refusal")),
  .fm (.he (.glo "_law_line_right")),
  .fm (.he (.glo "_law_between_right")),
  .fm (.he (.glo "_law_refuses")),
  .fm (.he (.glo "law")),
  .fm (.he (.glo "BadPoint")),
  .fm (.he (.glo "OtherSpace")),
  .fm (.he (.glo "Flat")),
  .fm (.he (.free "abs")),
  .fm (.he (.free "all")),
  .fm (.he (.free "bool")),
  .fm (.he (.free "int")),
  .fm (.he (.free "isinstance")),
  .fm (.he (.free "len")),
  .fm (.he (.free "min")),
  .fm (.he (.free "range")),
  .fm (.he (.free "sum")),
  .fm (.he (.free "tuple")),
  .fm (.he (.free "zip")),
  .fm (.bfun "gcd" "math.gcd"),
  .fm (.oex "BadPoint"),
  .fm (.oex "OtherSpace"),
  .fm (.xf "BadPoint"),
  .fm (.xf "OtherSpace"),
  .fm (.ini "BadPoint"),
  .fm (.ini "OtherSpace"),
  .fm (.he (.noat "BadPoint" "place")),
  .fm (.he (.noat "OtherSpace" "got")),
  .fm (.he (.noat "OtherSpace" "wanted")),
  .fm (.he (.cls "Flat")),
  .fm (.he (.meth "Flat" "mirrored")),
  .fm (.he (.mkr "Flat")),
  .prop "Flat" "length2",
  .fld "Flat" "direction",
  .fld "Flat" "offset",
  .fld "Flat" "size",
  .fm (.he (.exm "BadPoint" "BadPoint" true)),
  .fm (.he (.exm "BadPoint" "OtherSpace" false)),
  .fm (.he (.exm "OtherSpace" "BadPoint" false)),
  .fm (.he (.exm "OtherSpace" "OtherSpace" true))]
structure Fd where
  fd_BadPoint___init__ : FuncData
  fd_OtherSpace___init__ : FuncData
  fd_is_whole : FuncData
  fd_lowest : FuncData
  fd_divisor : FuncData
  fd_multiple : FuncData
  fd__good_twice : FuncData
  fd__whole_at : FuncData
  fd__is_whole_point : FuncData
  fd__law_stream : FuncData
  fd__law_take : FuncData
  fd__law_whole : FuncData
  fd__law_divisor : FuncData
  fd__law_point : FuncData
  fd__law_is_whole : FuncData
  fd_Flat_length2 : FuncData
  fd_is_fraction : FuncData
  fd_plus : FuncData
  fd_minus : FuncData
  fd_times : FuncData
  fd_dotted : FuncData
  fd_common_low : FuncData
  fd_common_of : FuncData
  fd__law_frac : FuncData
  fd__law_is_frac : FuncData
  fd__law_direction : FuncData
  fd_is_point : FuncData
  fd_taken : FuncData
  fd_squared : FuncData
  fd_is_direction : FuncData
  fd_height_of : FuncData
  fd__check_plane : FuncData
  fd__law_plus : FuncData
  fd__law_minus : FuncData
  fd__law_times : FuncData
  fd__law_is_point : FuncData
  fd_check_point : FuncData
  fd_flat_mirrored : FuncData
  fd_Flat___init__ : FuncData
  fd_is_good : FuncData
  fd__law_height : FuncData
  fd__law_due : FuncData
  fd_Flat_mirrored : FuncData
  fd_good_pair : FuncData
  fd__law_mirrored : FuncData
  fd_flat_from : FuncData
  fd_whole_mirrored : FuncData
  fd__law_pair_right : FuncData
  fd_between : FuncData
  fd__law_image_right : FuncData
  fd__law_refusal : FuncData
  fd__law_line_right : FuncData
  fd__law_between_right : FuncData
  fd__law_refuses : FuncData
  fd_law : FuncData
structure Fx (K : PySem.W.Frag) (mg : Str → Option Value) (Z : Fd) : Prop where
  d_BadPoint___init__ : FunD K d_BadPoint___init__.name d_BadPoint___init__.qual (defArgs s_BadPoint___init__) (defBody s_BadPoint___init__) (defScope s_BadPoint___init__) (d_BadPoint___init__.dvs K) (d_BadPoint___init__.kws K) (He.ma K (He.ga K "BadPoint") "__init__") Z.fd_BadPoint___init__
  d_OtherSpace___init__ : FunD K d_OtherSpace___init__.name d_OtherSpace___init__.qual (defArgs s_OtherSpace___init__) (defBody s_OtherSpace___init__) (defScope s_OtherSpace___init__) (d_OtherSpace___init__.dvs K) (d_OtherSpace___init__.kws K) (He.ma K (He.ga K "OtherSpace") "__init__") Z.fd_OtherSpace___init__
  d_is_whole : FunD K d_is_whole.name d_is_whole.qual (defArgs s_is_whole) (defBody s_is_whole) (defScope s_is_whole) (d_is_whole.dvs K) (d_is_whole.kws K) (He.ga K "is_whole") Z.fd_is_whole
  d_lowest : FunD K d_lowest.name d_lowest.qual (defArgs s_lowest) (defBody s_lowest) (defScope s_lowest) (d_lowest.dvs K) (d_lowest.kws K) (He.ga K "lowest") Z.fd_lowest
  d_divisor : FunD K d_divisor.name d_divisor.qual (defArgs s_divisor) (defBody s_divisor) (defScope s_divisor) (d_divisor.dvs K) (d_divisor.kws K) (He.ga K "divisor") Z.fd_divisor
  d_multiple : FunD K d_multiple.name d_multiple.qual (defArgs s_multiple) (defBody s_multiple) (defScope s_multiple) (d_multiple.dvs K) (d_multiple.kws K) (He.ga K "multiple") Z.fd_multiple
  d__good_twice : FunD K d__good_twice.name d__good_twice.qual (defArgs s__good_twice) (defBody s__good_twice) (defScope s__good_twice) (d__good_twice.dvs K) (d__good_twice.kws K) (He.ga K "_good_twice") Z.fd__good_twice
  d__whole_at : FunD K d__whole_at.name d__whole_at.qual (defArgs s__whole_at) (defBody s__whole_at) (defScope s__whole_at) (d__whole_at.dvs K) (d__whole_at.kws K) (He.ga K "_whole_at") Z.fd__whole_at
  d__is_whole_point : FunD K d__is_whole_point.name d__is_whole_point.qual (defArgs s__is_whole_point) (defBody s__is_whole_point) (defScope s__is_whole_point) (d__is_whole_point.dvs K) (d__is_whole_point.kws K) (He.ga K "_is_whole_point") Z.fd__is_whole_point
  d__law_stream : FunD K d__law_stream.name d__law_stream.qual (defArgs s__law_stream) (defBody s__law_stream) (defScope s__law_stream) (d__law_stream.dvs K) (d__law_stream.kws K) (He.ga K "_law_stream") Z.fd__law_stream
  d__law_take : FunD K d__law_take.name d__law_take.qual (defArgs s__law_take) (defBody s__law_take) (defScope s__law_take) (d__law_take.dvs K) (d__law_take.kws K) (He.ga K "_law_take") Z.fd__law_take
  d__law_whole : FunD K d__law_whole.name d__law_whole.qual (defArgs s__law_whole) (defBody s__law_whole) (defScope s__law_whole) (d__law_whole.dvs K) (d__law_whole.kws K) (He.ga K "_law_whole") Z.fd__law_whole
  d__law_divisor : FunD K d__law_divisor.name d__law_divisor.qual (defArgs s__law_divisor) (defBody s__law_divisor) (defScope s__law_divisor) (d__law_divisor.dvs K) (d__law_divisor.kws K) (He.ga K "_law_divisor") Z.fd__law_divisor
  d__law_point : FunD K d__law_point.name d__law_point.qual (defArgs s__law_point) (defBody s__law_point) (defScope s__law_point) (d__law_point.dvs K) (d__law_point.kws K) (He.ga K "_law_point") Z.fd__law_point
  d__law_is_whole : FunD K d__law_is_whole.name d__law_is_whole.qual (defArgs s__law_is_whole) (defBody s__law_is_whole) (defScope s__law_is_whole) (d__law_is_whole.dvs K) (d__law_is_whole.kws K) (He.ga K "_law_is_whole") Z.fd__law_is_whole
  d_Flat_length2 : FunD K d_Flat_length2.name d_Flat_length2.qual (defArgs s_Flat_length2) (defBody s_Flat_length2) (defScope s_Flat_length2) (d_Flat_length2.dvs K) (d_Flat_length2.kws K) (pgA "Flat" "length2" K) Z.fd_Flat_length2
  d_is_fraction : FunD K d_is_fraction.name d_is_fraction.qual (defArgs s_is_fraction) (defBody s_is_fraction) (defScope s_is_fraction) (d_is_fraction.dvs K) (d_is_fraction.kws K) (He.ga K "is_fraction") Z.fd_is_fraction
  d_plus : FunD K d_plus.name d_plus.qual (defArgs s_plus) (defBody s_plus) (defScope s_plus) (d_plus.dvs K) (d_plus.kws K) (He.ga K "plus") Z.fd_plus
  d_minus : FunD K d_minus.name d_minus.qual (defArgs s_minus) (defBody s_minus) (defScope s_minus) (d_minus.dvs K) (d_minus.kws K) (He.ga K "minus") Z.fd_minus
  d_times : FunD K d_times.name d_times.qual (defArgs s_times) (defBody s_times) (defScope s_times) (d_times.dvs K) (d_times.kws K) (He.ga K "times") Z.fd_times
  d_dotted : FunD K d_dotted.name d_dotted.qual (defArgs s_dotted) (defBody s_dotted) (defScope s_dotted) (d_dotted.dvs K) (d_dotted.kws K) (He.ga K "dotted") Z.fd_dotted
  d_common_low : FunD K d_common_low.name d_common_low.qual (defArgs s_common_low) (defBody s_common_low) (defScope s_common_low) (d_common_low.dvs K) (d_common_low.kws K) (He.ga K "common_low") Z.fd_common_low
  d_common_of : FunD K d_common_of.name d_common_of.qual (defArgs s_common_of) (defBody s_common_of) (defScope s_common_of) (d_common_of.dvs K) (d_common_of.kws K) (He.ga K "common_of") Z.fd_common_of
  d__law_frac : FunD K d__law_frac.name d__law_frac.qual (defArgs s__law_frac) (defBody s__law_frac) (defScope s__law_frac) (d__law_frac.dvs K) (d__law_frac.kws K) (He.ga K "_law_frac") Z.fd__law_frac
  d__law_is_frac : FunD K d__law_is_frac.name d__law_is_frac.qual (defArgs s__law_is_frac) (defBody s__law_is_frac) (defScope s__law_is_frac) (d__law_is_frac.dvs K) (d__law_is_frac.kws K) (He.ga K "_law_is_frac") Z.fd__law_is_frac
  d__law_direction : FunD K d__law_direction.name d__law_direction.qual (defArgs s__law_direction) (defBody s__law_direction) (defScope s__law_direction) (d__law_direction.dvs K) (d__law_direction.kws K) (He.ga K "_law_direction") Z.fd__law_direction
  d_is_point : FunD K d_is_point.name d_is_point.qual (defArgs s_is_point) (defBody s_is_point) (defScope s_is_point) (d_is_point.dvs K) (d_is_point.kws K) (He.ga K "is_point") Z.fd_is_point
  d_taken : FunD K d_taken.name d_taken.qual (defArgs s_taken) (defBody s_taken) (defScope s_taken) (d_taken.dvs K) (d_taken.kws K) (He.ga K "taken") Z.fd_taken
  d_squared : FunD K d_squared.name d_squared.qual (defArgs s_squared) (defBody s_squared) (defScope s_squared) (d_squared.dvs K) (d_squared.kws K) (He.ga K "squared") Z.fd_squared
  d_is_direction : FunD K d_is_direction.name d_is_direction.qual (defArgs s_is_direction) (defBody s_is_direction) (defScope s_is_direction) (d_is_direction.dvs K) (d_is_direction.kws K) (He.ga K "is_direction") Z.fd_is_direction
  d_height_of : FunD K d_height_of.name d_height_of.qual (defArgs s_height_of) (defBody s_height_of) (defScope s_height_of) (d_height_of.dvs K) (d_height_of.kws K) (He.ga K "height_of") Z.fd_height_of
  d__check_plane : FunD K d__check_plane.name d__check_plane.qual (defArgs s__check_plane) (defBody s__check_plane) (defScope s__check_plane) (d__check_plane.dvs K) (d__check_plane.kws K) (He.ga K "_check_plane") Z.fd__check_plane
  d__law_plus : FunD K d__law_plus.name d__law_plus.qual (defArgs s__law_plus) (defBody s__law_plus) (defScope s__law_plus) (d__law_plus.dvs K) (d__law_plus.kws K) (He.ga K "_law_plus") Z.fd__law_plus
  d__law_minus : FunD K d__law_minus.name d__law_minus.qual (defArgs s__law_minus) (defBody s__law_minus) (defScope s__law_minus) (d__law_minus.dvs K) (d__law_minus.kws K) (He.ga K "_law_minus") Z.fd__law_minus
  d__law_times : FunD K d__law_times.name d__law_times.qual (defArgs s__law_times) (defBody s__law_times) (defScope s__law_times) (d__law_times.dvs K) (d__law_times.kws K) (He.ga K "_law_times") Z.fd__law_times
  d__law_is_point : FunD K d__law_is_point.name d__law_is_point.qual (defArgs s__law_is_point) (defBody s__law_is_point) (defScope s__law_is_point) (d__law_is_point.dvs K) (d__law_is_point.kws K) (He.ga K "_law_is_point") Z.fd__law_is_point
  d_check_point : FunD K d_check_point.name d_check_point.qual (defArgs s_check_point) (defBody s_check_point) (defScope s_check_point) (d_check_point.dvs K) (d_check_point.kws K) (He.ga K "check_point") Z.fd_check_point
  d_flat_mirrored : FunD K d_flat_mirrored.name d_flat_mirrored.qual (defArgs s_flat_mirrored) (defBody s_flat_mirrored) (defScope s_flat_mirrored) (d_flat_mirrored.dvs K) (d_flat_mirrored.kws K) (He.ga K "flat_mirrored") Z.fd_flat_mirrored
  d_Flat___init__ : FunD K d_Flat___init__.name d_Flat___init__.qual (defArgs s_Flat___init__) (defBody s_Flat___init__) (defScope s_Flat___init__) (d_Flat___init__.dvs K) (d_Flat___init__.kws K) (He.ma K (He.ga K "Flat") "__init__") Z.fd_Flat___init__
  d_is_good : FunD K d_is_good.name d_is_good.qual (defArgs s_is_good) (defBody s_is_good) (defScope s_is_good) (d_is_good.dvs K) (d_is_good.kws K) (He.ga K "is_good") Z.fd_is_good
  d__law_height : FunD K d__law_height.name d__law_height.qual (defArgs s__law_height) (defBody s__law_height) (defScope s__law_height) (d__law_height.dvs K) (d__law_height.kws K) (He.ga K "_law_height") Z.fd__law_height
  d__law_due : FunD K d__law_due.name d__law_due.qual (defArgs s__law_due) (defBody s__law_due) (defScope s__law_due) (d__law_due.dvs K) (d__law_due.kws K) (He.ga K "_law_due") Z.fd__law_due
  d_Flat_mirrored : FunD K d_Flat_mirrored.name d_Flat_mirrored.qual (defArgs s_Flat_mirrored) (defBody s_Flat_mirrored) (defScope s_Flat_mirrored) (d_Flat_mirrored.dvs K) (d_Flat_mirrored.kws K) (He.ma K (He.ga K "Flat") "mirrored") Z.fd_Flat_mirrored
  d_good_pair : FunD K d_good_pair.name d_good_pair.qual (defArgs s_good_pair) (defBody s_good_pair) (defScope s_good_pair) (d_good_pair.dvs K) (d_good_pair.kws K) (He.ga K "good_pair") Z.fd_good_pair
  d__law_mirrored : FunD K d__law_mirrored.name d__law_mirrored.qual (defArgs s__law_mirrored) (defBody s__law_mirrored) (defScope s__law_mirrored) (d__law_mirrored.dvs K) (d__law_mirrored.kws K) (He.ga K "_law_mirrored") Z.fd__law_mirrored
  d_flat_from : FunD K d_flat_from.name d_flat_from.qual (defArgs s_flat_from) (defBody s_flat_from) (defScope s_flat_from) (d_flat_from.dvs K) (d_flat_from.kws K) (He.ga K "flat_from") Z.fd_flat_from
  d_whole_mirrored : FunD K d_whole_mirrored.name d_whole_mirrored.qual (defArgs s_whole_mirrored) (defBody s_whole_mirrored) (defScope s_whole_mirrored) (d_whole_mirrored.dvs K) (d_whole_mirrored.kws K) (He.ga K "whole_mirrored") Z.fd_whole_mirrored
  d__law_pair_right : FunD K d__law_pair_right.name d__law_pair_right.qual (defArgs s__law_pair_right) (defBody s__law_pair_right) (defScope s__law_pair_right) (d__law_pair_right.dvs K) (d__law_pair_right.kws K) (He.ga K "_law_pair_right") Z.fd__law_pair_right
  d_between : FunD K d_between.name d_between.qual (defArgs s_between) (defBody s_between) (defScope s_between) (d_between.dvs K) (d_between.kws K) (He.ga K "between") Z.fd_between
  d__law_image_right : FunD K d__law_image_right.name d__law_image_right.qual (defArgs s__law_image_right) (defBody s__law_image_right) (defScope s__law_image_right) (d__law_image_right.dvs K) (d__law_image_right.kws K) (He.ga K "_law_image_right") Z.fd__law_image_right
  d__law_refusal : FunD K d__law_refusal.name d__law_refusal.qual (defArgs s__law_refusal) (defBody s__law_refusal) (defScope s__law_refusal) (d__law_refusal.dvs K) (d__law_refusal.kws K) (He.ga K "_law_refusal") Z.fd__law_refusal
  d__law_line_right : FunD K d__law_line_right.name d__law_line_right.qual (defArgs s__law_line_right) (defBody s__law_line_right) (defScope s__law_line_right) (d__law_line_right.dvs K) (d__law_line_right.kws K) (He.ga K "_law_line_right") Z.fd__law_line_right
  d__law_between_right : FunD K d__law_between_right.name d__law_between_right.qual (defArgs s__law_between_right) (defBody s__law_between_right) (defScope s__law_between_right) (d__law_between_right.dvs K) (d__law_between_right.kws K) (He.ga K "_law_between_right") Z.fd__law_between_right
  d__law_refuses : FunD K d__law_refuses.name d__law_refuses.qual (defArgs s__law_refuses) (defBody s__law_refuses) (defScope s__law_refuses) (d__law_refuses.dvs K) (d__law_refuses.kws K) (He.ga K "_law_refuses") Z.fd__law_refuses
  d_law : FunD K d_law.name d_law.qual (defArgs s_law) (defBody s_law) (defScope s_law) (d_law.dvs K) (d_law.kws K) (He.ga K "law") Z.fd_law
  g_is_whole : mg "is_whole" = some (.ref (He.ga K "is_whole"))
  g_lowest : mg "lowest" = some (.ref (He.ga K "lowest"))
  g_divisor : mg "divisor" = some (.ref (He.ga K "divisor"))
  g_multiple : mg "multiple" = some (.ref (He.ga K "multiple"))
  g__good_twice : mg "_good_twice" = some (.ref (He.ga K "_good_twice"))
  g__whole_at : mg "_whole_at" = some (.ref (He.ga K "_whole_at"))
  g__is_whole_point : mg "_is_whole_point" = some (.ref (He.ga K "_is_whole_point"))
  g__law_stream : mg "_law_stream" = some (.ref (He.ga K "_law_stream"))
  g__law_take : mg "_law_take" = some (.ref (He.ga K "_law_take"))
  g__law_whole : mg "_law_whole" = some (.ref (He.ga K "_law_whole"))
  g__law_divisor : mg "_law_divisor" = some (.ref (He.ga K "_law_divisor"))
  g__law_point : mg "_law_point" = some (.ref (He.ga K "_law_point"))
  g__law_is_whole : mg "_law_is_whole" = some (.ref (He.ga K "_law_is_whole"))
  g_is_fraction : mg "is_fraction" = some (.ref (He.ga K "is_fraction"))
  g_plus : mg "plus" = some (.ref (He.ga K "plus"))
  g_minus : mg "minus" = some (.ref (He.ga K "minus"))
  g_times : mg "times" = some (.ref (He.ga K "times"))
  g_dotted : mg "dotted" = some (.ref (He.ga K "dotted"))
  g_common_low : mg "common_low" = some (.ref (He.ga K "common_low"))
  g_common_of : mg "common_of" = some (.ref (He.ga K "common_of"))
  g__law_frac : mg "_law_frac" = some (.ref (He.ga K "_law_frac"))
  g__law_is_frac : mg "_law_is_frac" = some (.ref (He.ga K "_law_is_frac"))
  g__law_direction : mg "_law_direction" = some (.ref (He.ga K "_law_direction"))
  g_is_point : mg "is_point" = some (.ref (He.ga K "is_point"))
  g_taken : mg "taken" = some (.ref (He.ga K "taken"))
  g_squared : mg "squared" = some (.ref (He.ga K "squared"))
  g_is_direction : mg "is_direction" = some (.ref (He.ga K "is_direction"))
  g_height_of : mg "height_of" = some (.ref (He.ga K "height_of"))
  g__check_plane : mg "_check_plane" = some (.ref (He.ga K "_check_plane"))
  g__law_plus : mg "_law_plus" = some (.ref (He.ga K "_law_plus"))
  g__law_minus : mg "_law_minus" = some (.ref (He.ga K "_law_minus"))
  g__law_times : mg "_law_times" = some (.ref (He.ga K "_law_times"))
  g__law_is_point : mg "_law_is_point" = some (.ref (He.ga K "_law_is_point"))
  g_check_point : mg "check_point" = some (.ref (He.ga K "check_point"))
  g_flat_mirrored : mg "flat_mirrored" = some (.ref (He.ga K "flat_mirrored"))
  g_is_good : mg "is_good" = some (.ref (He.ga K "is_good"))
  g__law_height : mg "_law_height" = some (.ref (He.ga K "_law_height"))
  g__law_due : mg "_law_due" = some (.ref (He.ga K "_law_due"))
  g_good_pair : mg "good_pair" = some (.ref (He.ga K "good_pair"))
  g__law_mirrored : mg "_law_mirrored" = some (.ref (He.ga K "_law_mirrored"))
  g_flat_from : mg "flat_from" = some (.ref (He.ga K "flat_from"))
  g_whole_mirrored : mg "whole_mirrored" = some (.ref (He.ga K "whole_mirrored"))
  g__law_pair_right : mg "_law_pair_right" = some (.ref (He.ga K "_law_pair_right"))
  g_between : mg "between" = some (.ref (He.ga K "between"))
  g__law_image_right : mg "_law_image_right" = some (.ref (He.ga K "_law_image_right"))
  g__law_refusal : mg "_law_refusal" = some (.ref (He.ga K "_law_refusal"))
  g__law_line_right : mg "_law_line_right" = some (.ref (He.ga K "_law_line_right"))
  g__law_between_right : mg "_law_between_right" = some (.ref (He.ga K "_law_between_right"))
  g__law_refuses : mg "_law_refuses" = some (.ref (He.ga K "_law_refuses"))
  g_law : mg "law" = some (.ref (He.ga K "law"))
  g_BadPoint : mg "BadPoint" = some (.ref (He.ga K "BadPoint"))
  g_OtherSpace : mg "OtherSpace" = some (.ref (He.ga K "OtherSpace"))
  g_Flat : mg "Flat" = some (.ref (He.ga K "Flat"))
  b_abs : mg "abs" = none
  b_all : mg "all" = none
  b_bool : mg "bool" = none
  b_int : mg "int" = none
  b_isinstance : mg "isinstance" = none
  b_len : mg "len" = none
  b_min : mg "min" = none
  b_range : mg "range" = none
  b_sum : mg "sum" = none
  b_tuple : mg "tuple" = none
  b_zip : mg "zip" = none
  f_gcd : mg "gcd" = some (.builtin "math.gcd")
  ox_BadPoint : OexC K (He.ga K "BadPoint")
  ox_OtherSpace : OexC K (He.ga K "OtherSpace")
  xf_BadPoint : XfC K (He.ga K "BadPoint")
  xf_OtherSpace : XfC K (He.ga K "OtherSpace")
  in_BadPoint : PySem.W.findIn K (.ref (He.ga K "BadPoint")) "__init__" = some (some (.ref (He.ma K (He.ga K "BadPoint") "__init__"))) ∧ PySem.W.typeIn K (.ref (He.ma K (He.ga K "BadPoint") "__init__")) = some (.type "function")
  in_OtherSpace : PySem.W.findIn K (.ref (He.ga K "OtherSpace")) "__init__" = some (some (.ref (He.ma K (He.ga K "OtherSpace") "__init__"))) ∧ PySem.W.typeIn K (.ref (He.ma K (He.ga K "OtherSpace") "__init__")) = some (.type "function")
  na_BadPoint_place : PySem.W.findIn K (.ref (He.ga K "BadPoint")) "place" = some none
  na_OtherSpace_got : PySem.W.findIn K (.ref (He.ga K "OtherSpace")) "got" = some none
  na_OtherSpace_wanted : PySem.W.findIn K (.ref (He.ga K "OtherSpace")) "wanted" = some none
  cls_Flat : Cls K (He.ga K "Flat")
  me_Flat_mirrored : Meth K (He.ga K "Flat") "mirrored" (He.ma K (He.ga K "Flat") "mirrored")
  mk_Flat : Mk K (He.ga K "Flat") (He.ma K (He.ga K "Flat") "__init__")
  pr_Flat_length2 : PropOf K (He.ga K "Flat") "length2" (He.ma K (He.ga K "Flat") "length2") (pgA "Flat" "length2" K)
  fl_Flat_direction : Cls K (He.ga K "Flat") ∧ NoAttr K (He.ga K "Flat") "direction"
  fl_Flat_offset : Cls K (He.ga K "Flat") ∧ NoAttr K (He.ga K "Flat") "offset"
  fl_Flat_size : Cls K (He.ga K "Flat") ∧ NoAttr K (He.ga K "Flat") "size"
  mt : MtOk K mt
theorem facts {K : PySem.W.Frag} {h : Heap} {mg : Str → Option Value} (X : K.In h) (G : h.Ns mainGlobals mg) (c : SaysN fa fn K) : ∃ Z : Fd, Fx K mg Z := by
  obtain ⟨z0, h0⟩ := c.def_ 0 (d := ⟨fun K => (He.ma K (He.ga K "BadPoint") "__init__"), d_BadPoint___init__⟩) rfl
  obtain ⟨z1, h1⟩ := c.def_ 1 (d := ⟨fun K => (He.ma K (He.ga K "OtherSpace") "__init__"), d_OtherSpace___init__⟩) rfl
  obtain ⟨z2, h2⟩ := c.def_ 2 (d := ⟨fun K => (He.ga K "is_whole"), d_is_whole⟩) rfl
  obtain ⟨z3, h3⟩ := c.def_ 3 (d := ⟨fun K => (He.ga K "lowest"), d_lowest⟩) rfl
  obtain ⟨z4, h4⟩ := c.def_ 4 (d := ⟨fun K => (He.ga K "divisor"), d_divisor⟩) rfl
  obtain ⟨z5, h5⟩ := c.def_ 5 (d := ⟨fun K => (He.ga K "multiple"), d_multiple⟩) rfl
  obtain ⟨z6, h6⟩ := c.def_ 6 (d := ⟨fun K => (He.ga K "_good_twice"), d__good_twice⟩) rfl
  obtain ⟨z7, h7⟩ := c.def_ 7 (d := ⟨fun K => (He.ga K "_whole_at"), d__whole_at⟩) rfl
  obtain ⟨z8, h8⟩ := c.def_ 8 (d := ⟨fun K => (He.ga K "_is_whole_point"), d__is_whole_point⟩) rfl
  obtain ⟨z9, h9⟩ := c.def_ 9 (d := ⟨fun K => (He.ga K "_law_stream"), d__law_stream⟩) rfl
  obtain ⟨z10, h10⟩ := c.def_ 10 (d := ⟨fun K => (He.ga K "_law_take"), d__law_take⟩) rfl
  obtain ⟨z11, h11⟩ := c.def_ 11 (d := ⟨fun K => (He.ga K "_law_whole"), d__law_whole⟩) rfl
  obtain ⟨z12, h12⟩ := c.def_ 12 (d := ⟨fun K => (He.ga K "_law_divisor"), d__law_divisor⟩) rfl
  obtain ⟨z13, h13⟩ := c.def_ 13 (d := ⟨fun K => (He.ga K "_law_point"), d__law_point⟩) rfl
  obtain ⟨z14, h14⟩ := c.def_ 14 (d := ⟨fun K => (He.ga K "_law_is_whole"), d__law_is_whole⟩) rfl
  obtain ⟨z15, h15⟩ := c.def_ 15 (d := ⟨fun K => (pgA "Flat" "length2" K), d_Flat_length2⟩) rfl
  obtain ⟨z16, h16⟩ := c.def_ 16 (d := ⟨fun K => (He.ga K "is_fraction"), d_is_fraction⟩) rfl
  obtain ⟨z17, h17⟩ := c.def_ 17 (d := ⟨fun K => (He.ga K "plus"), d_plus⟩) rfl
  obtain ⟨z18, h18⟩ := c.def_ 18 (d := ⟨fun K => (He.ga K "minus"), d_minus⟩) rfl
  obtain ⟨z19, h19⟩ := c.def_ 19 (d := ⟨fun K => (He.ga K "times"), d_times⟩) rfl
  obtain ⟨z20, h20⟩ := c.def_ 20 (d := ⟨fun K => (He.ga K "dotted"), d_dotted⟩) rfl
  obtain ⟨z21, h21⟩ := c.def_ 21 (d := ⟨fun K => (He.ga K "common_low"), d_common_low⟩) rfl
  obtain ⟨z22, h22⟩ := c.def_ 22 (d := ⟨fun K => (He.ga K "common_of"), d_common_of⟩) rfl
  obtain ⟨z23, h23⟩ := c.def_ 23 (d := ⟨fun K => (He.ga K "_law_frac"), d__law_frac⟩) rfl
  obtain ⟨z24, h24⟩ := c.def_ 24 (d := ⟨fun K => (He.ga K "_law_is_frac"), d__law_is_frac⟩) rfl
  obtain ⟨z25, h25⟩ := c.def_ 25 (d := ⟨fun K => (He.ga K "_law_direction"), d__law_direction⟩) rfl
  obtain ⟨z26, h26⟩ := c.def_ 26 (d := ⟨fun K => (He.ga K "is_point"), d_is_point⟩) rfl
  obtain ⟨z27, h27⟩ := c.def_ 27 (d := ⟨fun K => (He.ga K "taken"), d_taken⟩) rfl
  obtain ⟨z28, h28⟩ := c.def_ 28 (d := ⟨fun K => (He.ga K "squared"), d_squared⟩) rfl
  obtain ⟨z29, h29⟩ := c.def_ 29 (d := ⟨fun K => (He.ga K "is_direction"), d_is_direction⟩) rfl
  obtain ⟨z30, h30⟩ := c.def_ 30 (d := ⟨fun K => (He.ga K "height_of"), d_height_of⟩) rfl
  obtain ⟨z31, h31⟩ := c.def_ 31 (d := ⟨fun K => (He.ga K "_check_plane"), d__check_plane⟩) rfl
  obtain ⟨z32, h32⟩ := c.def_ 32 (d := ⟨fun K => (He.ga K "_law_plus"), d__law_plus⟩) rfl
  obtain ⟨z33, h33⟩ := c.def_ 33 (d := ⟨fun K => (He.ga K "_law_minus"), d__law_minus⟩) rfl
  obtain ⟨z34, h34⟩ := c.def_ 34 (d := ⟨fun K => (He.ga K "_law_times"), d__law_times⟩) rfl
  obtain ⟨z35, h35⟩ := c.def_ 35 (d := ⟨fun K => (He.ga K "_law_is_point"), d__law_is_point⟩) rfl
  obtain ⟨z36, h36⟩ := c.def_ 36 (d := ⟨fun K => (He.ga K "check_point"), d_check_point⟩) rfl
  obtain ⟨z37, h37⟩ := c.def_ 37 (d := ⟨fun K => (He.ga K "flat_mirrored"), d_flat_mirrored⟩) rfl
  obtain ⟨z38, h38⟩ := c.def_ 38 (d := ⟨fun K => (He.ma K (He.ga K "Flat") "__init__"), d_Flat___init__⟩) rfl
  obtain ⟨z39, h39⟩ := c.def_ 39 (d := ⟨fun K => (He.ga K "is_good"), d_is_good⟩) rfl
  obtain ⟨z40, h40⟩ := c.def_ 40 (d := ⟨fun K => (He.ga K "_law_height"), d__law_height⟩) rfl
  obtain ⟨z41, h41⟩ := c.def_ 41 (d := ⟨fun K => (He.ga K "_law_due"), d__law_due⟩) rfl
  obtain ⟨z42, h42⟩ := c.def_ 42 (d := ⟨fun K => (He.ma K (He.ga K "Flat") "mirrored"), d_Flat_mirrored⟩) rfl
  obtain ⟨z43, h43⟩ := c.def_ 43 (d := ⟨fun K => (He.ga K "good_pair"), d_good_pair⟩) rfl
  obtain ⟨z44, h44⟩ := c.def_ 44 (d := ⟨fun K => (He.ga K "_law_mirrored"), d__law_mirrored⟩) rfl
  obtain ⟨z45, h45⟩ := c.def_ 45 (d := ⟨fun K => (He.ga K "flat_from"), d_flat_from⟩) rfl
  obtain ⟨z46, h46⟩ := c.def_ 46 (d := ⟨fun K => (He.ga K "whole_mirrored"), d_whole_mirrored⟩) rfl
  obtain ⟨z47, h47⟩ := c.def_ 47 (d := ⟨fun K => (He.ga K "_law_pair_right"), d__law_pair_right⟩) rfl
  obtain ⟨z48, h48⟩ := c.def_ 48 (d := ⟨fun K => (He.ga K "between"), d_between⟩) rfl
  obtain ⟨z49, h49⟩ := c.def_ 49 (d := ⟨fun K => (He.ga K "_law_image_right"), d__law_image_right⟩) rfl
  obtain ⟨z50, h50⟩ := c.def_ 50 (d := ⟨fun K => (He.ga K "_law_refusal"), d__law_refusal⟩) rfl
  obtain ⟨z51, h51⟩ := c.def_ 51 (d := ⟨fun K => (He.ga K "_law_line_right"), d__law_line_right⟩) rfl
  obtain ⟨z52, h52⟩ := c.def_ 52 (d := ⟨fun K => (He.ga K "_law_between_right"), d__law_between_right⟩) rfl
  obtain ⟨z53, h53⟩ := c.def_ 53 (d := ⟨fun K => (He.ga K "_law_refuses"), d__law_refuses⟩) rfl
  obtain ⟨z54, h54⟩ := c.def_ 54 (d := ⟨fun K => (He.ga K "law"), d_law⟩) rfl
  exact ⟨⟨z0, z1, z2, z3, z4, z5, z6, z7, z8, z9, z10, z11, z12, z13, z14, z15, z16, z17, z18, z19, z20, z21, z22, z23, z24, z25, z26, z27, z28, z29, z30, z31, z32, z33, z34, z35, z36, z37, z38, z39, z40, z41, z42, z43, z44, z45, z46, z47, z48, z49, z50, z51, z52, z53, z54⟩, {
    d_BadPoint___init__ := h0
    d_OtherSpace___init__ := h1
    d_is_whole := h2
    d_lowest := h3
    d_divisor := h4
    d_multiple := h5
    d__good_twice := h6
    d__whole_at := h7
    d__is_whole_point := h8
    d__law_stream := h9
    d__law_take := h10
    d__law_whole := h11
    d__law_divisor := h12
    d__law_point := h13
    d__law_is_whole := h14
    d_Flat_length2 := h15
    d_is_fraction := h16
    d_plus := h17
    d_minus := h18
    d_times := h19
    d_dotted := h20
    d_common_low := h21
    d_common_of := h22
    d__law_frac := h23
    d__law_is_frac := h24
    d__law_direction := h25
    d_is_point := h26
    d_taken := h27
    d_squared := h28
    d_is_direction := h29
    d_height_of := h30
    d__check_plane := h31
    d__law_plus := h32
    d__law_minus := h33
    d__law_times := h34
    d__law_is_point := h35
    d_check_point := h36
    d_flat_mirrored := h37
    d_Flat___init__ := h38
    d_is_good := h39
    d__law_height := h40
    d__law_due := h41
    d_Flat_mirrored := h42
    d_good_pair := h43
    d__law_mirrored := h44
    d_flat_from := h45
    d_whole_mirrored := h46
    d__law_pair_right := h47
    d_between := h48
    d__law_image_right := h49
    d__law_refusal := h50
    d__law_line_right := h51
    d__law_between_right := h52
    d__law_refuses := h53
    d_law := h54
    g_is_whole := He.glo_ok X G (c.fact 0 (f := .fm (.he (.glo "is_whole"))) rfl)
    g_lowest := He.glo_ok X G (c.fact 1 (f := .fm (.he (.glo "lowest"))) rfl)
    g_divisor := He.glo_ok X G (c.fact 2 (f := .fm (.he (.glo "divisor"))) rfl)
    g_multiple := He.glo_ok X G (c.fact 3 (f := .fm (.he (.glo "multiple"))) rfl)
    g__good_twice := He.glo_ok X G (c.fact 4 (f := .fm (.he (.glo "_good_twice"))) rfl)
    g__whole_at := He.glo_ok X G (c.fact 5 (f := .fm (.he (.glo "_whole_at"))) rfl)
    g__is_whole_point := He.glo_ok X G (c.fact 6 (f := .fm (.he (.glo "_is_whole_point"))) rfl)
    g__law_stream := He.glo_ok X G (c.fact 7 (f := .fm (.he (.glo "_law_stream"))) rfl)
    g__law_take := He.glo_ok X G (c.fact 8 (f := .fm (.he (.glo "_law_take"))) rfl)
    g__law_whole := He.glo_ok X G (c.fact 9 (f := .fm (.he (.glo "_law_whole"))) rfl)
    g__law_divisor := He.glo_ok X G (c.fact 10 (f := .fm (.he (.glo "_law_divisor"))) rfl)
    g__law_point := He.glo_ok X G (c.fact 11 (f := .fm (.he (.glo "_law_point"))) rfl)
    g__law_is_whole := He.glo_ok X G (c.fact 12 (f := .fm (.he (.glo "_law_is_whole"))) rfl)
    g_is_fraction := He.glo_ok X G (c.fact 13 (f := .fm (.he (.glo "is_fraction"))) rfl)
    g_plus := He.glo_ok X G (c.fact 14 (f := .fm (.he (.glo "plus"))) rfl)
    g_minus := He.glo_ok X G (c.fact 15 (f := .fm (.he (.glo "minus"))) rfl)
    g_times := He.glo_ok X G (c.fact 16 (f := .fm (.he (.glo "times"))) rfl)
    g_dotted := He.glo_ok X G (c.fact 17 (f := .fm (.he (.glo "dotted"))) rfl)
    g_common_low := He.glo_ok X G (c.fact 18 (f := .fm (.he (.glo "common_low"))) rfl)
    g_common_of := He.glo_ok X G (c.fact 19 (f := .fm (.he (.glo "common_of"))) rfl)
    g__law_frac := He.glo_ok X G (c.fact 20 (f := .fm (.he (.glo "_law_frac"))) rfl)
    g__law_is_frac := He.glo_ok X G (c.fact 21 (f := .fm (.he (.glo "_law_is_frac"))) rfl)
    g__law_direction := He.glo_ok X G (c.fact 22 (f := .fm (.he (.glo "_law_direction"))) rfl)
    g_is_point := He.glo_ok X G (c.fact 23 (f := .fm (.he (.glo "is_point"))) rfl)
    g_taken := He.glo_ok X G (c.fact 24 (f := .fm (.he (.glo "taken"))) rfl)
    g_squared := He.glo_ok X G (c.fact 25 (f := .fm (.he (.glo "squared"))) rfl)
    g_is_direction := He.glo_ok X G (c.fact 26 (f := .fm (.he (.glo "is_direction"))) rfl)
    g_height_of := He.glo_ok X G (c.fact 27 (f := .fm (.he (.glo "height_of"))) rfl)
    g__check_plane := He.glo_ok X G (c.fact 28 (f := .fm (.he (.glo "_check_plane"))) rfl)
    g__law_plus := He.glo_ok X G (c.fact 29 (f := .fm (.he (.glo "_law_plus"))) rfl)
    g__law_minus := He.glo_ok X G (c.fact 30 (f := .fm (.he (.glo "_law_minus"))) rfl)
    g__law_times := He.glo_ok X G (c.fact 31 (f := .fm (.he (.glo "_law_times"))) rfl)
    g__law_is_point := He.glo_ok X G (c.fact 32 (f := .fm (.he (.glo "_law_is_point"))) rfl)
    g_check_point := He.glo_ok X G (c.fact 33 (f := .fm (.he (.glo "check_point"))) rfl)
    g_flat_mirrored := He.glo_ok X G (c.fact 34 (f := .fm (.he (.glo "flat_mirrored"))) rfl)
    g_is_good := He.glo_ok X G (c.fact 35 (f := .fm (.he (.glo "is_good"))) rfl)
    g__law_height := He.glo_ok X G (c.fact 36 (f := .fm (.he (.glo "_law_height"))) rfl)
    g__law_due := He.glo_ok X G (c.fact 37 (f := .fm (.he (.glo "_law_due"))) rfl)
    g_good_pair := He.glo_ok X G (c.fact 38 (f := .fm (.he (.glo "good_pair"))) rfl)
    g__law_mirrored := He.glo_ok X G (c.fact 39 (f := .fm (.he (.glo "_law_mirrored"))) rfl)
    g_flat_from := He.glo_ok X G (c.fact 40 (f := .fm (.he (.glo "flat_from"))) rfl)
    g_whole_mirrored := He.glo_ok X G (c.fact 41 (f := .fm (.he (.glo "whole_mirrored"))) rfl)
    g__law_pair_right := He.glo_ok X G (c.fact 42 (f := .fm (.he (.glo "_law_pair_right"))) rfl)
    g_between := He.glo_ok X G (c.fact 43 (f := .fm (.he (.glo "between"))) rfl)
    g__law_image_right := He.glo_ok X G (c.fact 44 (f := .fm (.he (.glo "_law_image_right"))) rfl)
    g__law_refusal := He.glo_ok X G (c.fact 45 (f := .fm (.he (.glo "_law_refusal"))) rfl)
    g__law_line_right := He.glo_ok X G (c.fact 46 (f := .fm (.he (.glo "_law_line_right"))) rfl)
    g__law_between_right := He.glo_ok X G (c.fact 47 (f := .fm (.he (.glo "_law_between_right"))) rfl)
    g__law_refuses := He.glo_ok X G (c.fact 48 (f := .fm (.he (.glo "_law_refuses"))) rfl)
    g_law := He.glo_ok X G (c.fact 49 (f := .fm (.he (.glo "law"))) rfl)
    g_BadPoint := He.glo_ok X G (c.fact 50 (f := .fm (.he (.glo "BadPoint"))) rfl)
    g_OtherSpace := He.glo_ok X G (c.fact 51 (f := .fm (.he (.glo "OtherSpace"))) rfl)
    g_Flat := He.glo_ok X G (c.fact 52 (f := .fm (.he (.glo "Flat"))) rfl)
    b_abs := He.free_ok X G (c.fact 53 (f := .fm (.he (.free "abs"))) rfl)
    b_all := He.free_ok X G (c.fact 54 (f := .fm (.he (.free "all"))) rfl)
    b_bool := He.free_ok X G (c.fact 55 (f := .fm (.he (.free "bool"))) rfl)
    b_int := He.free_ok X G (c.fact 56 (f := .fm (.he (.free "int"))) rfl)
    b_isinstance := He.free_ok X G (c.fact 57 (f := .fm (.he (.free "isinstance"))) rfl)
    b_len := He.free_ok X G (c.fact 58 (f := .fm (.he (.free "len"))) rfl)
    b_min := He.free_ok X G (c.fact 59 (f := .fm (.he (.free "min"))) rfl)
    b_range := He.free_ok X G (c.fact 60 (f := .fm (.he (.free "range"))) rfl)
    b_sum := He.free_ok X G (c.fact 61 (f := .fm (.he (.free "sum"))) rfl)
    b_tuple := He.free_ok X G (c.fact 62 (f := .fm (.he (.free "tuple"))) rfl)
    b_zip := He.free_ok X G (c.fact 63 (f := .fm (.he (.free "zip"))) rfl)
    f_gcd := bfun_ok X G (c.fact 64 (f := .fm (.bfun "gcd" "math.gcd")) rfl)
    ox_BadPoint := oex_ok (c.fact 65 (f := .fm (.oex "BadPoint")) rfl)
    ox_OtherSpace := oex_ok (c.fact 66 (f := .fm (.oex "OtherSpace")) rfl)
    xf_BadPoint := xf_ok (c.fact 67 (f := .fm (.xf "BadPoint")) rfl)
    xf_OtherSpace := xf_ok (c.fact 68 (f := .fm (.xf "OtherSpace")) rfl)
    in_BadPoint := ini_ok (c.fact 69 (f := .fm (.ini "BadPoint")) rfl)
    in_OtherSpace := ini_ok (c.fact 70 (f := .fm (.ini "OtherSpace")) rfl)
    na_BadPoint_place := He.noat_ok (c.fact 71 (f := .fm (.he (.noat "BadPoint" "place"))) rfl)
    na_OtherSpace_got := He.noat_ok (c.fact 72 (f := .fm (.he (.noat "OtherSpace" "got"))) rfl)
    na_OtherSpace_wanted := He.noat_ok (c.fact 73 (f := .fm (.he (.noat "OtherSpace" "wanted"))) rfl)
    cls_Flat := He.cls_ok (c.fact 74 (f := .fm (.he (.cls "Flat"))) rfl)
    me_Flat_mirrored := He.meth_ok (c.fact 75 (f := .fm (.he (.meth "Flat" "mirrored"))) rfl)
    mk_Flat := He.mkr_ok (c.fact 76 (f := .fm (.he (.mkr "Flat"))) rfl)
    pr_Flat_length2 := prop_ok (c.fact 77 (f := .prop "Flat" "length2") rfl)
    fl_Flat_direction := fld_ok (c.fact 78 (f := .fld "Flat" "direction") rfl)
    fl_Flat_offset := fld_ok (c.fact 79 (f := .fld "Flat" "offset") rfl)
    fl_Flat_size := fld_ok (c.fact 80 (f := .fld "Flat" "size") rfl)
    mt := fun q hq => by
      simp only [HT.mt, List.mem_cons, List.not_mem_nil, or_false] at hq
      rcases hq with rfl | rfl | rfl | rfl
      · exact He.exm_ok (c.fact 81 (f := .fm (.he (.exm "BadPoint" "BadPoint" true))) rfl)
      · exact He.exm_ok (c.fact 82 (f := .fm (.he (.exm "BadPoint" "OtherSpace" false))) rfl)
      · exact He.exm_ok (c.fact 83 (f := .fm (.he (.exm "OtherSpace" "BadPoint" false))) rfl)
      · exact He.exm_ok (c.fact 84 (f := .fm (.he (.exm "OtherSpace" "OtherSpace" true))) rfl)
    }⟩
section
variable {P : Program} {w : World} {K : PySem.W.Frag} {mg : Str → Option Value} {base : Heap} {Z : Fd}
theorem ft_direction (T : Fx K mg Z) : FTab K ["Flat"] "direction" := fun C hC => by
  simp only [List.mem_cons, List.not_mem_nil, or_false] at hC
  rcases hC with rfl
  exact T.fl_Flat_direction
theorem ft_offset (T : Fx K mg Z) : FTab K ["Flat"] "offset" := fun C hC => by
  simp only [List.mem_cons, List.not_mem_nil, or_false] at hC
  rcases hC with rfl
  exact T.fl_Flat_offset
theorem ft_size (T : Fx K mg Z) : FTab K ["Flat"] "size" := fun C hC => by
  simp only [List.mem_cons, List.not_mem_nil, or_false] at hC
  rcases hC with rfl
  exact T.fl_Flat_size
theorem b_check_point_2 (T : Fx K mg Z) : ∃ ds, Vals [V.int 0] ds ∧ Binds K Z.fd_check_point ["value", "size", "place"] ds := FunD.binds1 (ps := ["value", "size", "place"]) T.d_check_point 2 0 (List.cons_ne_nil _ _) rfl fun _ _ _ _ _ _ _ us its h1 h2 => match us, its, h1, h2 with | [_, _], [_], _, _ => ⟨_, rfl, rfl⟩
theorem b_check_point_3 (T : Fx K mg Z) : ∃ ds, Vals [] ds ∧ Binds K Z.fd_check_point ["value", "size", "place"] ds := FunD.binds1 (ps := ["value", "size", "place"]) T.d_check_point 3 1 (List.cons_ne_nil _ _) rfl fun _ _ _ _ _ _ _ us its h1 h2 => match us, its, h1, h2 with | [_, _, _], [_], _, _ => ⟨_, rfl, rfl⟩
theorem b_is_point_1 (T : Fx K mg Z) : ∃ ds, Vals [V.int 0] ds ∧ Binds K Z.fd_is_point ["value", "size"] ds := FunD.binds1 (ps := ["value", "size"]) T.d_is_point 1 0 (List.cons_ne_nil _ _) rfl fun _ _ _ _ _ _ _ us its h1 h2 => match us, its, h1, h2 with | [_], [_], _, _ => ⟨_, rfl, rfl⟩
theorem hru {k : Nat} {A : Around} (h : Room k A) : A.units + 64 < cLine := by
  have := h.un
  omega
theorem sc_BadPoint___init__ : FnScope ["self", "place"] ["self", "place"] (defScope s_BadPoint___init__) := ⟨rfl, rfl, rfl, by decide +kernel, rfl, by decide +kernel, by decide +kernel⟩
theorem b_BadPoint___init__ (T : Fx K mg Z) : Binds K Z.fd_BadPoint___init__ ["self", "place"] [] := T.d_BadPoint___init__.bindsN fun _ _ _ _ _ _ us hl => match us, hl with | [_, _], _ => rfl
theorem ok_BadPoint___init__ (T : Fx K mg Z) : FnOk P w K mg base (L2.CX P w) 1 (He.ma K (He.ga K "BadPoint") "__init__") Z.fd_BadPoint___init__ ["self", "place"] (spIni K ["place"]) := ini1 T.d_BadPoint___init__ sc_BadPoint___init__ rfl rfl fun cdv A outer s H E => pss_one (ps_ost (pv 0) (pv 1))
theorem sc_OtherSpace___init__ : FnScope ["self", "wanted", "got"] ["self", "wanted", "got"] (defScope s_OtherSpace___init__) := ⟨rfl, rfl, rfl, by decide +kernel, rfl, by decide +kernel, by decide +kernel⟩
theorem b_OtherSpace___init__ (T : Fx K mg Z) : Binds K Z.fd_OtherSpace___init__ ["self", "wanted", "got"] [] := T.d_OtherSpace___init__.bindsN fun _ _ _ _ _ _ us hl => match us, hl with | [_, _, _], _ => rfl
theorem ok_OtherSpace___init__ (T : Fx K mg Z) : FnOk P w K mg base (L2.CX P w) 1 (He.ma K (He.ga K "OtherSpace") "__init__") Z.fd_OtherSpace___init__ ["self", "wanted", "got"] (spIni K ["wanted", "got"]) := ini2 T.d_OtherSpace___init__ sc_OtherSpace___init__ rfl rfl fun cdv A outer s H E => pss_cons (ps_ost (pv 0) (pv 1)) (pss_one (ps_ost (pv 0) (pv 2)))
theorem sc_is_whole : FnScope ["value"] ["value"] (defScope s_is_whole) := ⟨rfl, rfl, rfl, by decide +kernel, rfl, by decide +kernel, by decide +kernel⟩
theorem b_is_whole (T : Fx K mg Z) : Binds K Z.fd_is_whole ["value"] [] := T.d_is_whole.bindsN fun _ _ _ _ _ _ us hl => match us, hl with | [_], _ => rfl
theorem ok_is_whole (T : Fx K mg Z) : FnOk P w K mg base (L2.CX P w) 1 (He.ga K "is_whole") Z.fd_is_whole ["value"] (spF K 1 f_is_whole) := fn_okF (k := 0) (m := m_is_whole) T.d_is_whole sc_is_whole rfl rfl fun cdv A outer s H E hr =>
  (qss_one (qs_ret (qo_thw (qe_and (qe_isinst (pe_bltn (v := .ty "int") rfl T.b_int (by decide +kernel) rfl) (fun _ _ _ q => q) rfl T.b_isinstance (qe_var (pv 0))) (qe_one (qe_not (qe_isinst (pe_bltn (v := .ty "bool") rfl T.b_bool (by decide +kernel) rfl) (fun _ _ _ q => q) rfl T.b_isinstance (qe_var (pv 0)))))))))
theorem sc_lowest : FnScope ["p", "q", "d"] ["p", "q"] (defScope s_lowest) := ⟨rfl, rfl, rfl, by decide +kernel, rfl, by decide +kernel, by decide +kernel⟩
theorem b_lowest (T : Fx K mg Z) : Binds K Z.fd_lowest ["p", "q"] [] := T.d_lowest.bindsN fun _ _ _ _ _ _ us hl => match us, hl with | [_, _], _ => rfl
theorem ok_lowest (T : Fx K mg Z) : FnOk P w K mg base (L2.CX P w) 1 (He.ga K "lowest") Z.fd_lowest ["p", "q"] (spF K 2 f_lowest) := fn_okF (k := 0) (m := m_lowest) T.d_lowest sc_lowest rfl rfl fun cdv A outer s H E hr =>
  (qss_cons (qs_if (qt_cmp op_lt o_lt (qe_var (pv 1)) qe_int (nomark _))
    (qss_one (qs_par (i := 0) (j := 1) rfl sc_lowest.nd rfl rfl (by decide) rfl rfl (qa_cons (qe_un un_neg o_neg (qe_var (pv 0))) (qa_cons (qe_un un_neg o_neg (qe_var (pv 1))) qa_nil)) (by rfl)))
    qss_nil)
    (qss_cons (qs_if (qt_cmp (op_eqD (hru hr)) o_eq (qe_var (pv 1)) qe_int (nomark _))
    (qss_one (qs_ret (qo_thw (qe_tup (qa_cons (qe_var (pv 0)) (qa_cons qe_int qa_nil))))))
    qss_nil)
    (qss_cons (qs_set sc_lowest.nd (i := 2) rfl (by first | exact Or.inl rfl | exact Or.inr rfl) (qo_thw (qe_callFun cr_gcd o_gcd rfl T.f_gcd (qa_cons (qe_var (pv 0)) (qa_cons (qe_var (pv 1)) qa_nil)))))
    (qss_one (qs_ret (qo_thw (qe_tup (qa_cons (qe_op2 op_fdivZ o_fdiv (qe_var (pv 0)) (qe_var (pv 2))) (qa_cons (qe_op2 op_fdivZ o_fdiv (qe_var (pv 1)) (qe_var (pv 2))) qa_nil)))))))))
theorem sc_divisor : FnScope ["a", "b"] ["a", "b"] (defScope s_divisor) := ⟨rfl, rfl, rfl, by decide +kernel, rfl, by decide +kernel, by decide +kernel⟩
theorem b_divisor (T : Fx K mg Z) : Binds K Z.fd_divisor ["a", "b"] [] := T.d_divisor.bindsN fun _ _ _ _ _ _ us hl => match us, hl with | [_, _], _ => rfl
theorem ok_divisor (T : Fx K mg Z) : FnOk P w K mg base (L2.CX P w) 1 (He.ga K "divisor") Z.fd_divisor ["a", "b"] (spF K 2 f_divisor) := fn_okF (k := 0) (m := m_divisor) T.d_divisor sc_divisor rfl rfl fun cdv A outer s H E hr =>
  (qss_one (qs_ret (qo_thw (qe_callFun cr_gcd o_gcd rfl T.f_gcd (qa_cons (qe_var (pv 0)) (qa_cons (qe_var (pv 1)) qa_nil))))))
theorem sc_multiple : FnScope ["a", "b"] ["a", "b"] (defScope s_multiple) := ⟨rfl, rfl, rfl, by decide +kernel, rfl, by decide +kernel, by decide +kernel⟩
theorem b_multiple (T : Fx K mg Z) : Binds K Z.fd_multiple ["a", "b"] [] := T.d_multiple.bindsN fun _ _ _ _ _ _ us hl => match us, hl with | [_, _], _ => rfl
theorem ok_multiple (T : Fx K mg Z) : FnOk P w K mg base (L2.CX P w) 1 (He.ga K "multiple") Z.fd_multiple ["a", "b"] (spF K 2 f_multiple) := fn_okF (k := 0) (m := m_multiple) T.d_multiple sc_multiple rfl rfl fun cdv A outer s H E hr =>
  (qss_one (qs_ret (qo_thw (qe_op2 op_mulW o_mul (qe_op2 op_fdivZ o_fdiv (qe_call1 call_abs o_abs rfl T.b_abs (by decide +kernel) (qe_var (pv 0))) (qe_callFun cr_gcd o_gcd rfl T.f_gcd (qa_cons (qe_var (pv 0)) (qa_cons (qe_var (pv 1)) qa_nil)))) (qe_call1 call_abs o_abs rfl T.b_abs (by decide +kernel) (qe_var (pv 1)))))))
theorem sc__good_twice : FnScope ["flat"] ["flat"] (defScope s__good_twice) := ⟨rfl, rfl, rfl, by decide +kernel, rfl, by decide +kernel, by decide +kernel⟩
theorem b__good_twice (T : Fx K mg Z) : Binds K Z.fd__good_twice ["flat"] [] := T.d__good_twice.bindsN fun _ _ _ _ _ _ us hl => match us, hl with | [_], _ => rfl
theorem ok__good_twice (T : Fx K mg Z) : FnOk P w K mg base (L2.CX P w) 1 (He.ga K "_good_twice") Z.fd__good_twice ["flat"] (spF K 1 f__good_twice) := fn_okF (k := 0) (m := m__good_twice) T.d__good_twice sc__good_twice rfl rfl fun cdv A outer s H E hr =>
  (qss_cons (qs_if (qt_cmp (op_neD (hru hr)) o_ne (qe_op2 op_modN o_mod qe_int (qe_ix ix_itm o_item.op (qe_fldV (tab := ["Flat"]) (ft_offset T) (pv 0)) qe_int (by intro _ _; rfl))) qe_int (nomark _))
    (qss_one (qs_ret (qo_thw qe_non)))
    qss_nil)
    (qss_one (qs_ret (qo_thw (qe_op2 op_mulW o_mul (qe_ix ix_itm o_item.op (qe_fldV (tab := ["Flat"]) (ft_offset T) (pv 0)) qe_int (by intro _ _; rfl)) (qe_op2 op_fdivZ o_fdiv qe_int (qe_ix ix_itm o_item.op (qe_fldV (tab := ["Flat"]) (ft_offset T) (pv 0)) qe_int (by intro _ _; rfl))))))))
theorem sc__whole_at : FnScope ["a", "b", "worth", "one", "two", "q", "part"] ["a", "b", "worth"] (defScope s__whole_at) := ⟨rfl, rfl, rfl, by decide +kernel, rfl, by decide +kernel, by decide +kernel⟩
theorem b__whole_at (T : Fx K mg Z) : Binds K Z.fd__whole_at ["a", "b", "worth"] [] := T.d__whole_at.bindsN fun _ _ _ _ _ _ us hl => match us, hl with | [_, _, _], _ => rfl
theorem ok__whole_at (T : Fx K mg Z) : FnOk P w K mg base (L2.CX P w) 1 (He.ga K "_whole_at") Z.fd__whole_at ["a", "b", "worth"] (spF K 3 f__whole_at) := fn_okF (k := 0) (m := m__whole_at) T.d__whole_at sc__whole_at rfl rfl fun cdv A outer s H E hr =>
  (qss_cons (qs_set sc__whole_at.nd (i := 3) rfl (by first | exact Or.inl rfl | exact Or.inr rfl) (qo_thw (qe_tup (qa_cons (qe_var (pv 0)) (qa_cons qe_int (qa_cons qe_int qa_nil))))))
    (qss_cons (qs_set sc__whole_at.nd (i := 4) rfl (by first | exact Or.inl rfl | exact Or.inr rfl) (qo_thw (qe_tup (qa_cons (qe_var (pv 1)) (qa_cons qe_int (qa_cons qe_int qa_nil))))))
    (qss_cons (qs_forget (is := [5, 4]) (qs_while (n := 200) (passes_of rfl) (qt_cmp (op_neD (hru hr)) o_ne (qe_ixV ix_itm o_item (pv 4) qe_int (by intro _ _; rfl)) qe_int (nomark _))
    (qss_cons (qs_set sc__whole_at.nd (i := 5) rfl (by first | exact Or.inl rfl | exact Or.inr rfl) (qo_thw (qe_op2 op_fdivZ o_fdiv (qe_ixV ix_itm o_item (pv 3) qe_int (by intro _ _; rfl)) (qe_ixV ix_itm o_item (pv 4) qe_int (by intro _ _; rfl)))))
    (qss_one (qs_forget (is := [5]) (qs_par (i := 3) (j := 4) rfl sc__whole_at.nd rfl rfl (by decide) rfl rfl (qa_cons (qe_var (pv 4)) (qa_cons (qe_tup (qa_cons (qe_op2 op_sub o_sub (qe_ixV ix_itm o_item (pv 3) qe_int (by intro _ _; rfl)) (qe_op2 op_mulW o_mul (qe_var (pv 5)) (qe_ixV ix_itm o_item (pv 4) qe_int (by intro _ _; rfl)))) (qa_cons (qe_op2 op_sub o_sub (qe_ixV ix_itm o_item (pv 3) qe_int (by intro _ _; rfl)) (qe_op2 op_mulW o_mul (qe_var (pv 5)) (qe_ixV ix_itm o_item (pv 4) qe_int (by intro _ _; rfl)))) (qa_cons (qe_op2 op_sub o_sub (qe_ixV ix_itm o_item (pv 3) qe_int (by intro _ _; rfl)) (qe_op2 op_mulW o_mul (qe_var (pv 5)) (qe_ixV ix_itm o_item (pv 4) qe_int (by intro _ _; rfl)))) qa_nil)))) qa_nil)) (by rfl)))))))
    (qss_cons (qs_set sc__whole_at.nd (i := 6) rfl (by first | exact Or.inl rfl | exact Or.inr rfl) (qo_thw (qe_op2 op_mulW o_mul (qe_var (pv 2)) (qe_ixV ix_itm o_item (pv 3) qe_int (by intro _ _; rfl)))))
    (qss_one (qs_ret (qo_thw (qe_tup (qa_cons (qe_op2 op_mulW o_mul (qe_ixV ix_itm o_item (pv 3) qe_int (by intro _ _; rfl)) (qe_var (pv 6))) (qa_cons (qe_op2 op_mulW o_mul (qe_ixV ix_itm o_item (pv 3) qe_int (by intro _ _; rfl)) (qe_var (pv 6))) qa_nil))))))))))
theorem sc__is_whole_point : FnScope ["p"] ["p"] (defScope s__is_whole_point) := ⟨rfl, rfl, rfl, by decide +kernel, rfl, by decide +kernel, by decide +kernel⟩
theorem b__is_whole_point (T : Fx K mg Z) : Binds K Z.fd__is_whole_point ["p"] [] := T.d__is_whole_point.bindsN fun _ _ _ _ _ _ us hl => match us, hl with | [_], _ => rfl
theorem ok__is_whole_point (T : Fx K mg Z) : FnOk P w K mg base (L2.CX P w) 1 (He.ga K "_is_whole_point") Z.fd__is_whole_point ["p"] (spF K 1 f__is_whole_point) := fn_okF (k := 0) (m := m__is_whole_point) T.d__is_whole_point sc__is_whole_point rfl rfl fun cdv A outer s H E hr =>
  (qss_one (qs_ret (qo_thw (qe_and (qe_cmp (op_eqD (hru hr)) o_eq (qe_ix ix_itm o_item.op (qe_ixV ix_itm o_item (pv 0) qe_int (by intro _ _; rfl)) qe_int (by intro _ _; rfl)) qe_int (nomark _)) (qe_one (qe_cmp (op_eqD (hru hr)) o_eq (qe_ix ix_itm o_item.op (qe_ixV ix_itm o_item (pv 0) qe_int (by intro _ _; rfl)) qe_int (by intro _ _; rfl)) qe_int (nomark _)))))))
theorem sc__law_stream : FnScope ["script", "drawn", "at", "cell", "below", "turn", "seed"] ["script"] (defScope s__law_stream) := ⟨rfl, rfl, rfl, by decide +kernel, rfl, by decide +kernel, by decide +kernel⟩
theorem b__law_stream (T : Fx K mg Z) : Binds K Z.fd__law_stream ["script"] [] := T.d__law_stream.bindsN fun _ _ _ _ _ _ us hl => match us, hl with | [_], _ => rfl
theorem ok__law_stream (T : Fx K mg Z) : FnOk P w K mg base (L2.CX P w) 1 (He.ga K "_law_stream") Z.fd__law_stream ["script"] (spF K 1 f__law_stream) := fn_okF (k := 0) (m := m__law_stream) T.d__law_stream sc__law_stream rfl rfl fun cdv A outer s H E hr =>
  (qss_cons (qs_set sc__law_stream.nd (i := 1) rfl (by first | exact Or.inl rfl | exact Or.inr rfl) (qo_lst qa_nil))
    (qss_cons (qs_forget (is := [2, 3, 4, 5, 6]) (qs_for (passes_of rfl) rfl (qi_range1 rfl T.b_range (qe_callB (call_min2 rfl) o_min2 rfl T.b_min (by decide +kernel) (qa_cons (qe_callV1 call_len_seq o_len rfl T.b_len (by decide +kernel) (pv 0)) (qa_cons qe_int qa_nil)))) (qg_name sc__law_stream.nd (i := 2) rfl (by first | exact Or.inl rfl | exact Or.inr rfl))
    (qss_cons (qs_set sc__law_stream.nd (i := 3) rfl (by first | exact Or.inl rfl | exact Or.inr rfl) (qo_thw (qe_ty1 call_int1 o_int rfl T.b_int (by decide +kernel) (qe_ixV ix_itm o_item (pv 0) (qe_var (pv 2)) (by intro _ _; rfl)))))
    (qss_cons (qs_set sc__law_stream.nd (i := 4) rfl (by first | exact Or.inl rfl | exact Or.inr rfl) (qo_thw qe_int))
    (qss_cons (qs_if (qt_cmp op_lt o_lt (qe_var (pv 3)) qe_int (nomark _))
    (qss_cons (qs_set sc__law_stream.nd (i := 3) rfl (by first | exact Or.inl rfl | exact Or.inr rfl) (qo_thw (qe_un un_neg o_neg (qe_var (pv 3)))))
    (qss_one (qs_set sc__law_stream.nd (i := 4) rfl (by first | exact Or.inl rfl | exact Or.inr rfl) (qo_thw qe_int))))
    qss_nil)
    (qss_one (qs_forget (is := [2, 3, 4, 5, 6]) (qs_forget (is := [5, 3, 6]) (qs_if (qt_cmp op_ge o_ge (qe_var (pv 3)) (qe_op2 op_pow o_pow qe_int qe_int) (nomark _))
    (qss_one (qs_forget (is := [5, 3]) (qs_for (passes_of rfl) rfl (qi_range1 rfl T.b_range qe_int) (qg_name sc__law_stream.nd (i := 5) rfl (by first | exact Or.inl rfl | exact Or.inr rfl))
    (qss_one (qs_forget (is := [5]) (qs_if (qt_cmp op_gt o_gt (qe_var (pv 3)) qe_int (nomark _))
    (qss_cons (qs_expr (qo_thw (qe_append (pe_bm PySem.F.plainAttrs_list PySem.F.slot_list_append PySem.F.type_list_append mt_append (pv 1) (pa_cons (qe_op2 op_modN o_mod (qe_ty1 call_int1 o_int rfl T.b_int (by decide +kernel) (qe_var (pv 3))) qe_int) pa_nil)))))
    (qss_one (qs_set sc__law_stream.nd (i := 3) rfl (by first | exact Or.inl rfl | exact Or.inr rfl) (qo_thw (qe_op2 op_fdivZ o_fdiv (qe_var (pv 3)) qe_int)))))
    qss_nil))))))
    (qss_cons (qs_set sc__law_stream.nd (i := 6) rfl (by first | exact Or.inl rfl | exact Or.inr rfl) (qo_thw (qe_op2 op_modN o_mod (qe_ty1 call_int1 o_int rfl T.b_int (by decide +kernel) (qe_op2 op_addA o_add (qe_op2 op_addA o_add (qe_op2 op_addA o_add (qe_op2 op_mulW o_mul (qe_var (pv 3)) qe_int) (qe_op2 op_mulW o_mul (qe_var (pv 2)) qe_int)) (qe_op2 op_mulW o_mul (qe_var (pv 4)) qe_int)) qe_int)) qe_int)))
    (qss_one (qs_forget (is := [5, 6]) (qs_for (passes_of rfl) rfl (qi_range1 rfl T.b_range qe_int) (qg_name sc__law_stream.nd (i := 5) rfl (by first | exact Or.inl rfl | exact Or.inr rfl))
    (qss_cons (qs_set sc__law_stream.nd (i := 6) rfl (by first | exact Or.inl rfl | exact Or.inr rfl) (qo_thw (qe_op2 op_modN o_mod (qe_ty1 call_int1 o_int rfl T.b_int (by decide +kernel) (qe_op2 op_addA o_add (qe_op2 op_addA o_add (qe_op2 op_addA o_add (qe_op2 op_mulW o_mul (qe_var (pv 6)) (qe_var (pv 6))) (qe_op2 op_mulW o_mul (qe_var (pv 2)) qe_int)) (qe_op2 op_mulW o_mul (qe_var (pv 5)) qe_int)) qe_int)) qe_int)))
    (qss_one (qs_forget (is := [5]) (qs_expr (qo_thw (qe_append (pe_bm PySem.F.plainAttrs_list PySem.F.slot_list_append PySem.F.type_list_append mt_append (pv 1) (pa_cons (qe_var (pv 6)) pa_nil)))))))))))))))))))))
    (qss_cons (qs_expr (qo_thw (qe_reverse (pe_bm0 PySem.F.plainAttrs_list PySem.F.slot_list_reverse PySem.F.type_list_reverse mt_reverse (pv 1)))))
    (qss_one (qs_ret (qo_move (pv 1)))))))
theorem sc__law_take : FnScope ["drawn", "many"] ["drawn", "many"] (defScope s__law_take) := ⟨rfl, rfl, rfl, by decide +kernel, rfl, by decide +kernel, by decide +kernel⟩
theorem b__law_take (T : Fx K mg Z) : Binds K Z.fd__law_take ["drawn", "many"] [] := T.d__law_take.bindsN fun _ _ _ _ _ _ us hl => match us, hl with | [_, _], _ => rfl
theorem ok__law_take (T : Fx K mg Z) : FnOk P w K mg base (L2.CX P w) 1 (He.ga K "_law_take") Z.fd__law_take ["drawn", "many"] (spF K 2 f__law_take) := fn_okF (k := 0) (m := m__law_take) T.d__law_take sc__law_take rfl rfl fun cdv A outer s H E hr =>
  (qss_cons (qs_if (qt_cmp (op_eqD (hru hr)) o_eq (qe_callV1 call_len_seq o_len rfl T.b_len (by decide +kernel) (pv 0)) qe_int (nomark _))
    (qss_one (qs_ret (qo_thw qe_int)))
    qss_nil)
    (qss_one (qs_ret (qo_thw (qe_op2 op_modN o_mod (qe_ty1 call_int1 o_int rfl T.b_int (by decide +kernel) (qe_pop (pe_bm0 PySem.F.plainAttrs_list PySem.F.slot_list_pop PySem.F.type_list_pop mt_pop (pv 0)))) (qe_var (pv 1)))))))
theorem sc__law_whole : FnScope ["value"] ["value"] (defScope s__law_whole) := ⟨rfl, rfl, rfl, by decide +kernel, rfl, by decide +kernel, by decide +kernel⟩
theorem b__law_whole (T : Fx K mg Z) : Binds K Z.fd__law_whole ["value"] [] := T.d__law_whole.bindsN fun _ _ _ _ _ _ us hl => match us, hl with | [_], _ => rfl
theorem ok__law_whole (T : Fx K mg Z) : FnOk P w K mg base (L2.CX P w) 1 (He.ga K "_law_whole") Z.fd__law_whole ["value"] (spF K 1 f__law_whole) := fn_okF (k := 0) (m := m__law_whole) T.d__law_whole sc__law_whole rfl rfl fun cdv A outer s H E hr =>
  (qss_one (qs_ret (qo_thw (qe_and (qe_isinst (pe_bltn (v := .ty "int") rfl T.b_int (by decide +kernel) rfl) (fun _ _ _ q => q) rfl T.b_isinstance (qe_var (pv 0))) (qe_one (qe_not (qe_isinst (pe_bltn (v := .ty "bool") rfl T.b_bool (by decide +kernel) rfl) (fun _ _ _ q => q) rfl T.b_isinstance (qe_var (pv 0)))))))))
theorem sc__law_divisor : FnScope ["one", "other", "high", "low", "turn", "rest"] ["one", "other"] (defScope s__law_divisor) := ⟨rfl, rfl, rfl, by decide +kernel, rfl, by decide +kernel, by decide +kernel⟩
theorem b__law_divisor (T : Fx K mg Z) : Binds K Z.fd__law_divisor ["one", "other"] [] := T.d__law_divisor.bindsN fun _ _ _ _ _ _ us hl => match us, hl with | [_, _], _ => rfl
theorem ok__law_divisor (T : Fx K mg Z) : FnOk P w K mg base (L2.CX P w) 1 (He.ga K "_law_divisor") Z.fd__law_divisor ["one", "other"] (spF K 2 f__law_divisor) := fn_okF (k := 0) (m := m__law_divisor) T.d__law_divisor sc__law_divisor rfl rfl fun cdv A outer s H E hr =>
  (qss_cons (qs_set sc__law_divisor.nd (i := 2) rfl (by first | exact Or.inl rfl | exact Or.inr rfl) (qo_thw (qe_call1 call_abs o_abs rfl T.b_abs (by decide +kernel) (qe_var (pv 0)))))
    (qss_cons (qs_set sc__law_divisor.nd (i := 3) rfl (by first | exact Or.inl rfl | exact Or.inr rfl) (qo_thw (qe_call1 call_abs o_abs rfl T.b_abs (by decide +kernel) (qe_var (pv 1)))))
    (qss_cons (qs_forget (is := [4, 5, 3]) (qs_for (passes_of rfl) rfl (qi_range1 rfl T.b_range (qe_op2 op_addA o_add (qe_op2 op_mulW o_mul qe_int (qe_bit (qe_var (pv 3)))) qe_int)) (qg_name sc__law_divisor.nd (i := 4) rfl (by first | exact Or.inl rfl | exact Or.inr rfl))
    (qss_one (qs_forget (is := [4, 5]) (qs_forget (is := [5]) (qs_if (qt_cmp op_gt o_gt (qe_var (pv 3)) qe_int (nomark _))
    (qss_cons (qs_set sc__law_divisor.nd (i := 5) rfl (by first | exact Or.inl rfl | exact Or.inr rfl) (qo_thw (qe_op2 op_modN o_mod (qe_ty1 call_int1 o_int rfl T.b_int (by decide +kernel) (qe_var (pv 2))) (qe_var (pv 3)))))
    (qss_cons (qs_set sc__law_divisor.nd (i := 2) rfl (by first | exact Or.inl rfl | exact Or.inr rfl) (qo_move (pv 3)))
    (qss_one (qs_set sc__law_divisor.nd (i := 3) rfl (by first | exact Or.inl rfl | exact Or.inr rfl) (qo_move (pv 5))))))
    qss_nil))))))
    (qss_one (qs_ret (qo_move (pv 2)))))))
theorem sc__law_point : FnScope ["numbers", "number"] ["numbers"] (defScope s__law_point) := ⟨rfl, rfl, rfl, by decide +kernel, rfl, by decide +kernel, by decide +kernel⟩
theorem b__law_point (T : Fx K mg Z) : Binds K Z.fd__law_point ["numbers"] [] := T.d__law_point.bindsN fun _ _ _ _ _ _ us hl => match us, hl with | [_], _ => rfl
theorem ok__law_point (T : Fx K mg Z) : FnOk P w K mg base (L2.CX P w) 1 (He.ga K "_law_point") Z.fd__law_point ["numbers"] (spF K 1 f__law_point) := fn_okF (k := 0) (m := m__law_point) T.d__law_point sc__law_point rfl rfl fun cdv A outer s H E hr =>
  (qss_one (qs_ret (qo_thw (qe_ty1 call_tuple_of o_tuple.op rfl T.b_tuple (by decide +kernel) (qe_frz (qo_lc (own := [("number", 1)]) rfl sc__law_point.nd (by decide) (qi_seq (qe_var (pv 0))) (blkOk_by (own := [("number", 1)]) (N := ["numbers", "number"]) (sc := defScope s__law_point) (by decide +kernel)) (fun _ _ _ _ _ => (qgw_name sc__law_point.nd (i := 1) rfl (by first | exact Or.inl rfl | exact Or.inr rfl) (by decide))) (fun _ _ _ _ _ => qts_nil) (fun _ _ _ _ _ => (qe_tup (qa_cons (qe_var (pv 1)) (qa_cons qe_int qa_nil))))))))))
theorem sc__law_is_whole : FnScope ["point"] ["point"] (defScope s__law_is_whole) := ⟨rfl, rfl, rfl, by decide +kernel, rfl, by decide +kernel, by decide +kernel⟩
theorem b__law_is_whole (T : Fx K mg Z) : Binds K Z.fd__law_is_whole ["point"] [] := T.d__law_is_whole.bindsN fun _ _ _ _ _ _ us hl => match us, hl with | [_], _ => rfl
theorem ok__law_is_whole (T : Fx K mg Z) : FnOk P w K mg base (L2.CX P w) 1 (He.ga K "_law_is_whole") Z.fd__law_is_whole ["point"] (spF K 1 f__law_is_whole) := fn_okF (k := 0) (m := m__law_is_whole) T.d__law_is_whole sc__law_is_whole rfl rfl fun cdv A outer s H E hr =>
  (qss_one (qs_ret (qo_thw (qe_and (qe_cmp (op_eqD (hru hr)) o_eq (qe_ix ix_itm o_item.op (qe_ixV ix_itm o_item (pv 0) qe_int (by intro _ _; rfl)) qe_int (by intro _ _; rfl)) qe_int (nomark _)) (qe_one (qe_cmp (op_eqD (hru hr)) o_eq (qe_ix ix_itm o_item.op (qe_ixV ix_itm o_item (pv 0) qe_int (by intro _ _; rfl)) qe_int (by intro _ _; rfl)) qe_int (nomark _)))))))
theorem sc_Flat_length2 : FnScope ["self", "a"] ["self"] (defScope s_Flat_length2) := ⟨rfl, rfl, rfl, by decide +kernel, rfl, by decide +kernel, by decide +kernel⟩
theorem b_Flat_length2 (T : Fx K mg Z) : Binds K Z.fd_Flat_length2 ["self"] [] := T.d_Flat_length2.bindsN fun _ _ _ _ _ _ us hl => match us, hl with | [_], _ => rfl
theorem ok_Flat_length2 (T : Fx K mg Z) : FnOk P w K mg base (L2.CX P w) 1 (pgA "Flat" "length2" K) Z.fd_Flat_length2 ["self"] (spF K 1 f_Flat_length2) := fn_okF (k := 0) (m := m_Flat_length2) T.d_Flat_length2 sc_Flat_length2 rfl rfl fun cdv A outer s H E hr =>
  (qss_one (qs_ret (qo_thw (qe_call1 (cr_sum rfl) o_sum.op rfl T.b_sum (by decide +kernel) (qe_frz (qo_lc (own := [("a", 1)]) rfl sc_Flat_length2.nd (by decide) (qi_seq (qe_fldV (tab := ["Flat"]) (ft_direction T) (pv 0))) (blkOk_by (own := [("a", 1)]) (N := ["self", "a"]) (sc := defScope s_Flat_length2) (by decide +kernel)) (fun _ _ _ _ _ => (qgw_name sc_Flat_length2.nd (i := 1) rfl (by first | exact Or.inl rfl | exact Or.inr rfl) (by decide))) (fun _ _ _ _ _ => qts_nil) (fun _ _ _ _ _ => (qe_op2 op_mulW o_mul (qe_var (pv 1)) (qe_var (pv 1))))))))))
theorem sc_is_fraction : FnScope ["value"] ["value"] (defScope s_is_fraction) := ⟨rfl, rfl, rfl, by decide +kernel, rfl, by decide +kernel, by decide +kernel⟩
theorem b_is_fraction (T : Fx K mg Z) : Binds K Z.fd_is_fraction ["value"] [] := T.d_is_fraction.bindsN fun _ _ _ _ _ _ us hl => match us, hl with | [_], _ => rfl
theorem ok_is_fraction (T : Fx K mg Z) : FnOk P w K mg base (L2.CX P w) 2 (He.ga K "is_fraction") Z.fd_is_fraction ["value"] (spF K 1 f_is_fraction) := fn_okF (k := 1) (m := m_is_fraction) T.d_is_fraction sc_is_fraction rfl rfl fun cdv A outer s H E hr =>
  (qss_cons (qs_if (qw_t (qw_or (qt_not (qt_val (qe_isinst (pe_bltn (v := .ty "tuple") rfl T.b_tuple (by decide +kernel) rfl) (fun _ _ _ q => q) rfl T.b_isinstance (qe_var (pv 0))))) (qw_or1 (qt_cmp (op_neD (hru hr)) o_ne (qe_callV1 call_len_seq o_len rfl T.b_len (by decide +kernel) (pv 0)) qe_int (nomark _)))))
    (qss_one (qs_ret (qo_thw qe_bl)))
    qss_nil)
    (qss_cons (qs_if (qw_t (qw_or (qt_not (qt_val (qe_frz (qo_call (ok_is_whole T) (hr.mono (by decide)) rfl T.g_is_whole T.d_is_whole.kp (b_is_whole T) .nil (fun _ => rfl) (takes_of rfl rfl rfl rfl) rfl (qa_cons (qe_ixV ix_itm o_item (pv 0) qe_int (by intro _ _; rfl)) qa_nil) (lenA_cons lenA_nil))))) (qw_or (qt_not (qt_val (qe_frz (qo_call (ok_is_whole T) (hr.mono (by decide)) rfl T.g_is_whole T.d_is_whole.kp (b_is_whole T) .nil (fun _ => rfl) (takes_of rfl rfl rfl rfl) rfl (qa_cons (qe_ixV ix_itm o_item (pv 0) qe_int (by intro _ _; rfl)) qa_nil) (lenA_cons lenA_nil))))) (qw_or1 (qt_cmp op_lt o_lt (qe_ixV ix_itm o_item (pv 0) qe_int (by intro _ _; rfl)) qe_int (nomark _))))))
    (qss_one (qs_ret (qo_thw qe_bl)))
    qss_nil)
    (qss_one (qs_ret (qo_thw (qe_or (qe_cmp (op_eqD (hru hr)) o_eq (qe_ixV ix_itm o_item (pv 0) qe_int (by intro _ _; rfl)) qe_int (nomark _)) (qe_one (qe_cmp (op_eqD (hru hr)) o_eq (qe_callFun cr_gcd o_gcd rfl T.f_gcd (qa_cons (qe_ixV ix_itm o_item (pv 0) qe_int (by intro _ _; rfl)) (qa_cons (qe_ixV ix_itm o_item (pv 0) qe_int (by intro _ _; rfl)) qa_nil))) qe_int (nomark _)))))))))
theorem sc_plus : FnScope ["f", "g"] ["f", "g"] (defScope s_plus) := ⟨rfl, rfl, rfl, by decide +kernel, rfl, by decide +kernel, by decide +kernel⟩
theorem b_plus (T : Fx K mg Z) : Binds K Z.fd_plus ["f", "g"] [] := T.d_plus.bindsN fun _ _ _ _ _ _ us hl => match us, hl with | [_, _], _ => rfl
theorem ok_plus (T : Fx K mg Z) : FnOk P w K mg base (L2.CX P w) 2 (He.ga K "plus") Z.fd_plus ["f", "g"] (spF K 2 f_plus) := fn_okF (k := 1) (m := m_plus) T.d_plus sc_plus rfl rfl fun cdv A outer s H E hr =>
  (qss_cons (qs_if (qw_t (qw_and (qt_cmp (op_eqD (hru hr)) o_eq (qe_ixV ix_itm o_item (pv 0) qe_int (by intro _ _; rfl)) qe_int (nomark _)) (qw_and1 (qt_cmp (op_eqD (hru hr)) o_eq (qe_ixV ix_itm o_item (pv 1) qe_int (by intro _ _; rfl)) qe_int (nomark _)))))
    (qss_one (qs_ret (qo_thw (qe_tup (qa_cons (qe_op2 op_addA o_add (qe_ixV ix_itm o_item (pv 0) qe_int (by intro _ _; rfl)) (qe_ixV ix_itm o_item (pv 1) qe_int (by intro _ _; rfl))) (qa_cons qe_int qa_nil))))))
    qss_nil)
    (qss_one (qs_ret (qo_call (ok_lowest T) (hr.mono (by decide)) rfl T.g_lowest T.d_lowest.kp (b_lowest T) .nil (fun _ => rfl) (takes_of rfl rfl rfl rfl) rfl (qa_cons (qe_op2 op_addA o_add (qe_op2 op_mulW o_mul (qe_ixV ix_itm o_item (pv 0) qe_int (by intro _ _; rfl)) (qe_ixV ix_itm o_item (pv 1) qe_int (by intro _ _; rfl))) (qe_op2 op_mulW o_mul (qe_ixV ix_itm o_item (pv 1) qe_int (by intro _ _; rfl)) (qe_ixV ix_itm o_item (pv 0) qe_int (by intro _ _; rfl)))) (qa_cons (qe_op2 op_mulW o_mul (qe_ixV ix_itm o_item (pv 0) qe_int (by intro _ _; rfl)) (qe_ixV ix_itm o_item (pv 1) qe_int (by intro _ _; rfl))) qa_nil)) (lenA_cons (lenA_cons lenA_nil))))))
theorem sc_minus : FnScope ["f", "g"] ["f", "g"] (defScope s_minus) := ⟨rfl, rfl, rfl, by decide +kernel, rfl, by decide +kernel, by decide +kernel⟩
theorem b_minus (T : Fx K mg Z) : Binds K Z.fd_minus ["f", "g"] [] := T.d_minus.bindsN fun _ _ _ _ _ _ us hl => match us, hl with | [_, _], _ => rfl
theorem ok_minus (T : Fx K mg Z) : FnOk P w K mg base (L2.CX P w) 2 (He.ga K "minus") Z.fd_minus ["f", "g"] (spF K 2 f_minus) := fn_okF (k := 1) (m := m_minus) T.d_minus sc_minus rfl rfl fun cdv A outer s H E hr =>
  (qss_cons (qs_if (qw_t (qw_and (qt_cmp (op_eqD (hru hr)) o_eq (qe_ixV ix_itm o_item (pv 0) qe_int (by intro _ _; rfl)) qe_int (nomark _)) (qw_and1 (qt_cmp (op_eqD (hru hr)) o_eq (qe_ixV ix_itm o_item (pv 1) qe_int (by intro _ _; rfl)) qe_int (nomark _)))))
    (qss_one (qs_ret (qo_thw (qe_tup (qa_cons (qe_op2 op_sub o_sub (qe_ixV ix_itm o_item (pv 0) qe_int (by intro _ _; rfl)) (qe_ixV ix_itm o_item (pv 1) qe_int (by intro _ _; rfl))) (qa_cons qe_int qa_nil))))))
    qss_nil)
    (qss_one (qs_ret (qo_call (ok_lowest T) (hr.mono (by decide)) rfl T.g_lowest T.d_lowest.kp (b_lowest T) .nil (fun _ => rfl) (takes_of rfl rfl rfl rfl) rfl (qa_cons (qe_op2 op_sub o_sub (qe_op2 op_mulW o_mul (qe_ixV ix_itm o_item (pv 0) qe_int (by intro _ _; rfl)) (qe_ixV ix_itm o_item (pv 1) qe_int (by intro _ _; rfl))) (qe_op2 op_mulW o_mul (qe_ixV ix_itm o_item (pv 1) qe_int (by intro _ _; rfl)) (qe_ixV ix_itm o_item (pv 0) qe_int (by intro _ _; rfl)))) (qa_cons (qe_op2 op_mulW o_mul (qe_ixV ix_itm o_item (pv 0) qe_int (by intro _ _; rfl)) (qe_ixV ix_itm o_item (pv 1) qe_int (by intro _ _; rfl))) qa_nil)) (lenA_cons (lenA_cons lenA_nil))))))
theorem sc_times : FnScope ["f", "g"] ["f", "g"] (defScope s_times) := ⟨rfl, rfl, rfl, by decide +kernel, rfl, by decide +kernel, by decide +kernel⟩
theorem b_times (T : Fx K mg Z) : Binds K Z.fd_times ["f", "g"] [] := T.d_times.bindsN fun _ _ _ _ _ _ us hl => match us, hl with | [_, _], _ => rfl
theorem ok_times (T : Fx K mg Z) : FnOk P w K mg base (L2.CX P w) 2 (He.ga K "times") Z.fd_times ["f", "g"] (spF K 2 f_times) := fn_okF (k := 1) (m := m_times) T.d_times sc_times rfl rfl fun cdv A outer s H E hr =>
  (qss_cons (qs_if (qw_t (qw_and (qt_cmp (op_eqD (hru hr)) o_eq (qe_ixV ix_itm o_item (pv 0) qe_int (by intro _ _; rfl)) qe_int (nomark _)) (qw_and1 (qt_cmp (op_eqD (hru hr)) o_eq (qe_ixV ix_itm o_item (pv 1) qe_int (by intro _ _; rfl)) qe_int (nomark _)))))
    (qss_one (qs_ret (qo_thw (qe_tup (qa_cons (qe_op2 op_mulW o_mul (qe_ixV ix_itm o_item (pv 0) qe_int (by intro _ _; rfl)) (qe_ixV ix_itm o_item (pv 1) qe_int (by intro _ _; rfl))) (qa_cons qe_int qa_nil))))))
    qss_nil)
    (qss_one (qs_ret (qo_call (ok_lowest T) (hr.mono (by decide)) rfl T.g_lowest T.d_lowest.kp (b_lowest T) .nil (fun _ => rfl) (takes_of rfl rfl rfl rfl) rfl (qa_cons (qe_op2 op_mulW o_mul (qe_ixV ix_itm o_item (pv 0) qe_int (by intro _ _; rfl)) (qe_ixV ix_itm o_item (pv 1) qe_int (by intro _ _; rfl))) (qa_cons (qe_op2 op_mulW o_mul (qe_ixV ix_itm o_item (pv 0) qe_int (by intro _ _; rfl)) (qe_ixV ix_itm o_item (pv 1) qe_int (by intro _ _; rfl))) qa_nil)) (lenA_cons (lenA_cons lenA_nil))))))
theorem sc_dotted : FnScope ["row", "other", "up", "low", "f", "g", "part"] ["row", "other"] (defScope s_dotted) := ⟨rfl, rfl, rfl, by decide +kernel, rfl, by decide +kernel, by decide +kernel⟩
theorem b_dotted (T : Fx K mg Z) : Binds K Z.fd_dotted ["row", "other"] [] := T.d_dotted.bindsN fun _ _ _ _ _ _ us hl => match us, hl with | [_, _], _ => rfl
theorem ok_dotted (T : Fx K mg Z) : FnOk P w K mg base (L2.CX P w) 2 (He.ga K "dotted") Z.fd_dotted ["row", "other"] (spF K 2 f_dotted) := fn_okF (k := 1) (m := m_dotted) T.d_dotted sc_dotted rfl rfl fun cdv A outer s H E hr =>
  (qss_cons (qs_set sc_dotted.nd (i := 2) rfl (by first | exact Or.inl rfl | exact Or.inr rfl) (qo_thw qe_int))
    (qss_cons (qs_set sc_dotted.nd (i := 3) rfl (by first | exact Or.inl rfl | exact Or.inr rfl) (qo_thw qe_int))
    (qss_cons (qs_forget (is := [4, 5, 6]) (qs_for (passes_of rfl) rfl (qi_zipM rfl T.b_zip (qe_var (pv 0)) (qe_var (pv 1))) (qg_tup rfl (qgs_cons (qg_name sc_dotted.nd (i := 4) rfl (by first | exact Or.inl rfl | exact Or.inr rfl)) (qgs_cons (qg_name sc_dotted.nd (i := 5) rfl (by first | exact Or.inl rfl | exact Or.inr rfl)) qgs_nil)))
    (qss_cons (qs_set sc_dotted.nd (i := 6) rfl (by first | exact Or.inl rfl | exact Or.inr rfl) (qo_thw (qe_op2 op_mulW o_mul (qe_ixV ix_itm o_item (pv 4) qe_int (by intro _ _; rfl)) (qe_ixV ix_itm o_item (pv 5) qe_int (by intro _ _; rfl)))))
    (qss_one (qs_forget (is := [4, 5, 6]) (qs_if (qt_cmp (op_eqD (hru hr)) o_eq (qe_var (pv 6)) (qe_var (pv 3)) (nomark _))
    (qss_one (qs_set sc_dotted.nd (i := 2) rfl (by first | exact Or.inl rfl | exact Or.inr rfl) (qo_thw (qe_op2 op_addA o_add (qe_var (pv 2)) (qe_op2 op_mulW o_mul (qe_ixV ix_itm o_item (pv 4) qe_int (by intro _ _; rfl)) (qe_ixV ix_itm o_item (pv 5) qe_int (by intro _ _; rfl)))))))
    (qss_cons (qs_set sc_dotted.nd (i := 2) rfl (by first | exact Or.inl rfl | exact Or.inr rfl) (qo_thw (qe_op2 op_addA o_add (qe_op2 op_mulW o_mul (qe_var (pv 2)) (qe_var (pv 6))) (qe_op2 op_mulW o_mul (qe_op2 op_mulW o_mul (qe_ixV ix_itm o_item (pv 4) qe_int (by intro _ _; rfl)) (qe_ixV ix_itm o_item (pv 5) qe_int (by intro _ _; rfl))) (qe_var (pv 3))))))
    (qss_one (qs_set sc_dotted.nd (i := 3) rfl (by first | exact Or.inl rfl | exact Or.inr rfl) (qo_thw (qe_op2 op_mulW o_mul (qe_var (pv 3)) (qe_var (pv 6)))))))))))))
    (qss_one (qs_ret (qo_call (ok_lowest T) (hr.mono (by decide)) rfl T.g_lowest T.d_lowest.kp (b_lowest T) .nil (fun _ => rfl) (takes_of rfl rfl rfl rfl) rfl (qa_cons (qe_var (pv 2)) (qa_cons (qe_var (pv 3)) qa_nil)) (lenA_cons (lenA_cons lenA_nil))))))))
theorem sc_common_low : FnScope ["row", "low", "f"] ["row"] (defScope s_common_low) := ⟨rfl, rfl, rfl, by decide +kernel, rfl, by decide +kernel, by decide +kernel⟩
theorem b_common_low (T : Fx K mg Z) : Binds K Z.fd_common_low ["row"] [] := T.d_common_low.bindsN fun _ _ _ _ _ _ us hl => match us, hl with | [_], _ => rfl
theorem ok_common_low (T : Fx K mg Z) : FnOk P w K mg base (L2.CX P w) 2 (He.ga K "common_low") Z.fd_common_low ["row"] (spF K 1 f_common_low) := fn_okF (k := 1) (m := m_common_low) T.d_common_low sc_common_low rfl rfl fun cdv A outer s H E hr =>
  (qss_cons (qs_set sc_common_low.nd (i := 1) rfl (by first | exact Or.inl rfl | exact Or.inr rfl) (qo_thw qe_int))
    (qss_cons (qs_forget (is := [2]) (qs_for (passes_of rfl) rfl (qi_seq (qe_var (pv 0))) (qg_name sc_common_low.nd (i := 2) rfl (by first | exact Or.inl rfl | exact Or.inr rfl))
    (qss_one (qs_forget (is := [2]) (qs_if (qt_cmp (op_neD (hru hr)) o_ne (qe_ixV ix_itm o_item (pv 2) qe_int (by intro _ _; rfl)) qe_int (nomark _))
    (qss_one (qs_set sc_common_low.nd (i := 1) rfl (by first | exact Or.inl rfl | exact Or.inr rfl) (qo_call (ok_multiple T) (hr.mono (by decide)) rfl T.g_multiple T.d_multiple.kp (b_multiple T) .nil (fun _ => rfl) (takes_of rfl rfl rfl rfl) rfl (qa_cons (qe_var (pv 1)) (qa_cons (qe_ixV ix_itm o_item (pv 2) qe_int (by intro _ _; rfl)) qa_nil)) (lenA_cons (lenA_cons lenA_nil)))))
    qss_nil)))))
    (qss_one (qs_ret (qo_move (pv 1))))))
theorem sc_common_of : FnScope ["row", "common", "lead", "a"] ["row"] (defScope s_common_of) := ⟨rfl, rfl, rfl, by decide +kernel, rfl, by decide +kernel, by decide +kernel⟩
theorem b_common_of (T : Fx K mg Z) : Binds K Z.fd_common_of ["row"] [] := T.d_common_of.bindsN fun _ _ _ _ _ _ us hl => match us, hl with | [_], _ => rfl
theorem ok_common_of (T : Fx K mg Z) : FnOk P w K mg base (L2.CX P w) 2 (He.ga K "common_of") Z.fd_common_of ["row"] (spF K 1 f_common_of) := fn_okF (k := 1) (m := m_common_of) T.d_common_of sc_common_of rfl rfl fun cdv A outer s H E hr =>
  (qss_cons (qs_set sc_common_of.nd (i := 1) rfl (by first | exact Or.inl rfl | exact Or.inr rfl) (qo_thw qe_int))
    (qss_cons (qs_set sc_common_of.nd (i := 2) rfl (by first | exact Or.inl rfl | exact Or.inr rfl) (qo_thw qe_int))
    (qss_cons (qs_forget (is := [3]) (qs_for (passes_of rfl) rfl (qi_seq (qe_var (pv 0))) (qg_name sc_common_of.nd (i := 3) rfl (by first | exact Or.inl rfl | exact Or.inr rfl))
    (qss_cons (qs_set sc_common_of.nd (i := 1) rfl (by first | exact Or.inl rfl | exact Or.inr rfl) (qo_call (ok_divisor T) (hr.mono (by decide)) rfl T.g_divisor T.d_divisor.kp (b_divisor T) .nil (fun _ => rfl) (takes_of rfl rfl rfl rfl) rfl (qa_cons (qe_var (pv 1)) (qa_cons (qe_var (pv 3)) qa_nil)) (lenA_cons (lenA_cons lenA_nil))))
    (qss_one (qs_forget (is := [3]) (qs_if (qt_cmp (op_eqD (hru hr)) o_eq (qe_var (pv 2)) qe_int (nomark _))
    (qss_one (qs_set sc_common_of.nd (i := 2) rfl (by first | exact Or.inl rfl | exact Or.inr rfl) (qo_move (pv 3))))
    qss_nil))))))
    (qss_one (qs_ret (qo_thw (qe_if (qt_cmp op_lt o_lt (qe_var (pv 2)) qe_int (nomark _)) (qe_un un_neg o_neg (qe_var (pv 1))) (qe_var (pv 1)))))))))
theorem sc__law_frac : FnScope ["upper", "lower", "part"] ["upper", "lower"] (defScope s__law_frac) := ⟨rfl, rfl, rfl, by decide +kernel, rfl, by decide +kernel, by decide +kernel⟩
theorem b__law_frac (T : Fx K mg Z) : Binds K Z.fd__law_frac ["upper", "lower"] [] := T.d__law_frac.bindsN fun _ _ _ _ _ _ us hl => match us, hl with | [_, _], _ => rfl
theorem ok__law_frac (T : Fx K mg Z) : FnOk P w K mg base (L2.CX P w) 2 (He.ga K "_law_frac") Z.fd__law_frac ["upper", "lower"] (spF K 2 f__law_frac) := fn_okF (k := 1) (m := m__law_frac) T.d__law_frac sc__law_frac rfl rfl fun cdv A outer s H E hr =>
  (qss_cons (qs_if (qt_cmp op_lt o_lt (qe_var (pv 1)) qe_int (nomark _))
    (qss_cons (qs_set sc__law_frac.nd (i := 0) rfl (by first | exact Or.inl rfl | exact Or.inr rfl) (qo_thw (qe_un un_neg o_neg (qe_var (pv 0)))))
    (qss_one (qs_set sc__law_frac.nd (i := 1) rfl (by first | exact Or.inl rfl | exact Or.inr rfl) (qo_thw (qe_un un_neg o_neg (qe_var (pv 1)))))))
    qss_nil)
    (qss_cons (qs_set sc__law_frac.nd (i := 2) rfl (by first | exact Or.inl rfl | exact Or.inr rfl) (qo_call (ok__law_divisor T) (hr.mono (by decide)) rfl T.g__law_divisor T.d__law_divisor.kp (b__law_divisor T) .nil (fun _ => rfl) (takes_of rfl rfl rfl rfl) rfl (qa_cons (qe_var (pv 1)) (qa_cons (qe_var (pv 0)) qa_nil)) (lenA_cons (lenA_cons lenA_nil))))
    (qss_one (qs_ret (qo_thw (qe_tup (qa_cons (qe_op2 op_fdivZ o_fdiv (qe_var (pv 0)) (qe_var (pv 2))) (qa_cons (qe_op2 op_fdivZ o_fdiv (qe_var (pv 1)) (qe_var (pv 2))) qa_nil))))))))
theorem sc__law_is_frac : FnScope ["value"] ["value"] (defScope s__law_is_frac) := ⟨rfl, rfl, rfl, by decide +kernel, rfl, by decide +kernel, by decide +kernel⟩
theorem b__law_is_frac (T : Fx K mg Z) : Binds K Z.fd__law_is_frac ["value"] [] := T.d__law_is_frac.bindsN fun _ _ _ _ _ _ us hl => match us, hl with | [_], _ => rfl
theorem ok__law_is_frac (T : Fx K mg Z) : FnOk P w K mg base (L2.CX P w) 2 (He.ga K "_law_is_frac") Z.fd__law_is_frac ["value"] (spF K 1 f__law_is_frac) := fn_okF (k := 1) (m := m__law_is_frac) T.d__law_is_frac sc__law_is_frac rfl rfl fun cdv A outer s H E hr =>
  (qss_cons (qs_if (qw_t (qw_or (qt_not (qt_val (qe_isinst (pe_bltn (v := .ty "tuple") rfl T.b_tuple (by decide +kernel) rfl) (fun _ _ _ q => q) rfl T.b_isinstance (qe_var (pv 0))))) (qw_or1 (qt_cmp (op_neD (hru hr)) o_ne (qe_callV1 call_len_seq o_len rfl T.b_len (by decide +kernel) (pv 0)) qe_int (nomark _)))))
    (qss_one (qs_ret (qo_thw qe_bl)))
    qss_nil)
    (qss_cons (qs_if (qw_t (qw_or (qt_not (qt_val (qe_frz (qo_call (ok__law_whole T) (hr.mono (by decide)) rfl T.g__law_whole T.d__law_whole.kp (b__law_whole T) .nil (fun _ => rfl) (takes_of rfl rfl rfl rfl) rfl (qa_cons (qe_ixV ix_itm o_item (pv 0) qe_int (by intro _ _; rfl)) qa_nil) (lenA_cons lenA_nil))))) (qw_or (qt_not (qt_val (qe_frz (qo_call (ok__law_whole T) (hr.mono (by decide)) rfl T.g__law_whole T.d__law_whole.kp (b__law_whole T) .nil (fun _ => rfl) (takes_of rfl rfl rfl rfl) rfl (qa_cons (qe_ixV ix_itm o_item (pv 0) qe_int (by intro _ _; rfl)) qa_nil) (lenA_cons lenA_nil))))) (qw_or1 (qt_cmp op_lt o_lt (qe_ixV ix_itm o_item (pv 0) qe_int (by intro _ _; rfl)) qe_int (nomark _))))))
    (qss_one (qs_ret (qo_thw qe_bl)))
    qss_nil)
    (qss_one (qs_ret (qo_thw (qe_cmp (op_eqD (hru hr)) o_eq (qe_frz (qo_call (ok__law_divisor T) (hr.mono (by decide)) rfl T.g__law_divisor T.d__law_divisor.kp (b__law_divisor T) .nil (fun _ => rfl) (takes_of rfl rfl rfl rfl) rfl (qa_cons (qe_ixV ix_itm o_item (pv 0) qe_int (by intro _ _; rfl)) (qa_cons (qe_ixV ix_itm o_item (pv 0) qe_int (by intro _ _; rfl)) qa_nil)) (lenA_cons (lenA_cons lenA_nil)))) qe_int (nomark _)))))))
theorem sc__law_direction : FnScope ["drawn", "wide", "one", "two", "part", "kind"] ["drawn", "wide"] (defScope s__law_direction) := ⟨rfl, rfl, rfl, by decide +kernel, rfl, by decide +kernel, by decide +kernel⟩
theorem b__law_direction (T : Fx K mg Z) : Binds K Z.fd__law_direction ["drawn", "wide"] [] := T.d__law_direction.bindsN fun _ _ _ _ _ _ us hl => match us, hl with | [_, _], _ => rfl
theorem ok__law_direction (T : Fx K mg Z) : FnOk P w K mg base (L2.CX P w) 2 (He.ga K "_law_direction") Z.fd__law_direction ["drawn", "wide"] (spF K 2 f__law_direction) := fn_okF (k := 1) (m := m__law_direction) T.d__law_direction sc__law_direction rfl rfl fun cdv A outer s H E hr =>
  (qss_cons (qs_set sc__law_direction.nd (i := 2) rfl (by first | exact Or.inl rfl | exact Or.inr rfl) (qo_thw (qe_op2 op_addA o_add (qe_frz (qo_callL (ok__law_take T) (hr.mono (by decide)) rfl T.g__law_take T.d__law_take.kp (b__law_take T) .nil (fun _ => rfl) (takes_of rfl rfl rfl rfl) rfl (pv 0) (qa_cons (qe_var (pv 1)) qa_nil) (lenA_cons lenA_nil))) qe_int)))
    (qss_cons (qs_set sc__law_direction.nd (i := 3) rfl (by first | exact Or.inl rfl | exact Or.inr rfl) (qo_thw (qe_op2 op_sub o_sub (qe_frz (qo_callL (ok__law_take T) (hr.mono (by decide)) rfl T.g__law_take T.d__law_take.kp (b__law_take T) .nil (fun _ => rfl) (takes_of rfl rfl rfl rfl) rfl (pv 0) (qa_cons (qe_op2 op_addA o_add (qe_op2 op_mulW o_mul qe_int (qe_var (pv 1))) qe_int) qa_nil) (lenA_cons lenA_nil))) (qe_var (pv 1)))))
    (qss_cons (qs_set sc__law_direction.nd (i := 4) rfl (by first | exact Or.inl rfl | exact Or.inr rfl) (qo_call (ok__law_divisor T) (hr.mono (by decide)) rfl T.g__law_divisor T.d__law_divisor.kp (b__law_divisor T) .nil (fun _ => rfl) (takes_of rfl rfl rfl rfl) rfl (qa_cons (qe_var (pv 2)) (qa_cons (qe_var (pv 3)) qa_nil)) (lenA_cons (lenA_cons lenA_nil))))
    (qss_cons (qs_set sc__law_direction.nd (i := 5) rfl (by first | exact Or.inl rfl | exact Or.inr rfl) (qo_callL (ok__law_take T) (hr.mono (by decide)) rfl T.g__law_take T.d__law_take.kp (b__law_take T) .nil (fun _ => rfl) (takes_of rfl rfl rfl rfl) rfl (pv 0) (qa_cons qe_int qa_nil) (lenA_cons lenA_nil)))
    (qss_cons (qs_if (qt_cmp (op_eqD (hru hr)) o_eq (qe_var (pv 5)) qe_int (nomark _))
    (qss_one (qs_ret (qo_thw (qe_tup (qa_cons qe_int (qa_cons qe_int qa_nil))))))
    qss_nil)
    (qss_cons (qs_if (qt_cmp (op_eqD (hru hr)) o_eq (qe_var (pv 5)) qe_int (nomark _))
    (qss_one (qs_ret (qo_thw (qe_tup (qa_cons qe_int (qa_cons qe_int qa_nil))))))
    qss_nil)
    (qss_one (qs_ret (qo_thw (qe_tup (qa_cons (qe_op2 op_fdivZ o_fdiv (qe_var (pv 2)) (qe_var (pv 4))) (qa_cons (qe_op2 op_fdivZ o_fdiv (qe_var (pv 3)) (qe_var (pv 4))) qa_nil))))))))))))
theorem sc_is_point : FnScope ["value", "size", "f"] ["value", "size"] (defScope s_is_point) := ⟨rfl, rfl, rfl, by decide +kernel, rfl, by decide +kernel, by decide +kernel⟩
theorem ok_is_point (T : Fx K mg Z) : FnOk P w K mg base (L2.CX P w) 3 (He.ga K "is_point") Z.fd_is_point ["value", "size"] (spF K 2 f_is_point) := fn_okF (k := 2) (m := m_is_point) T.d_is_point sc_is_point rfl rfl fun cdv A outer s H E hr =>
  (qss_cons (qs_if (qw_t (qw_or (qt_not (qt_val (qe_isinst (pe_bltn (v := .ty "tuple") rfl T.b_tuple (by decide +kernel) rfl) (fun _ _ _ q => q) rfl T.b_isinstance (qe_var (pv 0))))) (qw_or1 (qt_not (qt_chain op_le op_le o_le o_le qe_int (qe_callV1 call_len_seq o_len rfl T.b_len (by decide +kernel) (pv 0)) qe_int)))))
    (qss_one (qs_ret (qo_thw qe_bl)))
    qss_nil)
    (qss_cons (qs_if (qw_t (qw_and (qt_cmp (op_neD (hru hr)) o_ne (qe_var (pv 1)) qe_int (nomark _)) (qw_and1 (qt_cmp (op_neD (hru hr)) o_ne (qe_callV1 call_len_seq o_len rfl T.b_len (by decide +kernel) (pv 0)) (qe_var (pv 1)) (nomark _)))))
    (qss_one (qs_ret (qo_thw qe_bl)))
    qss_nil)
    (qss_one (qs_ret (qo_thw (qe_call1 (cr_all rfl) o_all.op rfl T.b_all (by decide +kernel) (qe_frz (qo_lc (own := [("f", 2)]) rfl sc_is_point.nd (by decide) (qi_seq (qe_var (pv 0))) (blkOk_by (own := [("f", 2)]) (N := ["value", "size", "f"]) (sc := defScope s_is_point) (by decide +kernel)) (fun _ _ _ _ _ => (qgw_name sc_is_point.nd (i := 2) rfl (by first | exact Or.inl rfl | exact Or.inr rfl) (by decide))) (fun _ _ _ _ _ => qts_nil) (fun _ _ _ _ _ => (qe_frz (qo_call (ok_is_fraction T) (hr.mono (by decide)) rfl T.g_is_fraction T.d_is_fraction.kp (b_is_fraction T) .nil (fun _ => rfl) takes0 rfl (qa_cons (qe_var (pv 2)) qa_nil) (lenA_cons lenA_nil))))))))))))
theorem sc_taken : FnScope ["p", "q", "f", "g"] ["p", "q"] (defScope s_taken) := ⟨rfl, rfl, rfl, by decide +kernel, rfl, by decide +kernel, by decide +kernel⟩
theorem b_taken (T : Fx K mg Z) : Binds K Z.fd_taken ["p", "q"] [] := T.d_taken.bindsN fun _ _ _ _ _ _ us hl => match us, hl with | [_, _], _ => rfl
theorem ok_taken (T : Fx K mg Z) : FnOk P w K mg base (L2.CX P w) 3 (He.ga K "taken") Z.fd_taken ["p", "q"] (spF K 2 f_taken) := fn_okF (k := 2) (m := m_taken) T.d_taken sc_taken rfl rfl fun cdv A outer s H E hr =>
  (qss_one (qs_ret (qo_thw (qe_ty1 call_tuple_of o_tuple.op rfl T.b_tuple (by decide +kernel) (qe_frz (qo_lc (own := [("f", 2), ("g", 3)]) rfl sc_taken.nd (by decide) (qi_zipM rfl T.b_zip (qe_var (pv 0)) (qe_var (pv 1))) (blkOk_by (own := [("f", 2), ("g", 3)]) (N := ["p", "q", "f", "g"]) (sc := defScope s_taken) (by decide +kernel)) (fun _ _ _ _ _ => (qgw_tup rfl (qgws_cons (qgw_name sc_taken.nd (i := 2) rfl (by first | exact Or.inl rfl | exact Or.inr rfl) (by decide)) (qgws_cons (qgw_name sc_taken.nd (i := 3) rfl (by first | exact Or.inl rfl | exact Or.inr rfl) (by decide)) qgws_nil)))) (fun _ _ _ _ _ => qts_nil) (fun _ _ _ _ _ => (qe_frz (qo_call (ok_minus T) (hr.mono (by decide)) rfl T.g_minus T.d_minus.kp (b_minus T) .nil (fun _ => rfl) takes0 rfl (qa_cons (qe_var (pv 2)) (qa_cons (qe_var (pv 3)) qa_nil)) (lenA_cons (lenA_cons lenA_nil)))))))))))
theorem sc_squared : FnScope ["p"] ["p"] (defScope s_squared) := ⟨rfl, rfl, rfl, by decide +kernel, rfl, by decide +kernel, by decide +kernel⟩
theorem b_squared (T : Fx K mg Z) : Binds K Z.fd_squared ["p"] [] := T.d_squared.bindsN fun _ _ _ _ _ _ us hl => match us, hl with | [_], _ => rfl
theorem ok_squared (T : Fx K mg Z) : FnOk P w K mg base (L2.CX P w) 3 (He.ga K "squared") Z.fd_squared ["p"] (spF K 1 f_squared) := fn_okF (k := 2) (m := m_squared) T.d_squared sc_squared rfl rfl fun cdv A outer s H E hr =>
  (qss_one (qs_ret (qo_call (ok_dotted T) (hr.mono (by decide)) rfl T.g_dotted T.d_dotted.kp (b_dotted T) .nil (fun _ => rfl) (takes_of rfl rfl rfl rfl) rfl (qa_cons (qe_var (pv 0)) (qa_cons (qe_var (pv 0)) qa_nil)) (lenA_cons (lenA_cons lenA_nil)))))
theorem sc_is_direction : FnScope ["value", "a"] ["value"] (defScope s_is_direction) := ⟨rfl, rfl, rfl, by decide +kernel, rfl, by decide +kernel, by decide +kernel⟩
theorem b_is_direction (T : Fx K mg Z) : Binds K Z.fd_is_direction ["value"] [] := T.d_is_direction.bindsN fun _ _ _ _ _ _ us hl => match us, hl with | [_], _ => rfl
theorem ok_is_direction (T : Fx K mg Z) : FnOk P w K mg base (L2.CX P w) 3 (He.ga K "is_direction") Z.fd_is_direction ["value"] (spF K 1 f_is_direction) := fn_okF (k := 2) (m := m_is_direction) T.d_is_direction sc_is_direction rfl rfl fun cdv A outer s H E hr =>
  (qss_cons (qs_if (qw_t (qw_or (qt_not (qt_val (qe_isinst (pe_bltn (v := .ty "tuple") rfl T.b_tuple (by decide +kernel) rfl) (fun _ _ _ q => q) rfl T.b_isinstance (qe_var (pv 0))))) (qw_or1 (qt_not (qt_chain op_le op_le o_le o_le qe_int (qe_callV1 call_len_seq o_len rfl T.b_len (by decide +kernel) (pv 0)) qe_int)))))
    (qss_one (qs_ret (qo_thw qe_bl)))
    qss_nil)
    (qss_one (qs_ret (qo_thw (qe_and (qe_call1 (cr_all rfl) o_all.op rfl T.b_all (by decide +kernel) (qe_frz (qo_lc (own := [("a", 1)]) rfl sc_is_direction.nd (by decide) (qi_seq (qe_var (pv 0))) (blkOk_by (own := [("a", 1)]) (N := ["value", "a"]) (sc := defScope s_is_direction) (by decide +kernel)) (fun _ _ _ _ _ => (qgw_name sc_is_direction.nd (i := 1) rfl (by first | exact Or.inl rfl | exact Or.inr rfl) (by decide))) (fun _ _ _ _ _ => qts_nil) (fun _ _ _ _ _ => (qe_frz (qo_call (ok_is_whole T) (hr.mono (by decide)) rfl T.g_is_whole T.d_is_whole.kp (b_is_whole T) .nil (fun _ => rfl) takes0 rfl (qa_cons (qe_var (pv 1)) qa_nil) (lenA_cons lenA_nil))))))) (qe_one (qe_cmp (op_eqD (hru hr)) o_eq (qe_frz (qo_call (ok_common_of T) (hr.mono (by decide)) rfl T.g_common_of T.d_common_of.kp (b_common_of T) .nil (fun _ => rfl) (takes_of rfl rfl rfl rfl) rfl (qa_cons (qe_var (pv 0)) qa_nil) (lenA_cons lenA_nil))) qe_int (nomark _))))))))
theorem sc_height_of : FnScope ["direction", "offset", "p", "a"] ["direction", "offset", "p"] (defScope s_height_of) := ⟨rfl, rfl, rfl, by decide +kernel, rfl, by decide +kernel, by decide +kernel⟩
theorem b_height_of (T : Fx K mg Z) : Binds K Z.fd_height_of ["direction", "offset", "p"] [] := T.d_height_of.bindsN fun _ _ _ _ _ _ us hl => match us, hl with | [_, _, _], _ => rfl
theorem ok_height_of (T : Fx K mg Z) : FnOk P w K mg base (L2.CX P w) 3 (He.ga K "height_of") Z.fd_height_of ["direction", "offset", "p"] (spF K 3 f_height_of) := fn_okF (k := 2) (m := m_height_of) T.d_height_of sc_height_of rfl rfl fun cdv A outer s H E hr =>
  (qss_one (qs_ret (qo_call (ok_minus T) (hr.mono (by decide)) rfl T.g_minus T.d_minus.kp (b_minus T) .nil (fun _ => rfl) (takes_of rfl rfl rfl rfl) rfl (qa_cons (qe_var (pv 1)) (qa_cons (qe_frz (qo_call (ok_dotted T) (hr.mono (by decide)) rfl T.g_dotted T.d_dotted.kp (b_dotted T) .nil (fun _ => rfl) (takes_of rfl rfl rfl rfl) rfl (qa_cons (qe_frz (qo_lc (own := [("a", 3)]) rfl sc_height_of.nd (by decide) (qi_seq (qe_var (pv 0))) (blkOk_by (own := [("a", 3)]) (N := ["direction", "offset", "p", "a"]) (sc := defScope s_height_of) (by decide +kernel)) (fun _ _ _ _ _ => (qgw_name sc_height_of.nd (i := 3) rfl (by first | exact Or.inl rfl | exact Or.inr rfl) (by decide))) (fun _ _ _ _ _ => qts_nil) (fun _ _ _ _ _ => (qe_tup (qa_cons (qe_var (pv 3)) (qa_cons qe_int qa_nil)))))) (qa_cons (qe_var (pv 2)) qa_nil)) (lenA_cons (lenA_cons lenA_nil)))) qa_nil)) (lenA_cons (lenA_cons lenA_nil)))))
theorem sc__check_plane : FnScope ["size"] ["size"] (defScope s__check_plane) := ⟨rfl, rfl, rfl, by decide +kernel, rfl, by decide +kernel, by decide +kernel⟩
theorem b__check_plane (T : Fx K mg Z) : Binds K Z.fd__check_plane ["size"] [] := T.d__check_plane.bindsN fun _ _ _ _ _ _ us hl => match us, hl with | [_], _ => rfl
theorem ok__check_plane (T : Fx K mg Z) : FnOk P w K mg base (L2.CX P w) 3 (He.ga K "_check_plane") Z.fd__check_plane ["size"] (spF K 1 f__check_plane) := fn_okF (k := 2) (m := m__check_plane) T.d__check_plane sc__check_plane rfl rfl fun cdv A outer s H E hr =>
  (qss_one (qs_if (qt_cmp (op_neD (hru hr)) o_ne (qe_var (pv 0)) qe_int (nomark _))
    (qss_one (qs_raise (names := ["wanted", "got"]) rfl (takes_of rfl rfl rfl rfl) T.ox_OtherSpace (fun f hf => by simp only [List.mem_cons, List.not_mem_nil, or_false] at hf; rcases hf with rfl | rfl; all_goals first | exact T.na_OtherSpace_wanted | exact T.na_OtherSpace_got) T.in_OtherSpace.1 T.in_OtherSpace.2 (ok_OtherSpace___init__ T) (hr.mono (by decide)) (b_OtherSpace___init__ T) rfl T.g_OtherSpace (qa_cons qe_int (qa_cons (qe_var (pv 0)) qa_nil))))
    qss_nil))
theorem sc__law_plus : FnScope ["one", "other"] ["one", "other"] (defScope s__law_plus) := ⟨rfl, rfl, rfl, by decide +kernel, rfl, by decide +kernel, by decide +kernel⟩
theorem b__law_plus (T : Fx K mg Z) : Binds K Z.fd__law_plus ["one", "other"] [] := T.d__law_plus.bindsN fun _ _ _ _ _ _ us hl => match us, hl with | [_, _], _ => rfl
theorem ok__law_plus (T : Fx K mg Z) : FnOk P w K mg base (L2.CX P w) 3 (He.ga K "_law_plus") Z.fd__law_plus ["one", "other"] (spF K 2 f__law_plus) := fn_okF (k := 2) (m := m__law_plus) T.d__law_plus sc__law_plus rfl rfl fun cdv A outer s H E hr =>
  (qss_one (qs_ret (qo_call (ok__law_frac T) (hr.mono (by decide)) rfl T.g__law_frac T.d__law_frac.kp (b__law_frac T) .nil (fun _ => rfl) (takes_of rfl rfl rfl rfl) rfl (qa_cons (qe_op2 op_addA o_add (qe_op2 op_mulW o_mul (qe_ixV ix_itm o_item (pv 0) qe_int (by intro _ _; rfl)) (qe_ixV ix_itm o_item (pv 1) qe_int (by intro _ _; rfl))) (qe_op2 op_mulW o_mul (qe_ixV ix_itm o_item (pv 1) qe_int (by intro _ _; rfl)) (qe_ixV ix_itm o_item (pv 0) qe_int (by intro _ _; rfl)))) (qa_cons (qe_op2 op_mulW o_mul (qe_ixV ix_itm o_item (pv 0) qe_int (by intro _ _; rfl)) (qe_ixV ix_itm o_item (pv 1) qe_int (by intro _ _; rfl))) qa_nil)) (lenA_cons (lenA_cons lenA_nil)))))
theorem sc__law_minus : FnScope ["one", "other"] ["one", "other"] (defScope s__law_minus) := ⟨rfl, rfl, rfl, by decide +kernel, rfl, by decide +kernel, by decide +kernel⟩
theorem b__law_minus (T : Fx K mg Z) : Binds K Z.fd__law_minus ["one", "other"] [] := T.d__law_minus.bindsN fun _ _ _ _ _ _ us hl => match us, hl with | [_, _], _ => rfl
theorem ok__law_minus (T : Fx K mg Z) : FnOk P w K mg base (L2.CX P w) 3 (He.ga K "_law_minus") Z.fd__law_minus ["one", "other"] (spF K 2 f__law_minus) := fn_okF (k := 2) (m := m__law_minus) T.d__law_minus sc__law_minus rfl rfl fun cdv A outer s H E hr =>
  (qss_one (qs_ret (qo_call (ok__law_frac T) (hr.mono (by decide)) rfl T.g__law_frac T.d__law_frac.kp (b__law_frac T) .nil (fun _ => rfl) (takes_of rfl rfl rfl rfl) rfl (qa_cons (qe_op2 op_sub o_sub (qe_op2 op_mulW o_mul (qe_ixV ix_itm o_item (pv 0) qe_int (by intro _ _; rfl)) (qe_ixV ix_itm o_item (pv 1) qe_int (by intro _ _; rfl))) (qe_op2 op_mulW o_mul (qe_ixV ix_itm o_item (pv 1) qe_int (by intro _ _; rfl)) (qe_ixV ix_itm o_item (pv 0) qe_int (by intro _ _; rfl)))) (qa_cons (qe_op2 op_mulW o_mul (qe_ixV ix_itm o_item (pv 0) qe_int (by intro _ _; rfl)) (qe_ixV ix_itm o_item (pv 1) qe_int (by intro _ _; rfl))) qa_nil)) (lenA_cons (lenA_cons lenA_nil)))))
theorem sc__law_times : FnScope ["one", "other"] ["one", "other"] (defScope s__law_times) := ⟨rfl, rfl, rfl, by decide +kernel, rfl, by decide +kernel, by decide +kernel⟩
theorem b__law_times (T : Fx K mg Z) : Binds K Z.fd__law_times ["one", "other"] [] := T.d__law_times.bindsN fun _ _ _ _ _ _ us hl => match us, hl with | [_, _], _ => rfl
theorem ok__law_times (T : Fx K mg Z) : FnOk P w K mg base (L2.CX P w) 3 (He.ga K "_law_times") Z.fd__law_times ["one", "other"] (spF K 2 f__law_times) := fn_okF (k := 2) (m := m__law_times) T.d__law_times sc__law_times rfl rfl fun cdv A outer s H E hr =>
  (qss_one (qs_ret (qo_call (ok__law_frac T) (hr.mono (by decide)) rfl T.g__law_frac T.d__law_frac.kp (b__law_frac T) .nil (fun _ => rfl) (takes_of rfl rfl rfl rfl) rfl (qa_cons (qe_op2 op_mulW o_mul (qe_ixV ix_itm o_item (pv 0) qe_int (by intro _ _; rfl)) (qe_ixV ix_itm o_item (pv 1) qe_int (by intro _ _; rfl))) (qa_cons (qe_op2 op_mulW o_mul (qe_ixV ix_itm o_item (pv 0) qe_int (by intro _ _; rfl)) (qe_ixV ix_itm o_item (pv 1) qe_int (by intro _ _; rfl))) qa_nil)) (lenA_cons (lenA_cons lenA_nil)))))
theorem sc__law_is_point : FnScope ["value", "size", "one"] ["value", "size"] (defScope s__law_is_point) := ⟨rfl, rfl, rfl, by decide +kernel, rfl, by decide +kernel, by decide +kernel⟩
theorem b__law_is_point (T : Fx K mg Z) : Binds K Z.fd__law_is_point ["value", "size"] [] := T.d__law_is_point.bindsN fun _ _ _ _ _ _ us hl => match us, hl with | [_, _], _ => rfl
theorem ok__law_is_point (T : Fx K mg Z) : FnOk P w K mg base (L2.CX P w) 3 (He.ga K "_law_is_point") Z.fd__law_is_point ["value", "size"] (spF K 2 f__law_is_point) := fn_okF (k := 2) (m := m__law_is_point) T.d__law_is_point sc__law_is_point rfl rfl fun cdv A outer s H E hr =>
  (qss_cons (qs_if (qw_t (qw_or (qt_not (qt_val (qe_isinst (pe_bltn (v := .ty "tuple") rfl T.b_tuple (by decide +kernel) rfl) (fun _ _ _ q => q) rfl T.b_isinstance (qe_var (pv 0))))) (qw_or1 (qt_cmp (op_neD (hru hr)) o_ne (qe_callV1 call_len_seq o_len rfl T.b_len (by decide +kernel) (pv 0)) (qe_var (pv 1)) (nomark _)))))
    (qss_one (qs_ret (qo_thw qe_bl)))
    qss_nil)
    (qss_cons (qs_forget (is := [2]) (qs_for (passes_of rfl) rfl (qi_seq (qe_var (pv 0))) (qg_name sc__law_is_point.nd (i := 2) rfl (by first | exact Or.inl rfl | exact Or.inr rfl))
    (qss_one (qs_forget (is := [2]) (qs_if (qt_not (qt_val (qe_frz (qo_call (ok__law_is_frac T) (hr.mono (by decide)) rfl T.g__law_is_frac T.d__law_is_frac.kp (b__law_is_frac T) .nil (fun _ => rfl) (takes_of rfl rfl rfl rfl) rfl (qa_cons (qe_var (pv 2)) qa_nil) (lenA_cons lenA_nil)))))
    (qss_one (qs_ret (qo_thw qe_bl)))
    qss_nil)))))
    (qss_one (qs_ret (qo_thw qe_bl)))))
theorem sc_check_point : FnScope ["value", "size", "place"] ["value", "size", "place"] (defScope s_check_point) := ⟨rfl, rfl, rfl, by decide +kernel, rfl, by decide +kernel, by decide +kernel⟩
theorem ok_check_point (T : Fx K mg Z) : FnOk P w K mg base (L2.CX P w) 4 (He.ga K "check_point") Z.fd_check_point ["value", "size", "place"] (spF K 3 f_check_point) := fn_okF (k := 3) (m := m_check_point) T.d_check_point sc_check_point rfl rfl fun cdv A outer s H E hr =>
  (qss_cons (qs_if (qt_not (qt_val (qe_frz (qo_callD (dds := [.int 0]) (ok_is_point T) (hr.mono (by decide)) rfl T.g_is_point T.d_is_point.kp (b_is_point_1 T) (fun _ => ⟨_, _, rfl, rfl, rfl⟩) (takes_of rfl rfl rfl rfl) rfl (qa_cons (qe_var (pv 0)) qa_nil) (lenA_cons lenA_nil)))))
    (qss_one (qs_raise (names := ["place"]) rfl (takes_of rfl rfl rfl rfl) T.ox_BadPoint (fun f hf => by simp only [List.mem_cons, List.not_mem_nil, or_false] at hf; subst hf; first | exact T.na_BadPoint_place) T.in_BadPoint.1 T.in_BadPoint.2 (ok_BadPoint___init__ T) (hr.mono (by decide)) (b_BadPoint___init__ T) rfl T.g_BadPoint (qa_cons (qe_var (pv 2)) qa_nil)))
    qss_nil)
    (qss_one (qs_if (qt_cmp (op_neD (hru hr)) o_ne (qe_callV1 call_len_seq o_len rfl T.b_len (by decide +kernel) (pv 0)) (qe_var (pv 1)) (nomark _))
    (qss_one (qs_raise (names := ["wanted", "got"]) rfl (takes_of rfl rfl rfl rfl) T.ox_OtherSpace (fun f hf => by simp only [List.mem_cons, List.not_mem_nil, or_false] at hf; rcases hf with rfl | rfl; all_goals first | exact T.na_OtherSpace_wanted | exact T.na_OtherSpace_got) T.in_OtherSpace.1 T.in_OtherSpace.2 (ok_OtherSpace___init__ T) (hr.mono (by decide)) (b_OtherSpace___init__ T) rfl T.g_OtherSpace (qa_cons (qe_var (pv 1)) (qa_cons (qe_callV1 call_len_seq o_len rfl T.b_len (by decide +kernel) (pv 0)) qa_nil))))
    qss_nil)))
theorem sc_flat_mirrored : FnScope ["direction", "offset", "p", "f", "x", "a"] ["direction", "offset", "p"] (defScope s_flat_mirrored) := ⟨rfl, rfl, rfl, by decide +kernel, rfl, by decide +kernel, by decide +kernel⟩
theorem b_flat_mirrored (T : Fx K mg Z) : Binds K Z.fd_flat_mirrored ["direction", "offset", "p"] [] := T.d_flat_mirrored.bindsN fun _ _ _ _ _ _ us hl => match us, hl with | [_, _, _], _ => rfl
theorem ok_flat_mirrored (T : Fx K mg Z) : FnOk P w K mg base (L2.CX P w) 4 (He.ga K "flat_mirrored") Z.fd_flat_mirrored ["direction", "offset", "p"] (spF K 3 f_flat_mirrored) := fn_okF (k := 3) (m := m_flat_mirrored) T.d_flat_mirrored sc_flat_mirrored rfl rfl fun cdv A outer s H E hr =>
  (qss_cons (qs_set sc_flat_mirrored.nd (i := 3) rfl (by first | exact Or.inl rfl | exact Or.inr rfl) (qo_call (ok_times T) (hr.mono (by decide)) rfl T.g_times T.d_times.kp (b_times T) .nil (fun _ => rfl) (takes_of rfl rfl rfl rfl) rfl (qa_cons (qe_frz (qo_call (ok_height_of T) (hr.mono (by decide)) rfl T.g_height_of T.d_height_of.kp (b_height_of T) .nil (fun _ => rfl) (takes_of rfl rfl rfl rfl) rfl (qa_cons (qe_var (pv 0)) (qa_cons (qe_var (pv 1)) (qa_cons (qe_var (pv 2)) qa_nil))) (lenA_cons (lenA_cons (lenA_cons lenA_nil))))) (qa_cons (qe_frz (qo_call (ok_lowest T) (hr.mono (by decide)) rfl T.g_lowest T.d_lowest.kp (b_lowest T) .nil (fun _ => rfl) (takes_of rfl rfl rfl rfl) rfl (qa_cons qe_int (qa_cons (qe_call1 (cr_sum rfl) o_sum.op rfl T.b_sum (by decide +kernel) (qe_frz (qo_lc (own := [("a", 5)]) rfl sc_flat_mirrored.nd (by decide) (qi_seq (qe_var (pv 0))) (blkOk_by (own := [("a", 5)]) (N := ["direction", "offset", "p", "f", "x", "a"]) (sc := defScope s_flat_mirrored) (by decide +kernel)) (fun _ _ _ _ _ => (qgw_name sc_flat_mirrored.nd (i := 5) rfl (by first | exact Or.inl rfl | exact Or.inr rfl) (by decide))) (fun _ _ _ _ _ => qts_nil) (fun _ _ _ _ _ => (qe_op2 op_mulW o_mul (qe_var (pv 5)) (qe_var (pv 5))))))) qa_nil)) (lenA_cons (lenA_cons lenA_nil)))) qa_nil)) (lenA_cons (lenA_cons lenA_nil))))
    (qss_one (qs_ret (qo_thw (qe_ty1 call_tuple_of o_tuple.op rfl T.b_tuple (by decide +kernel) (qe_frz (qo_lc (own := [("x", 4), ("a", 5)]) rfl sc_flat_mirrored.nd (by decide) (qi_zipM rfl T.b_zip (qe_var (pv 2)) (qe_var (pv 0))) (blkOk_by (own := [("x", 4), ("a", 5)]) (N := ["direction", "offset", "p", "f", "x", "a"]) (sc := defScope s_flat_mirrored) (by decide +kernel)) (fun _ _ _ _ _ => (qgw_tup rfl (qgws_cons (qgw_name sc_flat_mirrored.nd (i := 4) rfl (by first | exact Or.inl rfl | exact Or.inr rfl) (by decide)) (qgws_cons (qgw_name sc_flat_mirrored.nd (i := 5) rfl (by first | exact Or.inl rfl | exact Or.inr rfl) (by decide)) qgws_nil)))) (fun _ _ _ _ _ => qts_nil) (fun _ _ _ _ _ => (qe_frz (qo_call (ok_plus T) (hr.mono (by decide)) rfl T.g_plus T.d_plus.kp (b_plus T) .nil (fun _ => rfl) takes0 rfl (qa_cons (qe_var (pv 4)) (qa_cons (qe_frz (qo_call (ok_times T) (hr.mono (by decide)) rfl T.g_times T.d_times.kp (b_times T) .nil (fun _ => rfl) takes0 rfl (qa_cons (qe_var (pv 3)) (qa_cons (qe_tup (qa_cons (qe_var (pv 5)) (qa_cons qe_int qa_nil))) qa_nil)) (lenA_cons (lenA_cons lenA_nil)))) qa_nil)) (lenA_cons (lenA_cons lenA_nil))))))))))))
theorem sc_Flat___init__ : FnScope ["self", "direction", "offset"] ["self", "direction", "offset"] (defScope s_Flat___init__) := ⟨rfl, rfl, rfl, by decide +kernel, rfl, by decide +kernel, by decide +kernel⟩
theorem b_Flat___init__ (T : Fx K mg Z) : Binds K Z.fd_Flat___init__ ["self", "direction", "offset"] [] := T.d_Flat___init__.bindsN fun _ _ _ _ _ _ us hl => match us, hl with | [_, _, _], _ => rfl
theorem ok_Flat___init__ (T : Fx K mg Z) : FnOk P w K mg base (L2.CX P w) 4 (He.ma K (He.ga K "Flat") "__init__") Z.fd_Flat___init__ ["self", "direction", "offset"] (spF K 3 f_Flat___init__) := fn_okF (k := 3) (m := m_Flat___init__) T.d_Flat___init__ sc_Flat___init__ rfl rfl fun cdv A outer s H E hr =>
  (qss_cons (qs_if (qw_t (qw_or (qt_not (qt_val (qe_frz (qo_call (ok_is_direction T) (hr.mono (by decide)) rfl T.g_is_direction T.d_is_direction.kp (b_is_direction T) .nil (fun _ => rfl) (takes_of rfl rfl rfl rfl) rfl (qa_cons (qe_var (pv 1)) qa_nil) (lenA_cons lenA_nil))))) (qw_or1 (qt_not (qt_val (qe_frz (qo_call (ok_is_fraction T) (hr.mono (by decide)) rfl T.g_is_fraction T.d_is_fraction.kp (b_is_fraction T) .nil (fun _ => rfl) (takes_of rfl rfl rfl rfl) rfl (qa_cons (qe_var (pv 2)) qa_nil) (lenA_cons lenA_nil))))))))
    (qss_one qs_stuck)
    qss_nil)
    (qss_cons (qs_setFld (tab := ["Flat"]) (ft_direction T) (pv 0) (qe_var (pv 1)))
    (qss_cons (qs_setFld (tab := ["Flat"]) (ft_offset T) (pv 0) (qe_var (pv 2)))
    (qss_one (qs_setFld (tab := ["Flat"]) (ft_size T) (pv 0) (qe_callV1 call_len_seq o_len rfl T.b_len (by decide +kernel) (pv 1)))))))
theorem sc_is_good : FnScope ["flat", "twice"] ["flat"] (defScope s_is_good) := ⟨rfl, rfl, rfl, by decide +kernel, rfl, by decide +kernel, by decide +kernel⟩
theorem b_is_good (T : Fx K mg Z) : Binds K Z.fd_is_good ["flat"] [] := T.d_is_good.bindsN fun _ _ _ _ _ _ us hl => match us, hl with | [_], _ => rfl
theorem ok_is_good (T : Fx K mg Z) : FnOk P w K mg base (L2.CX P w) 4 (He.ga K "is_good") Z.fd_is_good ["flat"] (spF K 1 f_is_good) := fn_okF (k := 3) (m := m_is_good) T.d_is_good sc_is_good rfl rfl fun cdv A outer s H E hr =>
  (qss_cons (qs_expr (qo_call (ok__check_plane T) (hr.mono (by decide)) rfl T.g__check_plane T.d__check_plane.kp (b__check_plane T) .nil (fun _ => rfl) (takes_of rfl rfl rfl rfl) rfl (qa_cons (qe_fldV (tab := ["Flat"]) (ft_size T) (pv 0)) qa_nil) (lenA_cons lenA_nil)))
    (qss_cons (qs_set sc_is_good.nd (i := 1) rfl (by first | exact Or.inl rfl | exact Or.inr rfl) (qo_call (ok__good_twice T) (hr.mono (by decide)) rfl T.g__good_twice T.d__good_twice.kp (b__good_twice T) .nil (fun _ => rfl) (takes_of rfl rfl rfl rfl) rfl (qa_cons (qe_var (pv 0)) qa_nil) (lenA_cons lenA_nil)))
    (qss_one (qs_ret (qo_thw (qe_and (qe_notN (qe_var (pv 1))) (qe_one (qe_or (qe_cmp (op_eqD (hru hr)) o_eq (qe_op2 op_modN o_mod (qe_var (pv 1)) qe_int) qe_int (nomark _)) (qe_one (qe_cmp (op_eqD (hru hr)) o_eq (qe_op2 op_modN o_mod (qe_frz (qo_prop (qe_var (pv 0)) T.cls_Flat T.pr_Flat_length2 (ok_Flat_length2 T) (hr.mono (by decide)) (b_Flat_length2 T))) qe_int) qe_int (nomark _)))))))))))
theorem sc__law_height : FnScope ["flat", "point", "total", "at"] ["flat", "point"] (defScope s__law_height) := ⟨rfl, rfl, rfl, by decide +kernel, rfl, by decide +kernel, by decide +kernel⟩
theorem b__law_height (T : Fx K mg Z) : Binds K Z.fd__law_height ["flat", "point"] [] := T.d__law_height.bindsN fun _ _ _ _ _ _ us hl => match us, hl with | [_, _], _ => rfl
theorem ok__law_height (T : Fx K mg Z) : FnOk P w K mg base (L2.CX P w) 4 (He.ga K "_law_height") Z.fd__law_height ["flat", "point"] (spF K 2 f__law_height) := fn_okF (k := 3) (m := m__law_height) T.d__law_height sc__law_height rfl rfl fun cdv A outer s H E hr =>
  (qss_cons (qs_set sc__law_height.nd (i := 2) rfl (by first | exact Or.inl rfl | exact Or.inr rfl) (qo_thw (qe_ixV ix_itm o_item (pv 0) qe_int (by intro _ _; rfl))))
    (qss_cons (qs_forget (is := [3]) (qs_for (passes_of rfl) rfl (qi_range1 rfl T.b_range (qe_callV1 call_len_seq o_len rfl T.b_len (by decide +kernel) (pv 1))) (qg_name sc__law_height.nd (i := 3) rfl (by first | exact Or.inl rfl | exact Or.inr rfl))
    (qss_one (qs_forget (is := [3]) (qs_set sc__law_height.nd (i := 2) rfl (by first | exact Or.inl rfl | exact Or.inr rfl) (qo_call (ok__law_minus T) (hr.mono (by decide)) rfl T.g__law_minus T.d__law_minus.kp (b__law_minus T) .nil (fun _ => rfl) (takes_of rfl rfl rfl rfl) rfl (qa_cons (qe_var (pv 2)) (qa_cons (qe_frz (qo_call (ok__law_times T) (hr.mono (by decide)) rfl T.g__law_times T.d__law_times.kp (b__law_times T) .nil (fun _ => rfl) (takes_of rfl rfl rfl rfl) rfl (qa_cons (qe_tup (qa_cons (qe_ix ix_itm o_item.op (qe_ixV ix_itm o_item (pv 0) qe_int (by intro _ _; rfl)) (qe_var (pv 3)) (by intro _ _; rfl)) (qa_cons qe_int qa_nil))) (qa_cons (qe_ixV ix_itm o_item (pv 1) (qe_var (pv 3)) (by intro _ _; rfl)) qa_nil)) (lenA_cons (lenA_cons lenA_nil)))) qa_nil)) (lenA_cons (lenA_cons lenA_nil))))))))
    (qss_one (qs_ret (qo_move (pv 2))))))
theorem sc__law_due : FnScope ["flat", "twice", "length"] ["flat"] (defScope s__law_due) := ⟨rfl, rfl, rfl, by decide +kernel, rfl, by decide +kernel, by decide +kernel⟩
theorem b__law_due (T : Fx K mg Z) : Binds K Z.fd__law_due ["flat"] [] := T.d__law_due.bindsN fun _ _ _ _ _ _ us hl => match us, hl with | [_], _ => rfl
theorem ok__law_due (T : Fx K mg Z) : FnOk P w K mg base (L2.CX P w) 4 (He.ga K "_law_due") Z.fd__law_due ["flat"] (spF K 1 f__law_due) := fn_okF (k := 3) (m := m__law_due) T.d__law_due sc__law_due rfl rfl fun cdv A outer s H E hr =>
  (qss_cons (qs_set sc__law_due.nd (i := 1) rfl (by first | exact Or.inl rfl | exact Or.inr rfl) (qo_call (ok__law_times T) (hr.mono (by decide)) rfl T.g__law_times T.d__law_times.kp (b__law_times T) .nil (fun _ => rfl) (takes_of rfl rfl rfl rfl) rfl (qa_cons (qe_tup (qa_cons qe_int (qa_cons qe_int qa_nil))) (qa_cons (qe_ixV ix_itm o_item (pv 0) qe_int (by intro _ _; rfl)) qa_nil)) (lenA_cons (lenA_cons lenA_nil))))
    (qss_cons (qs_if (qt_cmp (op_neD (hru hr)) o_ne (qe_ixV ix_itm o_item (pv 1) qe_int (by intro _ _; rfl)) qe_int (nomark _))
    (qss_one (qs_ret (qo_thw qe_bl)))
    qss_nil)
    (qss_cons (qs_set sc__law_due.nd (i := 2) rfl (by first | exact Or.inl rfl | exact Or.inr rfl) (qo_thw (qe_op2 op_addA o_add (qe_op2 op_mulW o_mul (qe_ix ix_itm o_item.op (qe_ixV ix_itm o_item (pv 0) qe_int (by intro _ _; rfl)) qe_int (by intro _ _; rfl)) (qe_ix ix_itm o_item.op (qe_ixV ix_itm o_item (pv 0) qe_int (by intro _ _; rfl)) qe_int (by intro _ _; rfl))) (qe_op2 op_mulW o_mul (qe_ix ix_itm o_item.op (qe_ixV ix_itm o_item (pv 0) qe_int (by intro _ _; rfl)) qe_int (by intro _ _; rfl)) (qe_ix ix_itm o_item.op (qe_ixV ix_itm o_item (pv 0) qe_int (by intro _ _; rfl)) qe_int (by intro _ _; rfl))))))
    (qss_one (qs_ret (qo_thw (qe_or (qe_cmp (op_eqD (hru hr)) o_eq (qe_op2 op_modN o_mod (qe_ty1 call_int1 o_int rfl T.b_int (by decide +kernel) (qe_ixV ix_itm o_item (pv 1) qe_int (by intro _ _; rfl))) qe_int) qe_int (nomark _)) (qe_one (qe_cmp (op_eqD (hru hr)) o_eq (qe_op2 op_modN o_mod (qe_ty1 call_int1 o_int rfl T.b_int (by decide +kernel) (qe_var (pv 2))) qe_int) qe_int (nomark _))))))))))
theorem sc_Flat_mirrored : FnScope ["self", "p"] ["self", "p"] (defScope s_Flat_mirrored) := ⟨rfl, rfl, rfl, by decide +kernel, rfl, by decide +kernel, by decide +kernel⟩
theorem b_Flat_mirrored (T : Fx K mg Z) : Binds K Z.fd_Flat_mirrored ["self", "p"] [] := T.d_Flat_mirrored.bindsN fun _ _ _ _ _ _ us hl => match us, hl with | [_, _], _ => rfl
theorem ok_Flat_mirrored (T : Fx K mg Z) : FnOk P w K mg base (L2.CX P w) 5 (He.ma K (He.ga K "Flat") "mirrored") Z.fd_Flat_mirrored ["self", "p"] (spF K 2 f_Flat_mirrored) := fn_okF (k := 4) (m := m_Flat_mirrored) T.d_Flat_mirrored sc_Flat_mirrored rfl rfl fun cdv A outer s H E hr =>
  (qss_cons (qs_expr (qo_callD (dds := [.int 0]) (ok_check_point T) (hr.mono (by decide)) rfl T.g_check_point T.d_check_point.kp (b_check_point_2 T) (fun _ => ⟨_, _, rfl, rfl, rfl⟩) (takes_of rfl rfl rfl rfl) rfl (qa_cons (qe_var (pv 1)) (qa_cons (qe_fldV (tab := ["Flat"]) (ft_size T) (pv 0)) qa_nil)) (lenA_cons (lenA_cons lenA_nil))))
    (qss_one (qs_ret (qo_call (ok_flat_mirrored T) (hr.mono (by decide)) rfl T.g_flat_mirrored T.d_flat_mirrored.kp (b_flat_mirrored T) .nil (fun _ => rfl) (takes_of rfl rfl rfl rfl) rfl (qa_cons (qe_fldV (tab := ["Flat"]) (ft_direction T) (pv 0)) (qa_cons (qe_fldV (tab := ["Flat"]) (ft_offset T) (pv 0)) (qa_cons (qe_var (pv 1)) qa_nil))) (lenA_cons (lenA_cons (lenA_cons lenA_nil)))))))
theorem sc_good_pair : FnScope ["flat", "twice", "a", "b", "often", "x", "y"] ["flat"] (defScope s_good_pair) := ⟨rfl, rfl, rfl, by decide +kernel, rfl, by decide +kernel, by decide +kernel⟩
theorem b_good_pair (T : Fx K mg Z) : Binds K Z.fd_good_pair ["flat"] [] := T.d_good_pair.bindsN fun _ _ _ _ _ _ us hl => match us, hl with | [_], _ => rfl
theorem ok_good_pair (T : Fx K mg Z) : FnOk P w K mg base (L2.CX P w) 5 (He.ga K "good_pair") Z.fd_good_pair ["flat"] (spF K 1 f_good_pair) := fn_okF (k := 4) (m := m_good_pair) T.d_good_pair sc_good_pair rfl rfl fun cdv A outer s H E hr =>
  (qss_cons (qs_if (qt_not (qt_val (qe_frz (qo_call (ok_is_good T) (hr.mono (by decide)) rfl T.g_is_good T.d_is_good.kp (b_is_good T) .nil (fun _ => rfl) (takes_of rfl rfl rfl rfl) rfl (qa_cons (qe_var (pv 0)) qa_nil) (lenA_cons lenA_nil)))))
    (qss_one (qs_ret (qo_thw qe_non)))
    qss_nil)
    (qss_cons (qs_set sc_good_pair.nd (i := 1) rfl (by first | exact Or.inl rfl | exact Or.inr rfl) (qo_call (ok__good_twice T) (hr.mono (by decide)) rfl T.g__good_twice T.d__good_twice.kp (b__good_twice T) .nil (fun _ => rfl) (takes_of rfl rfl rfl rfl) rfl (qa_cons (qe_var (pv 0)) qa_nil) (lenA_cons lenA_nil)))
    (qss_cons (qs_asgT (qe_fldV (tab := ["Flat"]) (ft_direction T) (pv 0)) (qg_tup rfl (qgs_cons (qg_name sc_good_pair.nd (i := 2) rfl (by first | exact Or.inl rfl | exact Or.inr rfl)) (qgs_cons (qg_name sc_good_pair.nd (i := 3) rfl (by first | exact Or.inl rfl | exact Or.inr rfl)) qgs_nil))))
    (qss_cons (qs_set sc_good_pair.nd (i := 4) rfl (by first | exact Or.inl rfl | exact Or.inr rfl) (qo_thw (qe_if (qt_cmp (op_eqD (hru hr)) o_eq (qe_op2 op_modN o_mod (qe_op2 op_sub o_sub (qe_var (pv 1)) (qe_frz (qo_prop (qe_var (pv 0)) T.cls_Flat T.pr_Flat_length2 (ok_Flat_length2 T) (hr.mono (by decide)) (b_Flat_length2 T)))) qe_int) qe_int (nomark _)) qe_int qe_int)))
    (qss_cons (qs_asgT (qe_frz (qo_call (ok__whole_at T) (hr.mono (by decide)) rfl T.g__whole_at T.d__whole_at.kp (b__whole_at T) .nil (fun _ => rfl) (takes_of rfl rfl rfl rfl) rfl (qa_cons (qe_var (pv 2)) (qa_cons (qe_var (pv 3)) (qa_cons (qe_op2 op_fdivZ o_fdiv (qe_op2 op_sub o_sub (qe_var (pv 1)) (qe_op2 op_mulW o_mul (qe_var (pv 4)) (qe_frz (qo_prop (qe_var (pv 0)) T.cls_Flat T.pr_Flat_length2 (ok_Flat_length2 T) (hr.mono (by decide)) (b_Flat_length2 T))))) qe_int) qa_nil))) (lenA_cons (lenA_cons (lenA_cons lenA_nil))))) (qg_tup rfl (qgs_cons (qg_name sc_good_pair.nd (i := 5) rfl (by first | exact Or.inl rfl | exact Or.inr rfl)) (qgs_cons (qg_name sc_good_pair.nd (i := 6) rfl (by first | exact Or.inl rfl | exact Or.inr rfl)) qgs_nil))))
    (qss_one (qs_ret (qo_thw (qe_tup (qa_cons (qe_tup (qa_cons (qe_tup (qa_cons (qe_var (pv 5)) (qa_cons qe_int qa_nil))) (qa_cons (qe_tup (qa_cons (qe_var (pv 6)) (qa_cons qe_int qa_nil))) qa_nil))) (qa_cons (qe_tup (qa_cons (qe_tup (qa_cons (qe_op2 op_addA o_add (qe_var (pv 5)) (qe_op2 op_mulW o_mul (qe_var (pv 4)) (qe_var (pv 2)))) (qa_cons qe_int qa_nil))) (qa_cons (qe_tup (qa_cons (qe_op2 op_addA o_add (qe_var (pv 6)) (qe_op2 op_mulW o_mul (qe_var (pv 4)) (qe_var (pv 3)))) (qa_cons qe_int qa_nil))) qa_nil))) qa_nil)))))))))))
theorem sc__law_mirrored : FnScope ["flat", "point", "size", "one", "share", "told", "at"] ["flat", "point"] (defScope s__law_mirrored) := ⟨rfl, rfl, rfl, by decide +kernel, rfl, by decide +kernel, by decide +kernel⟩
theorem b__law_mirrored (T : Fx K mg Z) : Binds K Z.fd__law_mirrored ["flat", "point"] [] := T.d__law_mirrored.bindsN fun _ _ _ _ _ _ us hl => match us, hl with | [_, _], _ => rfl
theorem ok__law_mirrored (T : Fx K mg Z) : FnOk P w K mg base (L2.CX P w) 5 (He.ga K "_law_mirrored") Z.fd__law_mirrored ["flat", "point"] (spF K 2 f__law_mirrored) := fn_okF (k := 4) (m := m__law_mirrored) T.d__law_mirrored sc__law_mirrored rfl rfl fun cdv A outer s H E hr =>
  (qss_cons (qs_set sc__law_mirrored.nd (i := 2) rfl (by first | exact Or.inl rfl | exact Or.inr rfl) (qo_thw qe_int))
    (qss_cons (qs_forget (is := [3]) (qs_for (passes_of rfl) rfl (qi_seq (qe_ixV ix_itm o_item (pv 0) qe_int (by intro _ _; rfl))) (qg_name sc__law_mirrored.nd (i := 3) rfl (by first | exact Or.inl rfl | exact Or.inr rfl))
    (qss_one (qs_forget (is := [3]) (qs_aug sc__law_mirrored.nd (i := 2) rfl (by first | exact Or.inl rfl | exact Or.inr rfl) (qe_op2 op_mulW o_mul (qe_var (pv 3)) (qe_var (pv 3))) ip_add o_addI)))))
    (qss_cons (qs_set sc__law_mirrored.nd (i := 4) rfl (by first | exact Or.inl rfl | exact Or.inr rfl) (qo_call (ok__law_times T) (hr.mono (by decide)) rfl T.g__law_times T.d__law_times.kp (b__law_times T) .nil (fun _ => rfl) (takes_of rfl rfl rfl rfl) rfl (qa_cons (qe_frz (qo_call (ok__law_height T) (hr.mono (by decide)) rfl T.g__law_height T.d__law_height.kp (b__law_height T) .nil (fun _ => rfl) (takes_of rfl rfl rfl rfl) rfl (qa_cons (qe_var (pv 0)) (qa_cons (qe_var (pv 1)) qa_nil)) (lenA_cons (lenA_cons lenA_nil)))) (qa_cons (qe_tup (qa_cons qe_int (qa_cons qe_int qa_nil))) qa_nil)) (lenA_cons (lenA_cons lenA_nil))))
    (qss_cons (qs_set sc__law_mirrored.nd (i := 5) rfl (by first | exact Or.inl rfl | exact Or.inr rfl) (qo_lst qa_nil))
    (qss_cons (qs_forget (is := [6]) (qs_for (passes_of rfl) rfl (qi_range1 rfl T.b_range (qe_callV1 call_len_seq o_len rfl T.b_len (by decide +kernel) (pv 1))) (qg_name sc__law_mirrored.nd (i := 6) rfl (by first | exact Or.inl rfl | exact Or.inr rfl))
    (qss_one (qs_forget (is := [6]) (qs_expr (qo_thw (qe_append (pe_bm PySem.F.plainAttrs_list PySem.F.slot_list_append PySem.F.type_list_append mt_append (pv 5) (pa_cons (qe_frz (qo_call (ok__law_plus T) (hr.mono (by decide)) rfl T.g__law_plus T.d__law_plus.kp (b__law_plus T) .nil (fun _ => rfl) (takes_of rfl rfl rfl rfl) rfl (qa_cons (qe_ixV ix_itm o_item (pv 1) (qe_var (pv 6)) (by intro _ _; rfl)) (qa_cons (qe_frz (qo_call (ok__law_frac T) (hr.mono (by decide)) rfl T.g__law_frac T.d__law_frac.kp (b__law_frac T) .nil (fun _ => rfl) (takes_of rfl rfl rfl rfl) rfl (qa_cons (qe_op2 op_mulW o_mul (qe_ixV ix_itm o_item (pv 4) qe_int (by intro _ _; rfl)) (qe_ix ix_itm o_item.op (qe_ixV ix_itm o_item (pv 0) qe_int (by intro _ _; rfl)) (qe_var (pv 6)) (by intro _ _; rfl))) (qa_cons (qe_op2 op_mulW o_mul (qe_ixV ix_itm o_item (pv 4) qe_int (by intro _ _; rfl)) (qe_var (pv 2))) qa_nil)) (lenA_cons (lenA_cons lenA_nil)))) qa_nil)) (lenA_cons (lenA_cons lenA_nil)))) pa_nil)))))))))
    (qss_one (qs_ret (qo_thw (qe_tyV1 call_tuple_of o_tuple rfl T.b_tuple (by decide +kernel) (pv 5))))))))))
theorem sc_flat_from : FnScope ["a", "b", "low", "wholes", "common", "f", "n"] ["a", "b"] (defScope s_flat_from) := ⟨rfl, rfl, rfl, by decide +kernel, rfl, by decide +kernel, by decide +kernel⟩
theorem b_flat_from (T : Fx K mg Z) : Binds K Z.fd_flat_from ["a", "b"] [] := T.d_flat_from.bindsN fun _ _ _ _ _ _ us hl => match us, hl with | [_, _], _ => rfl
theorem ok_flat_from (T : Fx K mg Z) : FnOk P w K mg base (L2.CX P w) 6 (He.ga K "flat_from") Z.fd_flat_from ["a", "b"] (spF K 2 f_flat_from) := fn_okF (k := 5) (m := m_flat_from) T.d_flat_from sc_flat_from rfl rfl fun cdv A outer s H E hr =>
  (qss_cons (qs_set sc_flat_from.nd (i := 2) rfl (by first | exact Or.inl rfl | exact Or.inr rfl) (qo_call (ok_common_low T) (hr.mono (by decide)) rfl T.g_common_low T.d_common_low.kp (b_common_low T) .nil (fun _ => rfl) (takes_of rfl rfl rfl rfl) rfl (qa_cons (qe_var (pv 0)) qa_nil) (lenA_cons lenA_nil)))
    (qss_cons (qs_setLc (own := [("f", 5)]) (i := 3) rfl sc_flat_from.nd (by decide) rfl rfl (sw_true rfl rfl rfl (by decide +kernel)) (qi_seq (qe_var (pv 0))) (blkOk_by (own := [("f", 5)]) (N := ["a", "b", "low", "wholes", "common", "f", "n"]) (sc := defScope s_flat_from) (by decide +kernel)) (fun _ _ _ _ _ => (qgw_name sc_flat_from.nd (i := 5) rfl (by first | exact Or.inl rfl | exact Or.inr rfl) (by decide))) (fun _ _ _ _ _ => qts_nil) (fun _ _ _ _ _ => (qe_op2 op_mulW o_mul (qe_ixV ix_itm o_item (pv 5) qe_int (by intro _ _; rfl)) (qe_op2 op_fdivZ o_fdiv (qe_var (pv 2)) (qe_ixV ix_itm o_item (pv 5) qe_int (by intro _ _; rfl))))))
    (qss_cons (qs_set sc_flat_from.nd (i := 4) rfl (by first | exact Or.inl rfl | exact Or.inr rfl) (qo_call (ok_common_of T) (hr.mono (by decide)) rfl T.g_common_of T.d_common_of.kp (b_common_of T) .nil (fun _ => rfl) (takes_of rfl rfl rfl rfl) rfl (qa_cons (qe_var (pv 3)) qa_nil) (lenA_cons lenA_nil)))
    (qss_one (qs_ret (qo_make T.mk_Flat (ok_Flat___init__ T) (hr.mono (by decide)) rfl T.g_Flat (b_Flat___init__ T) .nil (fun _ => rfl) rfl (qa_cons (qe_ty1 call_tuple_of o_tuple.op rfl T.b_tuple (by decide +kernel) (qe_frz (qo_lc (own := [("n", 6)]) rfl sc_flat_from.nd (by decide) (qi_seq (qe_var (pv 3))) (blkOk_by (own := [("n", 6)]) (N := ["a", "b", "low", "wholes", "common", "f", "n"]) (sc := defScope s_flat_from) (by decide +kernel)) (fun _ _ _ _ _ => (qgw_name sc_flat_from.nd (i := 6) rfl (by first | exact Or.inl rfl | exact Or.inr rfl) (by decide))) (fun _ _ _ _ _ => qts_nil) (fun _ _ _ _ _ => (qe_op2 op_fdivZ o_fdiv (qe_var (pv 6)) (qe_var (pv 4))))))) (qa_cons (qe_frz (qo_call (ok_times T) (hr.mono (by decide)) rfl T.g_times T.d_times.kp (b_times T) .nil (fun _ => rfl) (takes_of rfl rfl rfl rfl) rfl (qa_cons (qe_var (pv 1)) (qa_cons (qe_frz (qo_call (ok_lowest T) (hr.mono (by decide)) rfl T.g_lowest T.d_lowest.kp (b_lowest T) .nil (fun _ => rfl) (takes_of rfl rfl rfl rfl) rfl (qa_cons (qe_var (pv 2)) (qa_cons (qe_var (pv 4)) qa_nil)) (lenA_cons (lenA_cons lenA_nil)))) qa_nil)) (lenA_cons (lenA_cons lenA_nil)))) qa_nil)) (lenA_cons (lenA_cons lenA_nil))))))))
theorem sc_whole_mirrored : FnScope ["flat", "p", "image"] ["flat", "p"] (defScope s_whole_mirrored) := ⟨rfl, rfl, rfl, by decide +kernel, rfl, by decide +kernel, by decide +kernel⟩
theorem b_whole_mirrored (T : Fx K mg Z) : Binds K Z.fd_whole_mirrored ["flat", "p"] [] := T.d_whole_mirrored.bindsN fun _ _ _ _ _ _ us hl => match us, hl with | [_, _], _ => rfl
theorem ok_whole_mirrored (T : Fx K mg Z) : FnOk P w K mg base (L2.CX P w) 6 (He.ga K "whole_mirrored") Z.fd_whole_mirrored ["flat", "p"] (spF K 2 f_whole_mirrored) := fn_okF (k := 5) (m := m_whole_mirrored) T.d_whole_mirrored sc_whole_mirrored rfl rfl fun cdv A outer s H E hr =>
  (qss_cons (qs_expr (qo_call (ok__check_plane T) (hr.mono (by decide)) rfl T.g__check_plane T.d__check_plane.kp (b__check_plane T) .nil (fun _ => rfl) (takes_of rfl rfl rfl rfl) rfl (qa_cons (qe_fldV (tab := ["Flat"]) (ft_size T) (pv 0)) qa_nil) (lenA_cons lenA_nil)))
    (qss_cons (qs_expr (qo_callD (dds := [.int 0]) (ok_check_point T) (hr.mono (by decide)) rfl T.g_check_point T.d_check_point.kp (b_check_point_2 T) (fun _ => ⟨_, _, rfl, rfl, rfl⟩) (takes_of rfl rfl rfl rfl) rfl (qa_cons (qe_var (pv 1)) (qa_cons qe_int qa_nil)) (lenA_cons (lenA_cons lenA_nil))))
    (qss_cons (qs_set sc_whole_mirrored.nd (i := 2) rfl (by first | exact Or.inl rfl | exact Or.inr rfl) (qo_meth (qe_var (pv 0)) T.cls_Flat T.me_Flat_mirrored (ok_Flat_mirrored T) (hr.mono (by decide)) (b_Flat_mirrored T) .nil (fun _ => rfl) (takes_of rfl rfl rfl rfl) rfl (qa_cons (qe_var (pv 1)) qa_nil) (lenA_cons lenA_nil)))
    (qss_one (qs_ret (qo_thw (qe_if (qw_t (qw_and (qt_val (qe_frz (qo_call (ok__is_whole_point T) (hr.mono (by decide)) rfl T.g__is_whole_point T.d__is_whole_point.kp (b__is_whole_point T) .nil (fun _ => rfl) (takes_of rfl rfl rfl rfl) rfl (qa_cons (qe_var (pv 1)) qa_nil) (lenA_cons lenA_nil)))) (qw_and1 (qt_val (qe_frz (qo_call (ok__is_whole_point T) (hr.mono (by decide)) rfl T.g__is_whole_point T.d__is_whole_point.kp (b__is_whole_point T) .nil (fun _ => rfl) (takes_of rfl rfl rfl rfl) rfl (qa_cons (qe_var (pv 2)) qa_nil) (lenA_cons lenA_nil))))))) (qe_var (pv 2)) qe_non)))))))
theorem sc__law_pair_right : FnScope ["flat", "told", "point"] ["flat"] (defScope s__law_pair_right) := ⟨rfl, rfl, rfl, by decide +kernel, rfl, by decide +kernel, by decide +kernel⟩
theorem b__law_pair_right (T : Fx K mg Z) : Binds K Z.fd__law_pair_right ["flat"] [] := T.d__law_pair_right.bindsN fun _ _ _ _ _ _ us hl => match us, hl with | [_], _ => rfl
theorem ok__law_pair_right (T : Fx K mg Z) : FnOk P w K mg base (L2.CX P w) 6 (He.ga K "_law_pair_right") Z.fd__law_pair_right ["flat"] (spF K 1 f__law_pair_right) := fn_okF (k := 5) (m := m__law_pair_right) T.d__law_pair_right sc__law_pair_right rfl rfl fun cdv A outer s H E hr =>
  (qss_cons (qs_set sc__law_pair_right.nd (i := 1) rfl (by first | exact Or.inl rfl | exact Or.inr rfl) (qo_call (ok_good_pair T) (hr.mono (by decide)) rfl T.g_good_pair T.d_good_pair.kp (b_good_pair T) .nil (fun _ => rfl) (takes_of rfl rfl rfl rfl) rfl (qa_cons (qe_frz (qo_make T.mk_Flat (ok_Flat___init__ T) (hr.mono (by decide)) rfl T.g_Flat (b_Flat___init__ T) .nil (fun _ => rfl) rfl (qa_cons (qe_ixV ix_itm o_item (pv 0) qe_int (by intro _ _; rfl)) (qa_cons (qe_ixV ix_itm o_item (pv 0) qe_int (by intro _ _; rfl)) qa_nil)) (lenA_cons (lenA_cons lenA_nil)))) qa_nil) (lenA_cons lenA_nil)))
    (qss_cons (qs_if (qw_t (qw_or (qt_not (qt_val (qe_isinst (pe_bltn (v := .ty "tuple") rfl T.b_tuple (by decide +kernel) rfl) (fun _ _ _ q => q) rfl T.b_isinstance (qe_var (pv 1))))) (qw_or1 (qt_cmp (op_neD (hru hr)) o_ne (qe_callV1 call_len_seq o_len rfl T.b_len (by decide +kernel) (pv 1)) qe_int (nomark _)))))
    (qss_one (qs_ret (qo_thw qe_bl)))
    qss_nil)
    (qss_cons (qs_forget (is := [2]) (qs_for (passes_of rfl) rfl (qi_seq (qe_var (pv 1))) (qg_name sc__law_pair_right.nd (i := 2) rfl (by first | exact Or.inl rfl | exact Or.inr rfl))
    (qss_one (qs_forget (is := [2]) (qs_if (qw_t (qw_or (qt_not (qt_val (qe_frz (qo_call (ok__law_is_point T) (hr.mono (by decide)) rfl T.g__law_is_point T.d__law_is_point.kp (b__law_is_point T) .nil (fun _ => rfl) (takes_of rfl rfl rfl rfl) rfl (qa_cons (qe_var (pv 2)) (qa_cons qe_int qa_nil)) (lenA_cons (lenA_cons lenA_nil)))))) (qw_or1 (qt_not (qt_val (qe_frz (qo_call (ok__law_is_whole T) (hr.mono (by decide)) rfl T.g__law_is_whole T.d__law_is_whole.kp (b__law_is_whole T) .nil (fun _ => rfl) (takes_of rfl rfl rfl rfl) rfl (qa_cons (qe_var (pv 2)) qa_nil) (lenA_cons lenA_nil))))))))
    (qss_one (qs_ret (qo_thw qe_bl)))
    qss_nil)))))
    (qss_one (qs_ret (qo_thw (qe_and (qe_cmp (op_neD (hru hr)) o_ne (qe_ixV ix_itm o_item (pv 1) qe_int (by intro _ _; rfl)) (qe_ixV ix_itm o_item (pv 1) qe_int (by intro _ _; rfl)) (nomark _)) (qe_one (qe_cmp (op_eqD (hru hr)) o_eq (qe_frz (qo_call (ok__law_mirrored T) (hr.mono (by decide)) rfl T.g__law_mirrored T.d__law_mirrored.kp (b__law_mirrored T) .nil (fun _ => rfl) (takes_of rfl rfl rfl rfl) rfl (qa_cons (qe_var (pv 0)) (qa_cons (qe_ixV ix_itm o_item (pv 1) qe_int (by intro _ _; rfl)) qa_nil)) (lenA_cons (lenA_cons lenA_nil)))) (qe_ixV ix_itm o_item (pv 1) qe_int (by intro _ _; rfl)) (nomark _))))))))))
theorem sc_between : FnScope ["p", "q"] ["p", "q"] (defScope s_between) := ⟨rfl, rfl, rfl, by decide +kernel, rfl, by decide +kernel, by decide +kernel⟩
theorem b_between (T : Fx K mg Z) : Binds K Z.fd_between ["p", "q"] [] := T.d_between.bindsN fun _ _ _ _ _ _ us hl => match us, hl with | [_, _], _ => rfl
theorem ok_between (T : Fx K mg Z) : FnOk P w K mg base (L2.CX P w) 7 (He.ga K "between") Z.fd_between ["p", "q"] (spF K 2 f_between) := fn_okF (k := 6) (m := m_between) T.d_between sc_between rfl rfl fun cdv A outer s H E hr =>
  (qss_cons (qs_if (qt_not (qt_val (qe_frz (qo_callD (dds := [.int 0]) (ok_is_point T) (hr.mono (by decide)) rfl T.g_is_point T.d_is_point.kp (b_is_point_1 T) (fun _ => ⟨_, _, rfl, rfl, rfl⟩) (takes_of rfl rfl rfl rfl) rfl (qa_cons (qe_var (pv 0)) qa_nil) (lenA_cons lenA_nil)))))
    (qss_one (qs_raise (names := ["place"]) rfl (takes_of rfl rfl rfl rfl) T.ox_BadPoint (fun f hf => by simp only [List.mem_cons, List.not_mem_nil, or_false] at hf; subst hf; first | exact T.na_BadPoint_place) T.in_BadPoint.1 T.in_BadPoint.2 (ok_BadPoint___init__ T) (hr.mono (by decide)) (b_BadPoint___init__ T) rfl T.g_BadPoint (qa_cons qe_int qa_nil)))
    qss_nil)
    (qss_cons (qs_expr (qo_callD (dds := []) (ok_check_point T) (hr.mono (by decide)) rfl T.g_check_point T.d_check_point.kp (b_check_point_3 T) (fun _ => rfl) (takes_of rfl rfl rfl rfl) rfl (qa_cons (qe_var (pv 1)) (qa_cons (qe_callV1 call_len_seq o_len rfl T.b_len (by decide +kernel) (pv 0)) (qa_cons qe_int qa_nil))) (lenA_cons (lenA_cons (lenA_cons lenA_nil)))))
    (qss_cons (qs_if (qt_cmp (op_eqD (hru hr)) o_eq (qe_var (pv 0)) (qe_var (pv 1)) (nomark _))
    (qss_one qs_stuck)
    qss_nil)
    (qss_one (qs_ret (qo_call (ok_flat_from T) (hr.mono (by decide)) rfl T.g_flat_from T.d_flat_from.kp (b_flat_from T) .nil (fun _ => rfl) (takes_of rfl rfl rfl rfl) rfl (qa_cons (qe_frz (qo_call (ok_taken T) (hr.mono (by decide)) rfl T.g_taken T.d_taken.kp (b_taken T) .nil (fun _ => rfl) (takes_of rfl rfl rfl rfl) rfl (qa_cons (qe_var (pv 0)) (qa_cons (qe_var (pv 1)) qa_nil)) (lenA_cons (lenA_cons lenA_nil)))) (qa_cons (qe_frz (qo_call (ok_times T) (hr.mono (by decide)) rfl T.g_times T.d_times.kp (b_times T) .nil (fun _ => rfl) (takes_of rfl rfl rfl rfl) rfl (qa_cons (qe_frz (qo_call (ok_minus T) (hr.mono (by decide)) rfl T.g_minus T.d_minus.kp (b_minus T) .nil (fun _ => rfl) (takes_of rfl rfl rfl rfl) rfl (qa_cons (qe_frz (qo_call (ok_squared T) (hr.mono (by decide)) rfl T.g_squared T.d_squared.kp (b_squared T) .nil (fun _ => rfl) (takes_of rfl rfl rfl rfl) rfl (qa_cons (qe_var (pv 0)) qa_nil) (lenA_cons lenA_nil))) (qa_cons (qe_frz (qo_call (ok_squared T) (hr.mono (by decide)) rfl T.g_squared T.d_squared.kp (b_squared T) .nil (fun _ => rfl) (takes_of rfl rfl rfl rfl) rfl (qa_cons (qe_var (pv 1)) qa_nil) (lenA_cons lenA_nil))) qa_nil)) (lenA_cons (lenA_cons lenA_nil)))) (qa_cons (qe_tup (qa_cons qe_int (qa_cons qe_int qa_nil))) qa_nil)) (lenA_cons (lenA_cons lenA_nil)))) qa_nil)) (lenA_cons (lenA_cons lenA_nil))))))))
theorem sc__law_image_right : FnScope ["flat", "point", "told", "image"] ["flat", "point"] (defScope s__law_image_right) := ⟨rfl, rfl, rfl, by decide +kernel, rfl, by decide +kernel, by decide +kernel⟩
theorem b__law_image_right (T : Fx K mg Z) : Binds K Z.fd__law_image_right ["flat", "point"] [] := T.d__law_image_right.bindsN fun _ _ _ _ _ _ us hl => match us, hl with | [_, _], _ => rfl
theorem ok__law_image_right (T : Fx K mg Z) : FnOk P w K mg base (L2.CX P w) 7 (He.ga K "_law_image_right") Z.fd__law_image_right ["flat", "point"] (spF K 2 f__law_image_right) := fn_okF (k := 6) (m := m__law_image_right) T.d__law_image_right sc__law_image_right rfl rfl fun cdv A outer s H E hr =>
  (qss_cons (qs_set sc__law_image_right.nd (i := 2) rfl (by first | exact Or.inl rfl | exact Or.inr rfl) (qo_call (ok_whole_mirrored T) (hr.mono (by decide)) rfl T.g_whole_mirrored T.d_whole_mirrored.kp (b_whole_mirrored T) .nil (fun _ => rfl) (takes_of rfl rfl rfl rfl) rfl (qa_cons (qe_frz (qo_make T.mk_Flat (ok_Flat___init__ T) (hr.mono (by decide)) rfl T.g_Flat (b_Flat___init__ T) .nil (fun _ => rfl) rfl (qa_cons (qe_ixV ix_itm o_item (pv 0) qe_int (by intro _ _; rfl)) (qa_cons (qe_ixV ix_itm o_item (pv 0) qe_int (by intro _ _; rfl)) qa_nil)) (lenA_cons (lenA_cons lenA_nil)))) (qa_cons (qe_var (pv 1)) qa_nil)) (lenA_cons (lenA_cons lenA_nil))))
    (qss_cons (qs_set sc__law_image_right.nd (i := 3) rfl (by first | exact Or.inl rfl | exact Or.inr rfl) (qo_call (ok__law_mirrored T) (hr.mono (by decide)) rfl T.g__law_mirrored T.d__law_mirrored.kp (b__law_mirrored T) .nil (fun _ => rfl) (takes_of rfl rfl rfl rfl) rfl (qa_cons (qe_var (pv 0)) (qa_cons (qe_var (pv 1)) qa_nil)) (lenA_cons (lenA_cons lenA_nil))))
    (qss_cons (qs_if (qw_t (qw_and (qt_val (qe_frz (qo_call (ok__law_is_whole T) (hr.mono (by decide)) rfl T.g__law_is_whole T.d__law_is_whole.kp (b__law_is_whole T) .nil (fun _ => rfl) (takes_of rfl rfl rfl rfl) rfl (qa_cons (qe_var (pv 1)) qa_nil) (lenA_cons lenA_nil)))) (qw_and1 (qt_val (qe_frz (qo_call (ok__law_is_whole T) (hr.mono (by decide)) rfl T.g__law_is_whole T.d__law_is_whole.kp (b__law_is_whole T) .nil (fun _ => rfl) (takes_of rfl rfl rfl rfl) rfl (qa_cons (qe_var (pv 3)) qa_nil) (lenA_cons lenA_nil)))))))
    (qss_one (qs_ret (qo_thw (qe_cmp (op_eqD (hru hr)) o_eq (qe_var (pv 2)) (qe_var (pv 3)) (nomark _)))))
    qss_nil)
    (qss_one (qs_ret (qo_thw (qe_isN (qe_var (pv 2)))))))))
theorem sc__law_refusal : FnScope ["which", "handed", "told", "raised"] ["which", "handed"] (defScope s__law_refusal) := ⟨rfl, rfl, rfl, by decide +kernel, rfl, by decide +kernel, by decide +kernel⟩
theorem b__law_refusal (T : Fx K mg Z) : Binds K Z.fd__law_refusal ["which", "handed"] [] := T.d__law_refusal.bindsN fun _ _ _ _ _ _ us hl => match us, hl with | [_, _], _ => rfl
theorem ok__law_refusal (T : Fx K mg Z) : FnOk P w K mg base (L2.CX P w) 7 (He.ga K "_law_refusal") Z.fd__law_refusal ["which", "handed"] (spF K 2 f__law_refusal) := fn_okF (k := 6) (m := m__law_refusal) T.d__law_refusal sc__law_refusal rfl rfl fun cdv A outer s H E hr =>
  (qss_cons (qs_set sc__law_refusal.nd (i := 2) rfl (by first | exact Or.inl rfl | exact Or.inr rfl) (qo_thw (qe_tup (qa_cons qe_str qa_nil))))
    (qss_cons (qs_try rfl rfl sc__law_refusal.nd (takes_of rfl rfl rfl rfl) (fun _ _ => trivial) (mtOf_ok T.mt) (fun W pn xe tk1 po1 =>
    (qss_one (qs_if (qt_cmp (op_eqD (hru hr)) o_eq (qe_var (pv 0)) qe_int (nomark _))
    (qss_one (qs_expr (qo_call (ok_is_good T) (hr.mono (by decide)) rfl T.g_is_good T.d_is_good.kp (b_is_good T) .nil (fun _ => rfl) tk1 rfl (qa_cons (qe_ixV ix_itm o_item (pv 1) qe_int (by intro _ _; rfl)) qa_nil) (lenA_cons lenA_nil))))
    (qss_one (qs_if (qt_cmp (op_eqD (hru hr)) o_eq (qe_var (pv 0)) qe_int (nomark _))
    (qss_one (qs_expr (qo_call (ok_good_pair T) (hr.mono (by decide)) rfl T.g_good_pair T.d_good_pair.kp (b_good_pair T) .nil (fun _ => rfl) tk1 rfl (qa_cons (qe_ixV ix_itm o_item (pv 1) qe_int (by intro _ _; rfl)) qa_nil) (lenA_cons lenA_nil))))
    (qss_one (qs_expr (qo_call (ok_whole_mirrored T) (hr.mono (by decide)) rfl T.g_whole_mirrored T.d_whole_mirrored.kp (b_whole_mirrored T) .nil (fun _ => rfl) tk1 rfl (qa_cons (qe_ixV ix_itm o_item (pv 1) qe_int (by intro _ _; rfl)) (qa_cons (qe_ixV ix_itm o_item (pv 1) qe_int (by intro _ _; rfl)) qa_nil)) (lenA_cons (lenA_cons lenA_nil))))))))))
    (.named (i := 3) rfl rfl ⟨rfl, by decide, .inl T.g_BadPoint⟩ (fun a oe d pn c ns ds hm hz hf => (qss_one (qs_set sc__law_refusal.nd (i := 2) rfl (by first | exact Or.inl rfl | exact Or.inr rfl) (qo_thw (qe_tup (qa_cons qe_str (qa_cons (qe_exFld (mtOf_leaf (by decide) hm) T.xf_BadPoint T.na_BadPoint_place hz hf (pv 3)) qa_nil))))))) (.named (i := 3) rfl rfl ⟨rfl, by decide, .inl T.g_OtherSpace⟩ (fun a oe d pn c ns ds hm hz hf => (qss_one (qs_set sc__law_refusal.nd (i := 2) rfl (by first | exact Or.inl rfl | exact Or.inr rfl) (qo_thw (qe_tup (qa_cons qe_str (qa_cons (qe_exFld (mtOf_leaf (by decide) hm) T.xf_OtherSpace T.na_OtherSpace_wanted hz hf (pv 3)) (qa_cons (qe_exFld (mtOf_leaf (by decide) hm) T.xf_OtherSpace T.na_OtherSpace_got hz hf (pv 3)) qa_nil)))))))) .nil)))
    (qss_one (qs_ret (qo_move (pv 2))))))
theorem sc__law_line_right : FnScope ["drawn", "flat", "reach", "due", "told", "x", "y", "point", "image", "points"] ["drawn", "flat", "reach"] (defScope s__law_line_right) := ⟨rfl, rfl, rfl, by decide +kernel, rfl, by decide +kernel, by decide +kernel⟩
theorem b__law_line_right (T : Fx K mg Z) : Binds K Z.fd__law_line_right ["drawn", "flat", "reach"] [] := T.d__law_line_right.bindsN fun _ _ _ _ _ _ us hl => match us, hl with | [_, _, _], _ => rfl
theorem ok__law_line_right (T : Fx K mg Z) : FnOk P w K mg base (L2.CX P w) 8 (He.ga K "_law_line_right") Z.fd__law_line_right ["drawn", "flat", "reach"] (spF K 3 f__law_line_right) := fn_okF (k := 7) (m := m__law_line_right) T.d__law_line_right sc__law_line_right rfl rfl fun cdv A outer s H E hr =>
  (qss_cons (qs_set sc__law_line_right.nd (i := 3) rfl (by first | exact Or.inl rfl | exact Or.inr rfl) (qo_call (ok__law_due T) (hr.mono (by decide)) rfl T.g__law_due T.d__law_due.kp (b__law_due T) .nil (fun _ => rfl) (takes_of rfl rfl rfl rfl) rfl (qa_cons (qe_var (pv 1)) qa_nil) (lenA_cons lenA_nil)))
    (qss_cons (qs_set sc__law_line_right.nd (i := 4) rfl (by first | exact Or.inl rfl | exact Or.inr rfl) (qo_call (ok_is_good T) (hr.mono (by decide)) rfl T.g_is_good T.d_is_good.kp (b_is_good T) .nil (fun _ => rfl) (takes_of rfl rfl rfl rfl) rfl (qa_cons (qe_frz (qo_make T.mk_Flat (ok_Flat___init__ T) (hr.mono (by decide)) rfl T.g_Flat (b_Flat___init__ T) .nil (fun _ => rfl) rfl (qa_cons (qe_ixV ix_itm o_item (pv 1) qe_int (by intro _ _; rfl)) (qa_cons (qe_ixV ix_itm o_item (pv 1) qe_int (by intro _ _; rfl)) qa_nil)) (lenA_cons (lenA_cons lenA_nil)))) qa_nil) (lenA_cons lenA_nil)))
    (qss_cons (qs_if (qw_t (qw_or (qt_not (qt_val (qe_isinst (pe_bltn (v := .ty "bool") rfl T.b_bool (by decide +kernel) rfl) (fun _ _ _ q => q) rfl T.b_isinstance (qe_var (pv 4))))) (qw_or1 (qt_cmp (op_neD (hru hr)) o_ne (qe_var (pv 4)) (qe_var (pv 3)) (nomark _)))))
    (qss_one (qs_ret (qo_thw qe_bl)))
    qss_nil)
    (qss_cons (qs_if (qw_t (qw_and (qt_truthV (pv 3)) (qw_and1 (qt_not (qt_val (qe_frz (qo_call (ok__law_pair_right T) (hr.mono (by decide)) rfl T.g__law_pair_right T.d__law_pair_right.kp (b__law_pair_right T) .nil (fun _ => rfl) (takes_of rfl rfl rfl rfl) rfl (qa_cons (qe_var (pv 1)) qa_nil) (lenA_cons lenA_nil))))))))
    (qss_one (qs_ret (qo_thw qe_bl)))
    qss_nil)
    (qss_cons (qs_if (qw_t (qw_and (qt_not (qt_truthV (pv 3))) (qw_and1 (qt_cmp op_notN o_notN2 (qe_frz (qo_call (ok_good_pair T) (hr.mono (by decide)) rfl T.g_good_pair T.d_good_pair.kp (b_good_pair T) .nil (fun _ => rfl) (takes_of rfl rfl rfl rfl) rfl (qa_cons (qe_frz (qo_make T.mk_Flat (ok_Flat___init__ T) (hr.mono (by decide)) rfl T.g_Flat (b_Flat___init__ T) .nil (fun _ => rfl) rfl (qa_cons (qe_ixV ix_itm o_item (pv 1) qe_int (by intro _ _; rfl)) (qa_cons (qe_ixV ix_itm o_item (pv 1) qe_int (by intro _ _; rfl)) qa_nil)) (lenA_cons (lenA_cons lenA_nil)))) qa_nil) (lenA_cons lenA_nil))) qe_non (nomark _)))))
    (qss_one (qs_ret (qo_thw qe_bl)))
    qss_nil)
    (qss_cons (qs_forget (is := [5, 6, 7, 8]) (qs_for (passes_of rfl) rfl (qi_range2 rfl T.b_range (qe_un un_neg o_neg (qe_var (pv 2))) (qe_op2 op_addA o_add (qe_var (pv 2)) qe_int)) (qg_name sc__law_line_right.nd (i := 5) rfl (by first | exact Or.inl rfl | exact Or.inr rfl))
    (qss_one (qs_forget (is := [5, 6, 7, 8]) (qs_forget (is := [6, 7, 8]) (qs_for (passes_of rfl) rfl (qi_range2 rfl T.b_range (qe_un un_neg o_neg (qe_var (pv 2))) (qe_op2 op_addA o_add (qe_var (pv 2)) qe_int)) (qg_name sc__law_line_right.nd (i := 6) rfl (by first | exact Or.inl rfl | exact Or.inr rfl))
    (qss_cons (qs_set sc__law_line_right.nd (i := 7) rfl (by first | exact Or.inl rfl | exact Or.inr rfl) (qo_call (ok__law_point T) (hr.mono (by decide)) rfl T.g__law_point T.d__law_point.kp (b__law_point T) .nil (fun _ => rfl) (takes_of rfl rfl rfl rfl) rfl (qa_cons (qe_frz (qo_lst (qa_cons (qe_var (pv 5)) (qa_cons (qe_var (pv 6)) qa_nil)))) qa_nil) (lenA_cons lenA_nil)))
    (qss_cons (qs_set sc__law_line_right.nd (i := 8) rfl (by first | exact Or.inl rfl | exact Or.inr rfl) (qo_call (ok__law_mirrored T) (hr.mono (by decide)) rfl T.g__law_mirrored T.d__law_mirrored.kp (b__law_mirrored T) .nil (fun _ => rfl) (takes_of rfl rfl rfl rfl) rfl (qa_cons (qe_var (pv 1)) (qa_cons (qe_var (pv 7)) qa_nil)) (lenA_cons (lenA_cons lenA_nil))))
    (qss_one (qs_forget (is := [6, 7, 8]) (qs_if (qw_t (qw_and (qt_not (qt_truthV (pv 3))) (qw_and (qt_val (qe_frz (qo_call (ok__law_is_whole T) (hr.mono (by decide)) rfl T.g__law_is_whole T.d__law_is_whole.kp (b__law_is_whole T) .nil (fun _ => rfl) (takes_of rfl rfl rfl rfl) rfl (qa_cons (qe_var (pv 8)) qa_nil) (lenA_cons lenA_nil)))) (qw_and1 (qt_cmp (op_neD (hru hr)) o_ne (qe_var (pv 8)) (qe_var (pv 7)) (nomark _))))))
    (qss_one (qs_ret (qo_thw qe_bl)))
    qss_nil)))))))))))
    (qss_cons (qs_set sc__law_line_right.nd (i := 9) rfl (by first | exact Or.inl rfl | exact Or.inr rfl) (qo_lst (qa_cons (qe_frz (qo_call (ok__law_point T) (hr.mono (by decide)) rfl T.g__law_point T.d__law_point.kp (b__law_point T) .nil (fun _ => rfl) (takes_of rfl rfl rfl rfl) rfl (qa_cons (qe_frz (qo_lst (qa_cons (qe_op2 op_sub o_sub (qe_frz (qo_callL (ok__law_take T) (hr.mono (by decide)) rfl T.g__law_take T.d__law_take.kp (b__law_take T) .nil (fun _ => rfl) (takes_of rfl rfl rfl rfl) rfl (pv 0) (qa_cons qe_int qa_nil) (lenA_cons lenA_nil))) qe_int) (qa_cons (qe_op2 op_sub o_sub (qe_frz (qo_callL (ok__law_take T) (hr.mono (by decide)) rfl T.g__law_take T.d__law_take.kp (b__law_take T) .nil (fun _ => rfl) (takes_of rfl rfl rfl rfl) rfl (pv 0) (qa_cons qe_int qa_nil) (lenA_cons lenA_nil))) qe_int) qa_nil)))) qa_nil) (lenA_cons lenA_nil))) qa_nil)))
    (qss_cons (qs_expr (qo_thw (qe_append (pe_bm PySem.F.plainAttrs_list PySem.F.slot_list_append PySem.F.type_list_append mt_append (pv 9) (pa_cons (qe_tup (qa_cons (qe_frz (qo_call (ok__law_frac T) (hr.mono (by decide)) rfl T.g__law_frac T.d__law_frac.kp (b__law_frac T) .nil (fun _ => rfl) (takes_of rfl rfl rfl rfl) rfl (qa_cons (qe_frz (qo_callL (ok__law_take T) (hr.mono (by decide)) rfl T.g__law_take T.d__law_take.kp (b__law_take T) .nil (fun _ => rfl) (takes_of rfl rfl rfl rfl) rfl (pv 0) (qa_cons qe_int qa_nil) (lenA_cons lenA_nil))) (qa_cons qe_int qa_nil)) (lenA_cons (lenA_cons lenA_nil)))) (qa_cons (qe_frz (qo_call (ok__law_frac T) (hr.mono (by decide)) rfl T.g__law_frac T.d__law_frac.kp (b__law_frac T) .nil (fun _ => rfl) (takes_of rfl rfl rfl rfl) rfl (qa_cons (qe_op2 op_sub o_sub (qe_frz (qo_callL (ok__law_take T) (hr.mono (by decide)) rfl T.g__law_take T.d__law_take.kp (b__law_take T) .nil (fun _ => rfl) (takes_of rfl rfl rfl rfl) rfl (pv 0) (qa_cons qe_int qa_nil) (lenA_cons lenA_nil))) qe_int) (qa_cons (qe_op2 op_addA o_add qe_int (qe_frz (qo_callL (ok__law_take T) (hr.mono (by decide)) rfl T.g__law_take T.d__law_take.kp (b__law_take T) .nil (fun _ => rfl) (takes_of rfl rfl rfl rfl) rfl (pv 0) (qa_cons qe_int qa_nil) (lenA_cons lenA_nil)))) qa_nil)) (lenA_cons (lenA_cons lenA_nil)))) qa_nil))) pa_nil)))))
    (qss_cons (qs_if (qt_truthV (pv 3))
    (qss_one (qs_expr (qo_thw (qe_append (pe_bm PySem.F.plainAttrs_list PySem.F.slot_list_append PySem.F.type_list_append mt_append (pv 9) (pa_cons (qe_ix ix_itm o_item.op (qe_frz (qo_call (ok_good_pair T) (hr.mono (by decide)) rfl T.g_good_pair T.d_good_pair.kp (b_good_pair T) .nil (fun _ => rfl) (takes_of rfl rfl rfl rfl) rfl (qa_cons (qe_frz (qo_make T.mk_Flat (ok_Flat___init__ T) (hr.mono (by decide)) rfl T.g_Flat (b_Flat___init__ T) .nil (fun _ => rfl) rfl (qa_cons (qe_ixV ix_itm o_item (pv 1) qe_int (by intro _ _; rfl)) (qa_cons (qe_ixV ix_itm o_item (pv 1) qe_int (by intro _ _; rfl)) qa_nil)) (lenA_cons (lenA_cons lenA_nil)))) qa_nil) (lenA_cons lenA_nil))) qe_int (by intro _ _; rfl)) pa_nil))))))
    qss_nil)
    (qss_cons (qs_forget (is := [7]) (qs_for (passes_of rfl) rfl (qi_seq (qe_var (pv 9))) (qg_name sc__law_line_right.nd (i := 7) rfl (by first | exact Or.inl rfl | exact Or.inr rfl))
    (qss_one (qs_forget (is := [7]) (qs_if (qt_not (qt_val (qe_frz (qo_call (ok__law_image_right T) (hr.mono (by decide)) rfl T.g__law_image_right T.d__law_image_right.kp (b__law_image_right T) .nil (fun _ => rfl) (takes_of rfl rfl rfl rfl) rfl (qa_cons (qe_var (pv 1)) (qa_cons (qe_var (pv 7)) qa_nil)) (lenA_cons (lenA_cons lenA_nil))))))
    (qss_one (qs_ret (qo_thw qe_bl)))
    qss_nil)))))
    (qss_one (qs_ret (qo_thw qe_bl)))))))))))))
theorem sc__law_between_right : FnScope ["drawn", "wide", "one", "step", "often", "point", "other", "line", "flat", "part"] ["drawn", "wide"] (defScope s__law_between_right) := ⟨rfl, rfl, rfl, by decide +kernel, rfl, by decide +kernel, by decide +kernel⟩
theorem b__law_between_right (T : Fx K mg Z) : Binds K Z.fd__law_between_right ["drawn", "wide"] [] := T.d__law_between_right.bindsN fun _ _ _ _ _ _ us hl => match us, hl with | [_, _], _ => rfl
theorem ok__law_between_right (T : Fx K mg Z) : FnOk P w K mg base (L2.CX P w) 8 (He.ga K "_law_between_right") Z.fd__law_between_right ["drawn", "wide"] (spF K 2 f__law_between_right) := fn_okF (k := 7) (m := m__law_between_right) T.d__law_between_right sc__law_between_right rfl rfl fun cdv A outer s H E hr =>
  (qss_cons (qs_setLc (own := [("part", 9)]) (i := 2) rfl sc__law_between_right.nd (by decide) rfl rfl (sw_true rfl rfl rfl (by decide +kernel)) (qi_range1 rfl T.b_range qe_int) (blkOk_by (own := [("part", 9)]) (N := ["drawn", "wide", "one", "step", "often", "point", "other", "line", "flat", "part"]) (sc := defScope s__law_between_right) (by decide +kernel)) (fun _ _ _ _ _ => (qgw_name sc__law_between_right.nd (i := 9) rfl (by first | exact Or.inl rfl | exact Or.inr rfl) (by decide))) (fun _ _ _ _ _ => qts_nil) (fun _ _ _ _ _ => (qe_op2 op_sub o_sub (qe_frz (qo_callL (ok__law_take T) (hr.mono (by decide)) rfl T.g__law_take T.d__law_take.kp (b__law_take T) .nil (fun _ => rfl) takes0 rfl (pv 0) (qa_cons (qe_op2 op_addA o_add (qe_op2 op_mulW o_mul qe_int (qe_var (pv 1))) qe_int) qa_nil) (lenA_cons lenA_nil))) (qe_var (pv 1)))))
    (qss_cons (qs_set sc__law_between_right.nd (i := 3) rfl (by first | exact Or.inl rfl | exact Or.inr rfl) (qo_lst (qa_cons (qe_op2 op_sub o_sub (qe_frz (qo_callL (ok__law_take T) (hr.mono (by decide)) rfl T.g__law_take T.d__law_take.kp (b__law_take T) .nil (fun _ => rfl) (takes_of rfl rfl rfl rfl) rfl (pv 0) (qa_cons (qe_op2 op_addA o_add (qe_op2 op_mulW o_mul qe_int (qe_var (pv 1))) qe_int) qa_nil) (lenA_cons lenA_nil))) (qe_var (pv 1))) (qa_cons (qe_op2 op_addA o_add qe_int (qe_frz (qo_callL (ok__law_take T) (hr.mono (by decide)) rfl T.g__law_take T.d__law_take.kp (b__law_take T) .nil (fun _ => rfl) (takes_of rfl rfl rfl rfl) rfl (pv 0) (qa_cons (qe_var (pv 1)) qa_nil) (lenA_cons lenA_nil)))) qa_nil))))
    (qss_cons (qs_if (qt_cmp (op_eqD (hru hr)) o_eq (qe_frz (qo_callL (ok__law_take T) (hr.mono (by decide)) rfl T.g__law_take T.d__law_take.kp (b__law_take T) .nil (fun _ => rfl) (takes_of rfl rfl rfl rfl) rfl (pv 0) (qa_cons qe_int qa_nil) (lenA_cons lenA_nil))) qe_int (nomark _))
    (qss_one (qs_set sc__law_between_right.nd (i := 3) rfl (by first | exact Or.inl rfl | exact Or.inr rfl) (qo_lst (qa_cons (qe_ixV ix_itm o_item (pv 3) qe_int (by intro _ _; rfl)) (qa_cons qe_int qa_nil)))))
    qss_nil)
    (qss_cons (qs_set sc__law_between_right.nd (i := 4) rfl (by first | exact Or.inl rfl | exact Or.inr rfl) (qo_thw (qe_op2 op_addA o_add qe_int (qe_frz (qo_callL (ok__law_take T) (hr.mono (by decide)) rfl T.g__law_take T.d__law_take.kp (b__law_take T) .nil (fun _ => rfl) (takes_of rfl rfl rfl rfl) rfl (pv 0) (qa_cons qe_int qa_nil) (lenA_cons lenA_nil))))))
    (qss_cons (qs_set sc__law_between_right.nd (i := 5) rfl (by first | exact Or.inl rfl | exact Or.inr rfl) (qo_call (ok__law_point T) (hr.mono (by decide)) rfl T.g__law_point T.d__law_point.kp (b__law_point T) .nil (fun _ => rfl) (takes_of rfl rfl rfl rfl) rfl (qa_cons (qe_var (pv 2)) qa_nil) (lenA_cons lenA_nil)))
    (qss_cons (qs_set sc__law_between_right.nd (i := 6) rfl (by first | exact Or.inl rfl | exact Or.inr rfl) (qo_call (ok__law_point T) (hr.mono (by decide)) rfl T.g__law_point T.d__law_point.kp (b__law_point T) .nil (fun _ => rfl) (takes_of rfl rfl rfl rfl) rfl (qa_cons (qe_frz (qo_lst (qa_cons (qe_op2 op_addA o_add (qe_ixV ix_itm o_item (pv 2) qe_int (by intro _ _; rfl)) (qe_op2 op_mulW o_mul (qe_var (pv 4)) (qe_ixV ix_itm o_item (pv 3) qe_int (by intro _ _; rfl)))) (qa_cons (qe_op2 op_addA o_add (qe_ixV ix_itm o_item (pv 2) qe_int (by intro _ _; rfl)) (qe_op2 op_mulW o_mul (qe_var (pv 4)) (qe_ixV ix_itm o_item (pv 3) qe_int (by intro _ _; rfl)))) qa_nil)))) qa_nil) (lenA_cons lenA_nil)))
    (qss_cons (qs_set sc__law_between_right.nd (i := 7) rfl (by first | exact Or.inl rfl | exact Or.inr rfl) (qo_call (ok_between T) (hr.mono (by decide)) rfl T.g_between T.d_between.kp (b_between T) .nil (fun _ => rfl) (takes_of rfl rfl rfl rfl) rfl (qa_cons (qe_var (pv 5)) (qa_cons (qe_var (pv 6)) qa_nil)) (lenA_cons (lenA_cons lenA_nil))))
    (qss_cons (qs_set sc__law_between_right.nd (i := 8) rfl (by first | exact Or.inl rfl | exact Or.inr rfl) (qo_thw (qe_tup (qa_cons (qe_fldV (tab := ["Flat"]) (ft_direction T) (pv 7)) (qa_cons (qe_fldV (tab := ["Flat"]) (ft_offset T) (pv 7)) qa_nil)))))
    (qss_cons (qs_if (qw_t (qw_or (qt_cmp op_isnot_bl o_isnB (qe_frz (qo_call (ok_is_good T) (hr.mono (by decide)) rfl T.g_is_good T.d_is_good.kp (b_is_good T) .nil (fun _ => rfl) (takes_of rfl rfl rfl rfl) rfl (qa_cons (qe_var (pv 7)) qa_nil) (lenA_cons lenA_nil))) qe_bl (nomark _)) (qw_or (qt_not (qt_val (qe_frz (qo_call (ok__law_due T) (hr.mono (by decide)) rfl T.g__law_due T.d__law_due.kp (b__law_due T) .nil (fun _ => rfl) (takes_of rfl rfl rfl rfl) rfl (qa_cons (qe_var (pv 8)) qa_nil) (lenA_cons lenA_nil))))) (qw_or1 (qt_not (qt_val (qe_frz (qo_call (ok__law_pair_right T) (hr.mono (by decide)) rfl T.g__law_pair_right T.d__law_pair_right.kp (b__law_pair_right T) .nil (fun _ => rfl) (takes_of rfl rfl rfl rfl) rfl (qa_cons (qe_var (pv 8)) qa_nil) (lenA_cons lenA_nil)))))))))
    (qss_one (qs_ret (qo_thw qe_bl)))
    qss_nil)
    (qss_one (qs_ret (qo_thw (qe_and (qe_cmp (op_eqD (hru hr)) o_eq (qe_frz (qo_call (ok_whole_mirrored T) (hr.mono (by decide)) rfl T.g_whole_mirrored T.d_whole_mirrored.kp (b_whole_mirrored T) .nil (fun _ => rfl) (takes_of rfl rfl rfl rfl) rfl (qa_cons (qe_var (pv 7)) (qa_cons (qe_var (pv 5)) qa_nil)) (lenA_cons (lenA_cons lenA_nil)))) (qe_var (pv 6)) (nomark _)) (qe_one (qe_cmp (op_eqD (hru hr)) o_eq (qe_frz (qo_call (ok__law_mirrored T) (hr.mono (by decide)) rfl T.g__law_mirrored T.d__law_mirrored.kp (b__law_mirrored T) .nil (fun _ => rfl) (takes_of rfl rfl rfl rfl) rfl (qa_cons (qe_var (pv 8)) (qa_cons (qe_var (pv 5)) qa_nil)) (lenA_cons (lenA_cons lenA_nil)))) (qe_var (pv 6)) (nomark _))))))))))))))))
theorem sc__law_refuses : FnScope ["drawn", "flat", "size", "wide", "none", "line", "which"] ["drawn", "flat"] (defScope s__law_refuses) := ⟨rfl, rfl, rfl, by decide +kernel, rfl, by decide +kernel, by decide +kernel⟩
theorem b__law_refuses (T : Fx K mg Z) : Binds K Z.fd__law_refuses ["drawn", "flat"] [] := T.d__law_refuses.bindsN fun _ _ _ _ _ _ us hl => match us, hl with | [_, _], _ => rfl
theorem ok__law_refuses (T : Fx K mg Z) : FnOk P w K mg base (L2.CX P w) 8 (He.ga K "_law_refuses") Z.fd__law_refuses ["drawn", "flat"] (spF K 2 f__law_refuses) := fn_okF (k := 7) (m := m__law_refuses) T.d__law_refuses sc__law_refuses rfl rfl fun cdv A outer s H E hr =>
  (qss_cons (qs_set sc__law_refuses.nd (i := 2) rfl (by first | exact Or.inl rfl | exact Or.inr rfl) (qo_thw (qe_op2 op_addA o_add qe_int (qe_op2 op_mulW o_mul qe_int (qe_frz (qo_callL (ok__law_take T) (hr.mono (by decide)) rfl T.g__law_take T.d__law_take.kp (b__law_take T) .nil (fun _ => rfl) (takes_of rfl rfl rfl rfl) rfl (pv 0) (qa_cons qe_int qa_nil) (lenA_cons lenA_nil)))))))
    (qss_cons (qs_set sc__law_refuses.nd (i := 3) rfl (by first | exact Or.inl rfl | exact Or.inr rfl) (qo_make T.mk_Flat (ok_Flat___init__ T) (hr.mono (by decide)) rfl T.g_Flat (b_Flat___init__ T) .nil (fun _ => rfl) rfl (qa_cons (qe_ty1 call_tuple_of o_tuple.op rfl T.b_tuple (by decide +kernel) (qe_op2 op_rep o_rep (qe_frz (qo_lst (qa_cons qe_int qa_nil))) (qe_var (pv 2)))) (qa_cons (qe_ixV ix_itm o_item (pv 1) qe_int (by intro _ _; rfl)) qa_nil)) (lenA_cons (lenA_cons lenA_nil))))
    (qss_cons (qs_set sc__law_refuses.nd (i := 4) rfl (by first | exact Or.inl rfl | exact Or.inr rfl) (qo_thw (qe_ix ix_itm o_item.op (qe_frz (qo_lst (qa_cons (qe_tup (qa_cons qe_int (qa_cons qe_int qa_nil))) (qa_cons (qe_frz (qo_lst (qa_cons (qe_tup (qa_cons qe_int (qa_cons qe_int qa_nil))) (qa_cons (qe_tup (qa_cons qe_int (qa_cons qe_int qa_nil))) qa_nil)))) (qa_cons (qe_tup (qa_cons (qe_tup (qa_cons qe_int (qa_cons qe_int qa_nil))) (qa_cons (qe_tup (qa_cons qe_int (qa_cons qe_int qa_nil))) qa_nil))) (qa_cons qe_non qa_nil)))))) (qe_frz (qo_callL (ok__law_take T) (hr.mono (by decide)) rfl T.g__law_take T.d__law_take.kp (b__law_take T) .nil (fun _ => rfl) (takes_of rfl rfl rfl rfl) rfl (pv 0) (qa_cons qe_int qa_nil) (lenA_cons lenA_nil))) (by intro _ _; rfl))))
    (qss_cons (qs_set sc__law_refuses.nd (i := 5) rfl (by first | exact Or.inl rfl | exact Or.inr rfl) (qo_make T.mk_Flat (ok_Flat___init__ T) (hr.mono (by decide)) rfl T.g_Flat (b_Flat___init__ T) .nil (fun _ => rfl) rfl (qa_cons (qe_ixV ix_itm o_item (pv 1) qe_int (by intro _ _; rfl)) (qa_cons (qe_ixV ix_itm o_item (pv 1) qe_int (by intro _ _; rfl)) qa_nil)) (lenA_cons (lenA_cons lenA_nil))))
    (qss_cons (qs_forget (is := [6]) (qs_for (passes_of rfl) rfl (qi_range1 rfl T.b_range qe_int) (qg_name sc__law_refuses.nd (i := 6) rfl (by first | exact Or.inl rfl | exact Or.inr rfl))
    (qss_one (qs_forget (is := [6]) (qs_if (qt_cmp (op_neD (hru hr)) o_ne (qe_frz (qo_call (ok__law_refusal T) (hr.mono (by decide)) rfl T.g__law_refusal T.d__law_refusal.kp (b__law_refusal T) .nil (fun _ => rfl) (takes_of rfl rfl rfl rfl) rfl (qa_cons (qe_var (pv 6)) (qa_cons (qe_frz (qo_lst (qa_cons (qe_var (pv 3)) (qa_cons (qe_var (pv 4)) qa_nil)))) qa_nil)) (lenA_cons (lenA_cons lenA_nil)))) (qe_tup (qa_cons qe_str (qa_cons qe_int (qa_cons (qe_var (pv 2)) qa_nil)))) (nomark _))
    (qss_one (qs_ret (qo_thw qe_bl)))
    qss_nil)))))
    (qss_cons (qs_if (qt_cmp (op_neD (hru hr)) o_ne (qe_frz (qo_call (ok__law_refusal T) (hr.mono (by decide)) rfl T.g__law_refusal T.d__law_refusal.kp (b__law_refusal T) .nil (fun _ => rfl) (takes_of rfl rfl rfl rfl) rfl (qa_cons qe_int (qa_cons (qe_frz (qo_lst (qa_cons (qe_var (pv 5)) (qa_cons (qe_var (pv 4)) qa_nil)))) qa_nil)) (lenA_cons (lenA_cons lenA_nil)))) (qe_tup (qa_cons qe_str (qa_cons qe_int qa_nil))) (nomark _))
    (qss_one (qs_ret (qo_thw qe_bl)))
    qss_nil)
    (qss_one (qs_ret (qo_thw (qe_cmp (op_eqD (hru hr)) o_eq (qe_frz (qo_call (ok__law_refusal T) (hr.mono (by decide)) rfl T.g__law_refusal T.d__law_refusal.kp (b__law_refusal T) .nil (fun _ => rfl) (takes_of rfl rfl rfl rfl) rfl (qa_cons qe_int (qa_cons (qe_frz (qo_lst (qa_cons (qe_var (pv 5)) (qa_cons (qe_frz (qo_call (ok__law_point T) (hr.mono (by decide)) rfl T.g__law_point T.d__law_point.kp (b__law_point T) .nil (fun _ => rfl) (takes_of rfl rfl rfl rfl) rfl (qa_cons (qe_op2 op_rep o_rep (qe_frz (qo_lst (qa_cons qe_int qa_nil))) (qe_var (pv 2))) qa_nil) (lenA_cons lenA_nil))) qa_nil)))) qa_nil)) (lenA_cons (lenA_cons lenA_nil)))) (qe_tup (qa_cons qe_str (qa_cons qe_int (qa_cons (qe_var (pv 2)) qa_nil)))) (nomark _)))))))))))
theorem sc_law : FnScope ["script", "drawn", "wide", "reach", "way", "turn", "lower", "offset"] ["script"] (defScope s_law) := ⟨rfl, rfl, rfl, by decide +kernel, rfl, by decide +kernel, by decide +kernel⟩
theorem b_law (T : Fx K mg Z) : Binds K Z.fd_law ["script"] [] := T.d_law.bindsN fun _ _ _ _ _ _ us hl => match us, hl with | [_], _ => rfl
theorem ok_law (T : Fx K mg Z) : FnOk P w K mg base (L2.CX P w) 9 (He.ga K "law") Z.fd_law ["script"] (spF K 1 f_law) := fn_okF (k := 8) (m := m_law) T.d_law sc_law rfl rfl fun cdv A outer s H E hr =>
  (qss_cons (qs_set sc_law.nd (i := 1) rfl (by first | exact Or.inl rfl | exact Or.inr rfl) (qo_call (ok__law_stream T) (hr.mono (by decide)) rfl T.g__law_stream T.d__law_stream.kp (b__law_stream T) .nil (fun _ => rfl) (takes_of rfl rfl rfl rfl) rfl (qa_cons (qe_var (pv 0)) qa_nil) (lenA_cons lenA_nil)))
    (qss_cons (qs_set sc_law.nd (i := 2) rfl (by first | exact Or.inl rfl | exact Or.inr rfl) (qo_thw qe_int))
    (qss_cons (qs_set sc_law.nd (i := 3) rfl (by first | exact Or.inl rfl | exact Or.inr rfl) (qo_thw qe_int))
    (qss_cons (qs_if (qt_cmp (op_eqD (hru hr)) o_eq (qe_frz (qo_callL (ok__law_take T) (hr.mono (by decide)) rfl T.g__law_take T.d__law_take.kp (b__law_take T) .nil (fun _ => rfl) (takes_of rfl rfl rfl rfl) rfl (pv 1) (qa_cons qe_int qa_nil) (lenA_cons lenA_nil))) qe_int (nomark _))
    (qss_cons (qs_set sc_law.nd (i := 2) rfl (by first | exact Or.inl rfl | exact Or.inr rfl) (qo_thw (qe_op2 op_pow o_pow qe_int qe_int)))
    (qss_one (qs_set sc_law.nd (i := 3) rfl (by first | exact Or.inl rfl | exact Or.inr rfl) (qo_thw qe_int))))
    qss_nil)
    (qss_cons (qs_set sc_law.nd (i := 4) rfl (by first | exact Or.inl rfl | exact Or.inr rfl) (qo_callL (ok__law_direction T) (hr.mono (by decide)) rfl T.g__law_direction T.d__law_direction.kp (b__law_direction T) .nil (fun _ => rfl) (takes_of rfl rfl rfl rfl) rfl (pv 1) (qa_cons (qe_var (pv 2)) qa_nil) (lenA_cons lenA_nil)))
    (qss_cons (qs_forget (is := [5, 6, 7]) (qs_for (passes_of rfl) rfl (qi_range1 rfl T.b_range qe_int) (qg_name sc_law.nd (i := 5) rfl (by first | exact Or.inl rfl | exact Or.inr rfl))
    (qss_cons (qs_set sc_law.nd (i := 6) rfl (by first | exact Or.inl rfl | exact Or.inr rfl) (qo_thw (qe_ix ix_itm o_item.op (qe_frz (qo_lst (qa_cons qe_int (qa_cons qe_int (qa_cons qe_int (qa_cons qe_int (qa_cons (qe_op2 op_addA o_add qe_int (qe_frz (qo_callL (ok__law_take T) (hr.mono (by decide)) rfl T.g__law_take T.d__law_take.kp (b__law_take T) .nil (fun _ => rfl) (takes_of rfl rfl rfl rfl) rfl (pv 1) (qa_cons qe_int qa_nil) (lenA_cons lenA_nil)))) qa_nil))))))) (qe_frz (qo_callL (ok__law_take T) (hr.mono (by decide)) rfl T.g__law_take T.d__law_take.kp (b__law_take T) .nil (fun _ => rfl) (takes_of rfl rfl rfl rfl) rfl (pv 1) (qa_cons qe_int qa_nil) (lenA_cons lenA_nil))) (by intro _ _; rfl))))
    (qss_cons (qs_set sc_law.nd (i := 7) rfl (by first | exact Or.inl rfl | exact Or.inr rfl) (qo_call (ok__law_frac T) (hr.mono (by decide)) rfl T.g__law_frac T.d__law_frac.kp (b__law_frac T) .nil (fun _ => rfl) (takes_of rfl rfl rfl rfl) rfl (qa_cons (qe_op2 op_sub o_sub (qe_frz (qo_callL (ok__law_take T) (hr.mono (by decide)) rfl T.g__law_take T.d__law_take.kp (b__law_take T) .nil (fun _ => rfl) (takes_of rfl rfl rfl rfl) rfl (pv 1) (qa_cons (qe_op2 op_addA o_add (qe_op2 op_mulW o_mul qe_int (qe_var (pv 2))) qe_int) qa_nil) (lenA_cons lenA_nil))) (qe_var (pv 2))) (qa_cons (qe_var (pv 6)) qa_nil)) (lenA_cons (lenA_cons lenA_nil))))
    (qss_cons (qs_if (qt_not (qt_val (qe_frz (qo_callL (ok__law_line_right T) (hr.mono (by decide)) rfl T.g__law_line_right T.d__law_line_right.kp (b__law_line_right T) .nil (fun _ => rfl) (takes_of rfl rfl rfl rfl) rfl (pv 1) (qa_cons (qe_tup (qa_cons (qe_var (pv 4)) (qa_cons (qe_var (pv 7)) qa_nil))) (qa_cons (qe_var (pv 3)) qa_nil)) (lenA_cons (lenA_cons lenA_nil))))))
    (qss_one (qs_ret (qo_thw qe_bl)))
    qss_nil)
    (qss_one (qs_forget (is := [5, 6, 7]) (qs_set sc_law.nd (i := 4) rfl (by first | exact Or.inl rfl | exact Or.inr rfl) (qo_callL (ok__law_direction T) (hr.mono (by decide)) rfl T.g__law_direction T.d__law_direction.kp (b__law_direction T) .nil (fun _ => rfl) (takes_of rfl rfl rfl rfl) rfl (pv 1) (qa_cons (qe_var (pv 2)) qa_nil) (lenA_cons lenA_nil))))))))))
    (qss_cons (qs_if (qt_not (qt_val (qe_frz (qo_callL (ok__law_line_right T) (hr.mono (by decide)) rfl T.g__law_line_right T.d__law_line_right.kp (b__law_line_right T) .nil (fun _ => rfl) (takes_of rfl rfl rfl rfl) rfl (pv 1) (qa_cons (qe_tup (qa_cons (qe_tup (qa_cons qe_int (qa_cons qe_int qa_nil))) (qa_cons (qe_tup (qa_cons (qe_op2 op_sub o_sub qe_int (qe_op2 op_mulW o_mul qe_int (qe_frz (qo_callL (ok__law_take T) (hr.mono (by decide)) rfl T.g__law_take T.d__law_take.kp (b__law_take T) .nil (fun _ => rfl) (takes_of rfl rfl rfl rfl) rfl (pv 1) (qa_cons qe_int qa_nil) (lenA_cons lenA_nil))))) (qa_cons qe_int qa_nil))) qa_nil))) (qa_cons qe_int qa_nil)) (lenA_cons (lenA_cons lenA_nil))))))
    (qss_one (qs_ret (qo_thw qe_bl)))
    qss_nil)
    (qss_cons (qs_if (qt_not (qt_val (qe_frz (qo_callL (ok__law_between_right T) (hr.mono (by decide)) rfl T.g__law_between_right T.d__law_between_right.kp (b__law_between_right T) .nil (fun _ => rfl) (takes_of rfl rfl rfl rfl) rfl (pv 1) (qa_cons (qe_var (pv 2)) qa_nil) (lenA_cons lenA_nil)))))
    (qss_one (qs_ret (qo_thw qe_bl)))
    qss_nil)
    (qss_one (qs_ret (qo_callL (ok__law_refuses T) (hr.mono (by decide)) rfl T.g__law_refuses T.d__law_refuses.kp (b__law_refuses T) .nil (fun _ => rfl) (takes_of rfl rfl rfl rfl) rfl (pv 1) (qa_cons (qe_tup (qa_cons (qe_var (pv 4)) (qa_cons (qe_tup (qa_cons qe_int (qa_cons qe_int qa_nil))) qa_nil))) qa_nil) (lenA_cons lenA_nil))))))))))))
end
end HT

set_option Elab.async false
set_option linter.all false
set_option maxRecDepth 100000
set_option maxHeartbeats 0
/-! K90Run: the top by one kernel run; the law from its plain form (printed by gen.py). -/
namespace HT
open PySem PySem.Spec PyProof.Rows L2 HM
abbrev R : PySem.W.OpenRow := PySem.W.OpenLaw.row PySem.Challenge.rw_heardmarks_k90_whole_good_lines
abbrev hk : PySem.W.Hook := hookN 5 fa fn
def ob (s : PySem.W.SharedT) : He.AlD := obsNG 5 fa fn (HandSHeadRun.getT s)
theorem ob_eq (s : PySem.W.SharedT) : ob s = hk.obs s.abs := obsNG_eq (HandSHeadRun.getT_eq s)
def loose0 : List PySem.Str := ["_wall", "MarksError", "BadPoint", "OtherSpace", "SamePoint", "BadFlat", "is_whole", "is_fraction", "lowest", "plus", "minus", "times", "dotted", "divisor", "multiple", "common_low", "is_point", "check_point", "taken", "squared"]
def loose1 : List PySem.Str := ["common_of", "is_direction", "height_of", "flat_mirrored", "Flat", "flat_from", "between", "_check_plane", "_good_twice", "is_good", "_whole_at", "good_pair", "_is_whole_point", "whole_mirrored", "_law_stream", "_law_take", "_law_whole", "_law_divisor", "_law_frac", "_law_plus"]
def loose2 : List PySem.Str := ["_law_minus", "_law_times", "_law_point", "_law_is_frac", "_law_is_point", "_law_height", "_law_mirrored", "_law_direction", "_law_due", "_law_is_whole", "_law_pair_right", "_law_image_right", "_law_line_right", "_law_between_right", "_law_refusal", "_law_refuses"]
def loose : List PySem.Str := loose0 ++ loose1 ++ loose2
theorem run (w : World) : HandSHeadRun.RunEqI R (PySem.W.view R.prog [0, 63]) hk ob 6000 loose w := by
  unfold HandSHeadRun.RunEqI
  kernel_rfl
end HT

open PySem PySem.W PySem.Calls PyProof.Rows HM in
theorem law_of (hpure : ∀ ns : List Int, ns.length ≤ 63 → HT.f_law none [.scr ns] = .ret (.val (.bl true)) none) : PySem.Challenge.rw_heardmarks_k90_whole_good_lines.Holds := by
  w_on; o_law
  refine HandSHeadRun.head_imp (r := OpenLaw.row PySem.Challenge.rw_heardmarks_k90_whole_good_lines) (q := view (OpenLaw.row PySem.Challenge.rw_heardmarks_k90_whole_good_lines).prog [0, 63]) (H := HT.hk) (ob := HT.ob) (M := 6000) (loose := HT.loose) (d := HandSHeadRun.topDef (OpenLaw.row PySem.Challenge.rw_heardmarks_k90_whole_good_lines).prog 63) (kwd := []) HT.ob_eq
    HT.run (by kernel_rfl) (by kernel_rfl) (by kernel_rfl) (by rfl) (by first | assumption | decide +kernel) (by decide +kernel) ⟨rfl, rfl, rfl, rfl, rfl, by decide +kernel⟩ ?hw ?hc
  case hw => w_witness2
  case hc =>
    refine L2.walk_ofE (l := PySem.Challenge.rw_heardmarks_k90_whole_good_lines) (n := 63) (k := 9) (x := "script") (CX := L2.CX0) rfl (by decide) (by kernel_rfl) ⟨rfl, by decide, by decide⟩ ?F (fun _ _ _ _ z => z)
    intro w mg fa h Y G hmg0
    obtain ⟨K, KX, c⟩ := Y
    have hmg : mg ("law" : PySem.Str) = some (.ref fa) := by
      have e : (HandSHeadRun.topDef (OpenLaw.row PySem.Challenge.rw_heardmarks_k90_whole_good_lines).prog 63).name = ("law" : PySem.Str) := by kernel_rfl
      rw [← e]
      exact hmg0
    obtain ⟨Z, T⟩ := HT.facts KX G c
    have e := hmg.symm.trans T.g_law
    cases e
    refine ⟨K, Z.fd_law, fun vs H Q _ => spF K 1 HT.f_law vs H Q fun _ _ _ => False, KX, fun s u => ?_, fun H a ns hl hO hS => ?_, fun base _ _ => fn_calm (HT.ok_law T)⟩
    · exact (L2.FunD.bindsA (ps := ["script"]) T.d_law fun _ _ _ _ _ _ us hl => match us, hl with | [_], _ => rfl) s [u] rfl
    · exact law_start hpure hl hS

set_option Elab.async false
set_option linter.all false
set_option maxRecDepth 100000
set_option maxHeartbeats 4000000
/-! K90P1: the small defs of the law, plainly. -/
namespace HT
open PySem PySem.Spec PyProof.Rows L2 HM
/-! ### whole numbers -/
def wholeB : D → Bool
  | .int _ => true
  | _ => false
theorem is_int (d : D) (h : notIns d) : isT "int" d = some (.bl (match d with | .int _ => true | .bl _ => true | _ => false)) := by
  cases d <;> first | exact h.elim | (unfold isT; simp only [clsD]; decide +kernel) | rfl
theorem is_bool (d : D) (h : notIns d) : isT "bool" d = some (.bl (match d with | .bl _ => true | _ => false)) := by
  cases d <;> first | exact h.elim | (unfold isT; simp only [clsD]; decide +kernel) | rfl
theorem is_tuple (d : D) (h : notIns d) : isT "tuple" d = some (.bl (match d with | .tup _ => true | .ktp _ => true | _ => false)) := by
  cases d <;> first | exact h.elim | (unfold isT; simp only [clsD]; decide +kernel) | rfl
theorem whole_ap (d : D) (h : notIns d) : f_is_whole none [d] = .ret (.val (.bl (wholeB d))) none := by
  have h1 := is_int d h
  have h2 := is_bool d h
  cases d <;> first | exact h.elim | simp [f_is_whole, m_is_whole, defF_ap, lentS, andV_ap, var_ap, h1, h2, wholeB]
theorem lwhole_ap (d : D) (h : notIns d) : f__law_whole none [d] = .ret (.val (.bl (wholeB d))) none := whole_ap d h
/-! ### a draw -/
def tk (is : List Int) (m : Int) : Int := match is.getLast? with
  | none => 0
  | some v => v.fmod m
theorem tk_lo (is : List Int) {m : Int} (h : 0 < m) : 0 ≤ tk is m := by
  unfold tk
  cases is.getLast? with
  | none => exact Int.le_refl _
  | some v => exact Int.fmod_nonneg_of_pos v h
theorem tk_hi (is : List Int) {m : Int} (h : 0 < m) : tk is m < m := by
  unfold tk
  cases is.getLast? with
  | none => exact h
  | some v => exact Int.fmod_lt_of_pos v h
theorem L_last (is : List Int) : (L is).getLast? = is.getLast?.map D.int := by
  unfold L
  rw [List.getLast?_map]
theorem L_drop (is : List Int) : (L is).dropLast = L is.dropLast := by
  unfold L
  rw [List.map_dropLast]
theorem take_ap (is : List Int) {m : Int} (h : 0 < m) : f__law_take (some (.lst (L is))) [.int m] = .ret (.val (.int (tk is m))) (some (.lst (L is.dropLast))) := by
  have hm : m ≠ 0 := by omega
  cases hl : is.getLast? with
  | none =>
    have e : is = [] := List.getLast?_eq_none_iff.mp hl
    subst e
    simp [f__law_take, m__law_take, defF_ap, lentS, ifS_ap, asB_ap, eqD_i, tk, finF_rt1]
  | some v =>
    have e : is ≠ [] := fun z => by
      rw [z] at hl
      cases hl
    have e2 : ¬ ((is.length : Int) = 0) := fun z => e (List.eq_nil_of_length_eq_zero (by omega))
    simp [f__law_take, m__law_take, defF_ap, lentS, ifS_ap, asB_ap, eqD_i, tk, finF_rt1, hl, e, popE_ap, lstAt_ap, L_last, L_drop, putAt_ap, var_ap, modD_i hm]
end HT

set_option Elab.async false
set_option linter.all false
set_option maxRecDepth 100000
set_option maxHeartbeats 4000000
/-! K90P2: the stream of draws. -/
namespace HT
open PySem PySem.Spec PyProof.Rows L2 HM
theorem L_append {is js : List Int} : L is ++ L js = L (is ++ js) := List.map_append.symm
theorem L_snoc {is : List Int} {x : Int} : L is ++ [.int x] = L (is ++ [x]) := L_append (js := [x])
theorem L_rev {is : List Int} : (L is).reverse = L is.reverse := List.map_reverse.symm
theorem st0_ap {s0 : Sl} {a c b t : Int} {is : List Int} (hl : is.length ≤ 90000) : ∃ is' c', is'.length ≤ is.length + 1 ∧ p0__law_stream [s0, .own (.lst (L is)), .val (.int a), .val (.int c), .val (.int b), .val (.int t), .non] = .nx [s0, .own (.lst (L is')), .val (.int a), .val (.int c'), .val (.int b), .non, .non] := by
  have h60 : fdivD (.int c) (.int 60) = some (.int (c.fdiv 60)) := fdivD_s (by decide) (sm_of (by decide) (by decide))
  have hs : small (is.length + 1) = true := small_of (by omega)
  by_cases hc : 0 < c
  · refine ⟨is ++ [c.fmod 60], c.fdiv 60, by simp, ?_⟩
    simp [p0__law_stream, ifS_ap, asB_ap, var_ap, hc, appE_ap, lstAt_ap, putAt_ap, modD_i, h60, hs, L_snoc]
  · refine ⟨is, c, by omega, ?_⟩
    simp [p0__law_stream, ifS_ap, asB_ap, var_ap, hc]
theorem st1_ap {s0 : Sl} {a c t q : Int} {b : Sl} {is : List Int} (hl : is.length ≤ 90000) (ha : 0 ≤ a ∧ a < 100) (hq : 0 ≤ q ∧ q < 1000000007) (ht : 0 ≤ t ∧ t < 100) : ∃ is' q', is'.length ≤ is.length + 1 ∧ (0 ≤ q' ∧ q' < 1000000007) ∧
    p1__law_stream [s0, .own (.lst (L is)), .val (.int a), .val (.int c), b, .val (.int t), .val (.int q)] = .nx [s0, .own (.lst (L is')), .val (.int a), .val (.int c), b, .non, .val (.int q')] := by
  have hs : small (is.length + 1) = true := small_of (by omega)
  have m1 : mulD (.int q) (.int q) = some (.int (q * q)) := mulD_s (sm_of (by omega) (by omega)) (sm_of (by omega) (by omega))
  have m2 : mulD (.int a) (.int 31) = some (.int (a * 31)) := mulD_s (sm_of (by omega) (by omega)) (sm_of (by omega) (by omega))
  have m3 : mulD (.int t) (.int 1009) = some (.int (t * 1009)) := mulD_s (sm_of (by omega) (by omega)) (sm_of (by omega) (by omega))
  refine ⟨is ++ [(q * q + a * 31 + t * 1009 + 5).fmod 1000000007], (q * q + a * 31 + t * 1009 + 5).fmod 1000000007, by simp, ⟨Int.fmod_nonneg_of_pos _ (by decide), Int.fmod_lt_of_pos _ (by decide)⟩, ?_⟩
  simp [p1__law_stream, var_ap, appE_ap, lstAt_ap, putAt_ap, modD_i, m1, m2, m3, hs, L_snoc]
theorem st2_ap {ns : List Int} {a : Int} {is : List Int} (hl : is.length ≤ 80000) (ha : 0 ≤ a ∧ a < ns.length) (ha2 : a < 63) : ∃ is', is'.length ≤ is.length + 60 ∧
    p2__law_stream [.val (.scr ns), .own (.lst (L is)), .val (.int a), .non, .non, .non, .non] = .nx [.val (.scr ns), .own (.lst (L is')), .non, .non, .non, .non, .non] := by
  obtain ⟨c0, e0⟩ : ∃ c0, atI ns a = some c0 := by
    have e : ixN ns.length a = some a.toNat := by
      unfold ixN
      rw [if_pos (by omega), if_pos (by omega)]
    unfold atI
    rw [e]
    exact ⟨_, List.getElem?_eq_getElem (by omega)⟩
  have it : itemD (.scr ns) (.int a) = some (.int c0) := by
    show (atI ns a).map D.int = _
    rw [e0]
    rfl
  have p18 : powD (.int 10) (.int 18) = some (.int 1000000000000000000) := by
    show (if (0 : Int) ≤ 18 ∧ (18 : Int) ≤ 1000000 ∧ (10 : Int).natAbs < 2 ^ 64 then some (D.int ((10 : Int) ^ (18 : Int).toNat)) else none) = _
    rw [if_pos (by decide)]
    rfl
  -- behind the sign
  obtain ⟨c, b, hb, hc0, hcb⟩ : ∃ c b : Int, (0 ≤ b ∧ b ≤ 1) ∧ 0 ≤ c ∧ ∀ (k : SV), (SOut.nx [.val (.scr ns), .own (.lst (L is)), .val (.int a), .val (.int c0), .val (.int 0), .non, .non]).seq (sq (ifS (asB (op2 ltD (var 3) (cst (.int 0)))) (sq (asg 3 (thw (op1 negD (var 3)))) (asg 4 (thw (cst (.int 1))))) skp) k)
      = k [.val (.scr ns), .own (.lst (L is)), .val (.int a), .val (.int c), .val (.int b), .non, .non] := by
    by_cases hc : c0 < 0
    · exact ⟨-c0, 1, by omega, by omega, fun k => by simp [ifS_ap, asB_ap, var_ap, hc]⟩
    · exact ⟨c0, 0, by omega, by omega, fun k => by simp [ifS_ap, asB_ap, var_ap, hc]⟩
  have start : p2__law_stream [.val (.scr ns), .own (.lst (L is)), .val (.int a), .non, .non, .non, .non] = (SOut.nx [.val (.scr ns), .own (.lst (L is)), .val (.int a), .val (.int c0), .val (.int 0), .non, .non]).seq (sq (ifS (asB (op2 ltD (var 3) (cst (.int 0)))) (sq (asg 3 (thw (op1 negD (var 3)))) (asg 4 (thw (cst (.int 1))))) skp)
    (sq (sq (ifS ((asB (op2 geD ((var 3)) ((op2 powD (cst (.int 10)) (cst (.int 18)))))))
    (sq (forE ((rng1 (cst (.int 60)))) ((tgN 5)) p0__law_stream) (fgt [5, 3]))
    (sq (asg 6 ((thw ((op2 modD ((op1 intD ((op2 addD ((op2 addD ((op2 addD ((op2 mulD ((var 3)) (cst (.int 7919)))) ((op2 mulD ((var 2)) (cst (.int 104729)))))) ((op2 mulD ((var 4)) (cst (.int 613)))))) (cst (.int 17)))))) (cst (.int 998244353)))))))
    (sq (forE ((rng1 (cst (.int 5)))) ((tgN 5)) p1__law_stream) (fgt [5, 6])))) (fgt [5, 3, 6])) (fgt [2, 3, 4, 5, 6]))) := by
    simp [p2__law_stream, var_ap, it]
  rw [start, hcb]
  by_cases hc : 1000000000000000000 ≤ c
  · obtain ⟨ρ', e, is', c', h1, h2⟩ := forS_inv (t := tgN 5) (s := p0__law_stream) (P := fun i ρ => ∃ (is' : List Int) (c' : Int), is'.length ≤ is.length + i ∧ ρ = [.val (.scr ns), .own (.lst (L is')), .val (.int a), .val (.int c'), .val (.int b), .non, .non])
      (intsFrom 0 60) 0 [.val (.scr ns), .own (.lst (L is)), .val (.int a), .val (.int c), .val (.int b), .non, .non] (fun i d ρ hd ⟨is1, c1, hl1, e1⟩ => by
        obtain ⟨hi, ed⟩ := intsFrom_get hd
        subst e1 ed
        obtain ⟨is2, c2, hl2, e2⟩ := st0_ap (s0 := .val (.scr ns)) (a := a) (c := c1) (b := b) (t := 0 + (i : Int)) (is := is1) (by omega)
        exact ⟨_, _, rfl, .inl e2, is2, c2, by omega, rfl⟩) ⟨is, c, by omega, rfl⟩
    rw [intsFrom_length] at h1
    subst h2
    have r60 : rng1D (.int 60) = some (intsFrom 0 60) := rng1_i (by decide)
    refine ⟨is', by omega, ?_⟩
    simp [ifS_ap, asB_ap, var_ap, p18, hc, forE_ap, r60, e]
  · have m1 : mulD (.int c) (.int 7919) = some (.int (c * 7919)) := mulD_s (sm_of (by omega) (by omega)) (sm_of (by omega) (by omega))
    have m2 : mulD (.int a) (.int 104729) = some (.int (a * 104729)) := mulD_s (sm_of (by omega) (by omega)) (sm_of (by omega) (by omega))
    have m3 : mulD (.int b) (.int 613) = some (.int (b * 613)) := mulD_s (sm_of (by omega) (by omega)) (sm_of (by omega) (by omega))
    obtain ⟨q, hq, eq⟩ : ∃ q : Int, (0 ≤ q ∧ q < 1000000007) ∧ (c * 7919 + a * 104729 + b * 613 + 17).fmod 998244353 = q := ⟨_, ⟨Int.fmod_nonneg_of_pos _ (by decide), Int.lt_trans (Int.fmod_lt_of_pos _ (by decide)) (by decide)⟩, rfl⟩
    obtain ⟨ρ', e, is', q', h1, h0, h2⟩ := forS_inv (t := tgN 5) (s := p1__law_stream) (P := fun i ρ => ∃ (is' : List Int) (q' : Int), is'.length ≤ is.length + i ∧ (0 ≤ q' ∧ q' < 1000000007) ∧ ρ = [.val (.scr ns), .own (.lst (L is')), .val (.int a), .val (.int c), .val (.int b), .non, .val (.int q')])
      (intsFrom 0 5) 0 [.val (.scr ns), .own (.lst (L is)), .val (.int a), .val (.int c), .val (.int b), .non, .val (.int q)] (fun i d ρ hd ⟨is1, q1, hl1, hq1, e1⟩ => by
        obtain ⟨hi, ed⟩ := intsFrom_get hd
        subst e1 ed
        obtain ⟨is2, q2, hl2, hq2, e2⟩ := st1_ap (s0 := .val (.scr ns)) (a := a) (c := c) (b := .val (.int b)) (t := 0 + (i : Int)) (q := q1) (is := is1) (by omega) (by omega) hq1 (by omega)
        exact ⟨_, _, rfl, .inl e2, is2, q2, by omega, hq2, rfl⟩) ⟨is, q, by omega, hq, rfl⟩
    rw [intsFrom_length] at h1
    subst h2
    have r5 : rng1D (.int 5) = some (intsFrom 0 5) := rng1_i (by decide)
    refine ⟨is', by omega, ?_⟩
    simp [ifS_ap, asB_ap, var_ap, p18, hc, m1, m2, m3, modD_i, eq, forE_ap, r5, e]
theorem stream_ap (ns : List Int) (hl : ns.length ≤ 63) : ∃ is, f__law_stream none [.scr ns] = .ret (.own (.lst (L is))) none := by
  obtain ⟨k, hk, ek⟩ : ∃ k : Nat, (k ≤ 63 ∧ k ≤ ns.length) ∧ (if (63 : Int) < (ns.length : Int) then 63 else (ns.length : Int)) = k := by
    split
    · exact ⟨63, by omega, rfl⟩
    · exact ⟨ns.length, by omega, rfl⟩
  have rk : rng1D (.int k) = some (intsFrom 0 k) := rng1_i (inBnd_of (by omega) (by omega))
  obtain ⟨ρ', e, is', h1, h2⟩ := forS_inv (t := tgN 2) (s := p2__law_stream) (P := fun i ρ => ∃ is' : List Int, is'.length ≤ 60 * i ∧ ρ = [.val (.scr ns), .own (.lst (L is')), .non, .non, .non, .non, .non])
    (intsFrom 0 k) 0 [.val (.scr ns), .own (.lst (L [])), .non, .non, .non, .non, .non] (fun i d ρ hd ⟨is1, hl1, e1⟩ => by
      obtain ⟨hi, ed⟩ := intsFrom_get hd
      subst e1 ed
      obtain ⟨is2, hl2, e2⟩ := st2_ap (ns := ns) (a := 0 + (i : Int)) (is := is1) (by omega) (by omega) (by omega)
      exact ⟨_, _, rfl, .inl e2, is2, by omega, rfl⟩) ⟨[], by simp, rfl⟩
  subst h2
  refine ⟨is'.reverse, ?_⟩
  have e0 : L [] = [] := rfl
  have sm0 : small 0 = true := small_of (by omega)
  rw [e0] at e
  simp [f__law_stream, m__law_stream, defF_ap, lentS, forE_ap, min2D, ek, rk, e, revE_ap, lstAt_ap, putAt_ap, L_rev, move_ap, sm0]
end HT

set_option Elab.async false
set_option linter.all false
set_option maxRecDepth 100000
set_option maxHeartbeats 4000000
/-! K90P3: fractions: lowest terms, sum, difference, product. -/
namespace HT
open PySem PySem.Spec PyProof.Rows L2 HM
/-! ### sizes -/
def Sz (k : Nat) (x : Int) : Prop := x.natAbs < 2 ^ k
theorem Sz.mono {j k : Nat} {x : Int} (h : Sz j x) (hk : j ≤ k) : Sz k x := lt_pow h hk
theorem Sz.mul {j k : Nat} {x y : Int} (h : Sz j x) (h' : Sz k y) : Sz (j + k) (x * y) := by
  unfold Sz at *
  rw [Int.natAbs_mul, Nat.pow_add]
  exact Nat.mul_lt_mul'' h h'
theorem Sz.add {j : Nat} {x y : Int} (h : Sz j x) (h' : Sz j y) : Sz (j + 1) (x + y) := by
  unfold Sz at *
  rw [Nat.pow_succ]
  omega
theorem Sz.neg {j : Nat} {x : Int} (h : Sz j x) : Sz j (-x) := by
  unfold Sz at *
  omega
theorem Sz.sub {j : Nat} {x y : Int} (h : Sz j x) (h' : Sz j y) : Sz (j + 1) (x - y) := by
  unfold Sz at *
  rw [Nat.pow_succ]
  omega
theorem mulD_z {x y : Int} (hx : Sz 8900 x) (hy : Sz 8900 y) : mulD (.int x) (.int y) = some (.int (x * y)) := by
  refine mulD_i ?_
  unfold mulOk
  have h1 := log2_lt hx (by omega)
  have h2 := log2_lt hy (by omega)
  exact decide_eq_true (by omega)
theorem fdivD_z {x y : Int} (h0 : y ≠ 0) (hy : Sz 8900 y) : fdivD (.int x) (.int y) = some (.int (x.fdiv y)) := by
  refine fdivD_i ?_
  unfold divOk
  have h1 := log2_lt hy (by omega)
  rw [Bool.and_eq_true]
  exact ⟨decide_eq_true h0, decide_eq_true (by omega)⟩
/-! ### lowest terms -/
abbrev Fq := Int × Int
def fr (a : Fq) : D := .tup [.int a.1, .int a.2]
def gc (p q : Int) : Int := ((Nat.gcd p.natAbs q.natAbs : Nat) : Int)
def nrm (p q : Int) : Fq := if q < 0 then ((-p).fdiv (gc p q), (-q).fdiv (gc p q)) else (p.fdiv (gc p q), q.fdiv (gc p q))
theorem gc_neg (p q : Int) : gc (-p) (-q) = gc p q := by
  unfold gc
  rw [Int.natAbs_neg, Int.natAbs_neg]
theorem gc_pos {p q : Int} (h : q ≠ 0) : 0 < gc p q := by
  unfold gc
  have : 0 < Nat.gcd p.natAbs q.natAbs := Nat.gcd_pos_of_pos_right _ (by omega)
  omega
theorem gc_sz {p q : Int} {k : Nat} (h : q ≠ 0) (hs : Sz k q) : Sz k (gc p q) := by
  unfold gc Sz at *
  have : Nat.gcd p.natAbs q.natAbs ≤ q.natAbs := Nat.gcd_le_right _ (by omega)
  omega
theorem gc_one (p : Int) : gc p 1 = 1 := by
  unfold gc
  simp
theorem gc_dvd_left (p q : Int) : gc p q ∣ p := by
  unfold gc
  exact Int.natAbs_dvd_natAbs.mp (by rw [Int.natAbs_natCast]; exact Nat.gcd_dvd_left _ _)
theorem gc_dvd_right (p q : Int) : gc p q ∣ q := by
  unfold gc
  exact Int.natAbs_dvd_natAbs.mp (by rw [Int.natAbs_natCast]; exact Nat.gcd_dvd_right _ _)
theorem fdiv_sz {k : Nat} {p d : Int} (hd : 0 < d) (hdv : d ∣ p) (h : Sz k p) : Sz k (p.fdiv d) := by
  obtain ⟨c, rfl⟩ := hdv
  rw [Int.mul_fdiv_cancel_left _ (by omega)]
  unfold Sz at *
  rw [Int.natAbs_mul] at h
  have : c.natAbs ≤ d.natAbs * c.natAbs := Nat.le_mul_of_pos_left _ (by omega)
  omega
/-- a fraction in lowest terms -/
def Can (a : Fq) : Prop := 0 < a.2 ∧ gc a.1 a.2 = 1
theorem nrm_sz {k : Nat} {p q : Int} (h0 : q ≠ 0) (hp : Sz k p) (hq : Sz k q) : Sz k (nrm p q).1 ∧ Sz k (nrm p q).2 := by
  have d := gc_pos (p := p) h0
  unfold nrm
  split
  · exact ⟨fdiv_sz d ((Int.dvd_neg).mpr (gc_dvd_left p q)) hp.neg, fdiv_sz d ((Int.dvd_neg).mpr (gc_dvd_right p q)) hq.neg⟩
  · exact ⟨fdiv_sz d (gc_dvd_left p q) hp, fdiv_sz d (gc_dvd_right p q) hq⟩
/-- the value: p / q = nrm.1 / nrm.2 -/
theorem nrm_val {p q : Int} (h0 : q ≠ 0) : (nrm p q).1 * q = p * (nrm p q).2 := by
  have d := gc_pos (p := p) h0
  obtain ⟨a, ha⟩ := gc_dvd_left p q
  obtain ⟨b, hb⟩ := gc_dvd_right p q
  have e1 : p.fdiv (gc p q) = a := by
    have : (gc p q * a).fdiv (gc p q) = a := Int.mul_fdiv_cancel_left _ (by omega)
    rw [← ha] at this
    exact this
  have e2 : q.fdiv (gc p q) = b := by
    have : (gc p q * b).fdiv (gc p q) = b := Int.mul_fdiv_cancel_left _ (by omega)
    rw [← hb] at this
    exact this
  have e3 : (-p).fdiv (gc p q) = -a := by
    have : (gc p q * (-a)).fdiv (gc p q) = -a := Int.mul_fdiv_cancel_left _ (by omega)
    rw [Int.mul_neg, ← ha] at this
    exact this
  have e4 : (-q).fdiv (gc p q) = -b := by
    have : (gc p q * (-b)).fdiv (gc p q) = -b := Int.mul_fdiv_cancel_left _ (by omega)
    rw [Int.mul_neg, ← hb] at this
    exact this
  unfold nrm
  split
  · rw [e3, e4]
    show -a * q = p * -b
    generalize gc p q = g at *
    subst ha hb
    grind
  · rw [e1, e2]
    show a * q = p * b
    generalize gc p q = g at *
    subst ha hb
    grind
end HT

set_option Elab.async false
set_option linter.all false
set_option maxRecDepth 100000
set_option maxHeartbeats 4000000
/-! K90P4: one value, one fraction in lowest terms. -/
namespace HT
open PySem PySem.Spec PyProof.Rows L2 HM
theorem gc_mul {g a b : Int} (hg : 0 < g) : gc (g * a) (g * b) = g * gc a b := by
  unfold gc
  rw [Int.natAbs_mul, Int.natAbs_mul, Nat.gcd_mul_left, Int.natCast_mul]
  congr 1
  omega
theorem nrm_pos {p q : Int} (h0 : 0 < q) : ∃ a b, p = gc p q * a ∧ q = gc p q * b ∧ nrm p q = (a, b) := by
  have d := gc_pos (p := p) (show q ≠ 0 by omega)
  obtain ⟨a, ha⟩ := gc_dvd_left p q
  obtain ⟨b, hb⟩ := gc_dvd_right p q
  refine ⟨a, b, ha, hb, ?_⟩
  unfold nrm
  rw [if_neg (by omega)]
  have e1 : (gc p q * a).fdiv (gc p q) = a := Int.mul_fdiv_cancel_left _ (by omega)
  have e2 : (gc p q * b).fdiv (gc p q) = b := Int.mul_fdiv_cancel_left _ (by omega)
  rw [← ha] at e1
  rw [← hb] at e2
  rw [e1, e2]
theorem nrm_neg {p q : Int} (h0 : q < 0) : nrm p q = nrm (-p) (-q) := by
  unfold nrm
  rw [if_pos h0, if_neg (by omega), gc_neg]
theorem nrm_can {p q : Int} (h0 : q ≠ 0) : Can (nrm p q) := by
  have pos : ∀ {p q : Int}, 0 < q → Can (nrm p q) := fun {p q} h => by
    obtain ⟨a, b, ha, hb, e⟩ := nrm_pos (p := p) h
    have d := gc_pos (p := p) (show q ≠ 0 by omega)
    rw [e]
    refine ⟨?_, ?_⟩
    · show 0 < b
      rcases Int.lt_or_le 0 b with z | z
      · exact z
      · have := Int.mul_nonneg (show 0 ≤ gc p q by omega) (show 0 ≤ -b by omega)
        rw [Int.mul_neg, ← hb] at this
        omega
    · show gc a b = 1
      have g := gc_mul (a := a) (b := b) d
      rw [← ha, ← hb] at g
      have : gc p q * 1 = gc p q * gc a b := by rw [Int.mul_one]; exact g
      exact (Int.eq_of_mul_eq_mul_left (by omega) this).symm
  rcases Int.lt_or_le q 0 with z | z
  · rw [nrm_neg z]
    exact pos (by omega)
  · exact pos (by omega)
theorem can_dvd {a b : Fq} (ha : Can a) (h : a.1 * b.2 = b.1 * a.2) : a.2 ∣ b.2 := by
  have c : Nat.Coprime a.2.natAbs a.1.natAbs := by
    have := ha.2
    unfold gc at this
    have h1 : Nat.gcd a.1.natAbs a.2.natAbs = 1 := by omega
    rw [Nat.gcd_comm] at h1
    exact h1
  have h2 : a.2.natAbs ∣ a.1.natAbs * b.2.natAbs := by
    rw [← Int.natAbs_mul, h, Int.natAbs_mul]
    exact Nat.dvd_mul_left _ _
  exact Int.natAbs_dvd_natAbs.mp (c.dvd_of_dvd_mul_left h2)
theorem can_uniq {a b : Fq} (ha : Can a) (hb : Can b) (h : a.1 * b.2 = b.1 * a.2) : a = b := by
  have d1 := can_dvd ha h
  have d2 := can_dvd hb h.symm
  have e2 : a.2 = b.2 := Int.dvd_antisymm (by have := ha.1; omega) (by have := hb.1; omega) d1 d2
  have e1 : a.1 = b.1 := by
    rw [e2] at h
    exact Int.eq_of_mul_eq_mul_right (by have := hb.1; omega) h
  exact Prod.ext e1 e2
theorem nrm_self {a : Fq} (ha : Can a) : nrm a.1 a.2 = a := by
  have h0 : a.2 ≠ 0 := by
    have := ha.1
    omega
  exact can_uniq (nrm_can h0) ha (nrm_val h0)
/-- the same value, the same fraction -/
theorem nrm_eq {p q r s : Int} (hq : q ≠ 0) (hs : s ≠ 0) (h : p * s = r * q) : nrm p q = nrm r s := by
  have h1 := nrm_val (p := p) hq
  have h2 := nrm_val (p := r) hs
  refine can_uniq (nrm_can hq) (nrm_can hs) ?_
  have k : q * s ≠ 0 := Int.mul_ne_zero hq hs
  refine Int.eq_of_mul_eq_mul_right k ?_
  generalize (nrm p q).1 = a at *
  generalize (nrm p q).2 = b at *
  generalize (nrm r s).1 = c at *
  generalize (nrm r s).2 = d at *
  grind
/-! ### the program's defs -/
theorem it0 {a : Fq} : itemD (fr a) (.int 0) = some (.int a.1) := rfl
theorem it1 {a : Fq} : itemD (fr a) (.int 1) = some (.int a.2) := rfl
def lowTail : SV := sq (ifS (asB (op2 eqD (var 1) (cst (.int 1)))) (retS (thw (tupE (aCons (var 0) (aCons (cst (.int 1)) aNil))))) skp)
  (sq (asg 2 (thw (opN gcdD (aCons (var 0) (aCons (var 1) aNil))))) (retS (thw (tupE (aCons (op2 fdivD (var 0) (var 2)) (aCons (op2 fdivD (var 1) (var 2)) aNil))))))
theorem m_low_eq : m_lowest = sq (ifS (asB (op2 ltD (var 1) (cst (.int 0)))) (asg2 0 1 (aCons (op1 negD (var 0)) (aCons (op1 negD (var 1)) aNil))) skp) lowTail := rfl
theorem tail_ap {p q : Int} (h : 0 < q) (hs : Sz 8900 q) : ∃ ρ, lowTail [.val (.int p), .val (.int q), .non] = .rt (.val (fr (nrm p q))) ρ := by
  have s2 : small 2 = true := small_of (by omega)
  by_cases h1 : q = 1
  · subst h1
    have e : nrm p 1 = (p, 1) := by
      unfold nrm
      rw [if_neg (by decide), gc_one]
      simp
    rw [e]
    refine ⟨[.val (.int p), .val (.int 1), .non], ?_⟩
    simp [lowTail, ifS_ap, asB_ap, var_ap, eqD_i, s2, fr]
  · have g := gc_pos (p := p) (show q ≠ 0 by omega)
    have gs := gc_sz (p := p) (show q ≠ 0 by omega) hs
    have f1 := fdivD_z (x := p) (show gc p q ≠ 0 by omega) gs
    have f2 := fdivD_z (x := q) (show gc p q ≠ 0 by omega) gs
    have eg : gcdD [.int p, .int q] = some (.int (gc p q)) := rfl
    have e : nrm p q = (p.fdiv (gc p q), q.fdiv (gc p q)) := by
      unfold nrm
      rw [if_neg (by omega)]
    rw [e]
    refine ⟨[.val (.int p), .val (.int q), .val (.int (gc p q))], ?_⟩
    simp [lowTail, ifS_ap, asB_ap, var_ap, eqD_i, s2, fr, h1, eg, f1, f2]
theorem low_ap {p q : Int} (h0 : q ≠ 0) (hq : Sz 8900 q) : f_lowest none [.int p, .int q] = .ret (.val (fr (nrm p q))) none := by
  have st : f_lowest none [.int p, .int q] = finF none (m_lowest [.val (.int p), .val (.int q), .non]) := rfl
  rw [st, m_low_eq]
  rcases Int.lt_or_le q 0 with z | z
  · obtain ⟨ρ, e⟩ := tail_ap (p := -p) (q := -q) (by omega) hq.neg
    rw [← nrm_neg z] at e
    have e0 : (ifS (asB (op2 ltD (var 1) (cst (.int 0)))) (asg2 0 1 (aCons (op1 negD (var 0)) (aCons (op1 negD (var 1)) aNil))) skp) [.val (.int p), .val (.int q), .non] = .nx [.val (.int (-p)), .val (.int (-q)), .non] := by
      simp [ifS_ap, asB_ap, var_ap, z, asg2]
    rw [sq_ap, e0, seq_nx, e]
    rfl
  · obtain ⟨ρ, e⟩ := tail_ap (p := p) (q := q) (by omega) hq
    have z' : ¬ q < 0 := by omega
    have e0 : (ifS (asB (op2 ltD (var 1) (cst (.int 0)))) (asg2 0 1 (aCons (op1 negD (var 0)) (aCons (op1 negD (var 1)) aNil))) skp) [.val (.int p), .val (.int q), .non] = .nx [.val (.int p), .val (.int q), .non] := by
      simp [ifS_ap, asB_ap, var_ap, z']
    rw [sq_ap, e0, seq_nx, e]
    rfl
end HT

set_option Elab.async false
set_option linter.all false
set_option maxRecDepth 100000
set_option maxHeartbeats 4000000
/-! K90P5: sum, difference, product of fractions. -/
namespace HT
open PySem PySem.Spec PyProof.Rows L2 HM
def addF (a b : Fq) : Fq := nrm (a.1 * b.2 + b.1 * a.2) (a.2 * b.2)
def subF (a b : Fq) : Fq := nrm (a.1 * b.2 - b.1 * a.2) (a.2 * b.2)
def mulF (a b : Fq) : Fq := nrm (a.1 * b.1) (a.2 * b.2)
/-- a fraction with parts below 2 ^ k -/
def SF (k : Nat) (a : Fq) : Prop := 0 < a.2 ∧ Sz k a.1 ∧ Sz k a.2
theorem SF.mono {j k : Nat} {a : Fq} (h : SF j a) (hk : j ≤ k) : SF k a := ⟨h.1, h.2.1.mono hk, h.2.2.mono hk⟩
theorem den_ne {a b : Fq} {j k : Nat} (ha : SF j a) (hb : SF k b) : a.2 * b.2 ≠ 0 := Int.mul_ne_zero (by have := ha.1; omega) (by have := hb.1; omega)
theorem nrm_SF {k : Nat} {p q : Int} (h0 : q ≠ 0) (hp : Sz k p) (hq : Sz k q) : SF k (nrm p q) := ⟨(nrm_can h0).1, nrm_sz h0 hp hq⟩
theorem addF_SF {j k : Nat} {a b : Fq} (ha : SF j a) (hb : SF k b) : SF (j + k + 1) (addF a b) :=
  nrm_SF (den_ne ha hb) ((ha.2.1.mul hb.2.2).add ((hb.2.1.mul ha.2.2).mono (by omega))) ((ha.2.2.mul hb.2.2).mono (by omega))
theorem subF_SF {j k : Nat} {a b : Fq} (ha : SF j a) (hb : SF k b) : SF (j + k + 1) (subF a b) :=
  nrm_SF (den_ne ha hb) ((ha.2.1.mul hb.2.2).sub ((hb.2.1.mul ha.2.2).mono (by omega))) ((ha.2.2.mul hb.2.2).mono (by omega))
theorem mulF_SF {j k : Nat} {a b : Fq} (ha : SF j a) (hb : SF k b) : SF (j + k) (mulF a b) :=
  nrm_SF (den_ne ha hb) (ha.2.1.mul hb.2.1) (ha.2.2.mul hb.2.2)
theorem frm (x y : Int) : D.tup [.int x, .int y] = fr (x, y) := id rfl
theorem nrm_one (p : Int) : nrm p 1 = (p, 1) := by
  unfold nrm
  rw [if_neg (by decide), gc_one]
  simp
section
variable {a b : Fq} (ha : SF 4400 a) (hb : SF 4400 b)
include ha hb
theorem plus_ap : f_plus none [fr a, fr b] = .ret (.val (fr (addF a b))) none := by
  have s2 : small 2 = true := small_of (by omega)
  have m1 := mulD_z (ha.2.1.mono (k := 8900) (by omega)) (hb.2.2.mono (k := 8900) (by omega))
  have m2 := mulD_z (hb.2.1.mono (k := 8900) (by omega)) (ha.2.2.mono (k := 8900) (by omega))
  have m3 := mulD_z (ha.2.2.mono (k := 8900) (by omega)) (hb.2.2.mono (k := 8900) (by omega))
  have lo := low_ap (p := a.1 * b.2 + b.1 * a.2) (den_ne ha hb) ((ha.2.2.mul hb.2.2).mono (by omega))
  by_cases h1 : a.2 = 1
  · by_cases h2 : b.2 = 1
    · have e : addF a b = (a.1 + b.1, 1) := by
        unfold addF
        rw [h1, h2, Int.mul_one, Int.mul_one, Int.mul_one, nrm_one]
      rw [e]
      simp [f_plus, m_plus, defF_ap, lentS, ifS_ap, andB_ap, asB_ap, it0, it1, eqD_i, h1, h2, s2, frm]
    · simp [f_plus, m_plus, defF_ap, lentS, ifS_ap, andB_ap, asB_ap, it0, it1, eqD_i, h2, callF_ap, m1, m2, m3, lo, addF]
  · simp [f_plus, m_plus, defF_ap, lentS, ifS_ap, andB_ap, asB_ap, it0, it1, eqD_i, h1, callF_ap, m1, m2, m3, lo, addF]
theorem minus_ap : f_minus none [fr a, fr b] = .ret (.val (fr (subF a b))) none := by
  have s2 : small 2 = true := small_of (by omega)
  have m1 := mulD_z (ha.2.1.mono (k := 8900) (by omega)) (hb.2.2.mono (k := 8900) (by omega))
  have m2 := mulD_z (hb.2.1.mono (k := 8900) (by omega)) (ha.2.2.mono (k := 8900) (by omega))
  have m3 := mulD_z (ha.2.2.mono (k := 8900) (by omega)) (hb.2.2.mono (k := 8900) (by omega))
  have lo := low_ap (p := a.1 * b.2 - b.1 * a.2) (den_ne ha hb) ((ha.2.2.mul hb.2.2).mono (by omega))
  by_cases h1 : a.2 = 1
  · by_cases h2 : b.2 = 1
    · have e : subF a b = (a.1 - b.1, 1) := by
        unfold subF
        rw [h1, h2, Int.mul_one, Int.mul_one, Int.mul_one, nrm_one]
      rw [e]
      simp [f_minus, m_minus, defF_ap, lentS, ifS_ap, andB_ap, asB_ap, it0, it1, eqD_i, h1, h2, s2, frm]
    · simp [f_minus, m_minus, defF_ap, lentS, ifS_ap, andB_ap, asB_ap, it0, it1, eqD_i, h2, callF_ap, m1, m2, m3, lo, subF]
  · simp [f_minus, m_minus, defF_ap, lentS, ifS_ap, andB_ap, asB_ap, it0, it1, eqD_i, h1, callF_ap, m1, m2, m3, lo, subF]
theorem times_ap : f_times none [fr a, fr b] = .ret (.val (fr (mulF a b))) none := by
  have s2 : small 2 = true := small_of (by omega)
  have m1 := mulD_z (ha.2.1.mono (k := 8900) (by omega)) (hb.2.1.mono (k := 8900) (by omega))
  have m3 := mulD_z (ha.2.2.mono (k := 8900) (by omega)) (hb.2.2.mono (k := 8900) (by omega))
  have lo := low_ap (p := a.1 * b.1) (den_ne ha hb) ((ha.2.2.mul hb.2.2).mono (by omega))
  by_cases h1 : a.2 = 1
  · by_cases h2 : b.2 = 1
    · have e : mulF a b = (a.1 * b.1, 1) := by
        unfold mulF
        rw [h1, h2, Int.mul_one, nrm_one]
      rw [e]
      simp [f_times, m_times, defF_ap, lentS, ifS_ap, andB_ap, asB_ap, it0, it1, eqD_i, h1, h2, s2, frm, m1]
    · simp [f_times, m_times, defF_ap, lentS, ifS_ap, andB_ap, asB_ap, it0, it1, eqD_i, h2, callF_ap, m1, m3, lo, mulF]
  · simp [f_times, m_times, defF_ap, lentS, ifS_ap, andB_ap, asB_ap, it0, it1, eqD_i, h1, callF_ap, m1, m3, lo, mulF]
end
end HT

set_option Elab.async false
set_option linter.all false
set_option maxRecDepth 100000
set_option maxHeartbeats 4000000
/-! K90P6: the law's own divisor and fraction. -/
namespace HT
open PySem PySem.Spec PyProof.Rows L2 HM
/-- where the Euclid loop stands behind i turns: g the divisor -/
def Eu (g B i h l : Nat) : Prop := Nat.gcd h l = g ∧ (l = 0 ∨ i = 0 ∨ (l < h ∧ h * l * 2 ^ (i - 1) < B))
theorem eu_step {g B i h l : Nat} (e : Eu g B i h l) (hB : l * l ≤ B ∨ 0 < i) (h0 : 0 < l) : Eu g B (i + 1) l (h % l) := by
  obtain ⟨e1, e2⟩ := e
  refine ⟨by rw [← e1, Nat.gcd_comm h l, Nat.gcd_comm l (h % l)]; exact (Nat.gcd_rec l h).symm, ?_⟩
  by_cases hz : h % l = 0
  · exact .inl hz
  · refine .inr (.inr ⟨Nat.mod_lt _ h0, ?_⟩)
    have hm := Nat.mod_lt h h0
    rw [Nat.add_sub_cancel]
    rcases e2 with q | q | ⟨q1, q2⟩
    · omega
    · subst q
      rw [Nat.pow_zero, Nat.mul_one]
      have : l * (h % l) < l * l := Nat.mul_lt_mul_of_pos_left hm h0
      omega
    · have hi : i ≠ 0 ∨ i = 0 := by omega
      have d := Nat.div_add_mod h l
      have q3 : 1 ≤ h / l := (Nat.one_le_div_iff h0).mpr (by omega)
      have q4 : l * 1 ≤ l * (h / l) := Nat.mul_le_mul_left l q3
      have q5 : 2 * (h % l) ≤ h := by omega
      rcases hi with hi | hi
      · have q6 : l * (h % l) * 2 ^ i ≤ h * l * 2 ^ (i - 1) := by
          have e3 : 2 ^ i = 2 * 2 ^ (i - 1) := by
            have : i = (i - 1) + 1 := by omega
            rw [this, Nat.pow_succ, Nat.add_sub_cancel, Nat.mul_comm]
          rw [e3, show l * (h % l) * (2 * 2 ^ (i - 1)) = (2 * (h % l)) * l * 2 ^ (i - 1) by grind]
          exact Nat.mul_le_mul_right _ (Nat.mul_le_mul_right _ q5)
        omega
      · subst hi
        rw [Nat.pow_zero, Nat.mul_one]
        rw [Nat.zero_sub, Nat.pow_zero, Nat.mul_one] at q2
        have : l * (h % l) ≤ h * l := by
          rw [Nat.mul_comm]
          exact Nat.mul_le_mul_right l (by omega)
        omega
theorem eu_end {g b i h l : Nat} (e : Eu g (2 ^ b) i h l) (hi : b < i) : h = g := by
  obtain ⟨e1, e2⟩ := e
  have z : l = 0 := by
    rcases e2 with q | q | ⟨q1, q2⟩
    · exact q
    · omega
    · rcases Nat.eq_zero_or_pos l with w | w
      · exact w
      · exfalso
        have h1 : 2 ^ b ≤ 2 ^ (i - 1) := Nat.pow_le_pow_right (by decide) (by omega)
        have h2 : 1 ≤ h * l := Nat.mul_le_mul (show 1 ≤ h by omega) w
        have h3 := Nat.mul_le_mul h2 h1
        omega
  rw [z, Nat.gcd_zero_right] at e1
  exact e1
theorem bits_eq (n : Nat) : Builtin.Int.intBits (n : Int) = if n = 0 then 0 else n.log2 + 1 := by
  show (if ((n : Int) == 0) = true then 0 else (n : Int).natAbs.log2 + 1) = _
  by_cases h : n = 0
  · subst h
    rfl
  · rw [if_neg h, if_neg (by simp [h]), Int.natAbs_natCast]
theorem bits_lt (n : Nat) : n < 2 ^ Builtin.Int.intBits (n : Int) := by
  rw [bits_eq]
  by_cases h : n = 0
  · rw [if_pos h]
    subst h
    decide
  · rw [if_neg h]
    exact Nat.lt_log2_self
theorem bits_le {n k : Nat} (h : n < 2 ^ k) : Builtin.Int.intBits (n : Int) ≤ k := by
  rw [bits_eq]
  by_cases h0 : n = 0
  · rw [if_pos h0]
    exact Nat.zero_le _
  · rw [if_neg h0]
    exact (Nat.log2_lt h0).mpr h
theorem eu_ap {s0 s1 : Sl} {h l : Nat} {t : Int} : p0__law_divisor [s0, s1, .val (.int (h : Nat)), .val (.int (l : Nat)), .val (.int t), .non] = .nx [s0, s1, .val (.int ((if 0 < l then l else h : Nat) : Int)), .val (.int ((if 0 < l then h % l else l : Nat) : Int)), .non, .non] := by
  by_cases hl : 0 < l
  · have c1 : decide ((0 : Int) < (l : Int)) = true := decide_eq_true (by omega)
    have hm : (h : Int).fmod (l : Int) = ((h % l : Nat) : Int) := by
      rw [Int.fmod_eq_emod_of_nonneg _ (by omega)]
      rfl
    rw [if_pos hl, if_pos hl]
    simp only [p0__law_divisor, sq_ap, ifS_ap, asB_ap, op2_ap, op1_ap, var_ap, cst_ap, move_ap, List.getElem?_cons_zero, List.getElem?_cons_succ, bind_ok, gtD_i, of_some, c1, stm_ok, if_true, asg_ap, thw_ap, intD_i, modD_i (show (l : Int) ≠ 0 by omega), hm, List.set_cons_succ, List.set_cons_zero, seq_nx, fgt_ap, List.foldl_cons, List.foldl_nil]
  · have c1 : decide ((0 : Int) < (l : Int)) = false := decide_eq_false (by omega)
    rw [if_neg hl, if_neg hl]
    simp only [p0__law_divisor, sq_ap, ifS_ap, asB_ap, op2_ap, var_ap, cst_ap, List.getElem?_cons_zero, List.getElem?_cons_succ, bind_ok, gtD_i, of_some, c1, stm_ok, if_false, Bool.false_eq_true, skp_ap, seq_nx, fgt_ap, List.foldl_cons, List.foldl_nil, List.set_cons_succ, List.set_cons_zero]
theorem div_ap {a b : Int} (hb : Sz 8900 b) : f__law_divisor none [.int a, .int b] = .ret (.val (.int (gc a b))) none := by
  obtain ⟨k, ek⟩ : ∃ k, Builtin.Int.intBits ((b.natAbs : Nat) : Int) = k := ⟨_, rfl⟩
  have hlt : b.natAbs < 2 ^ k := ek ▸ bits_lt b.natAbs
  have ab : ∀ x : Int, (if x < 0 then -x else x) = ((x.natAbs : Nat) : Int) := fun x => by split <;> omega
  have kb : k ≤ 8900 := ek ▸ bits_le hb
  have m1 : mulD (.int 2) (.int (k : Int)) = some (.int ((2 * k : Nat) : Int)) := by
    rw [mulD_s (sm_of (by decide) (by decide)) (sm_of (by omega) (by omega))]
    exact congrArg (fun z => some (D.int z)) (by omega)
  have rk : rng1D (.int (((2 * k : Nat) : Int) + 10)) = some (HM.intsFrom 0 (2 * k + 10)) := by
    have e : (((2 * k : Nat) : Int) + 10).toNat = 2 * k + 10 := by omega
    rw [rng1_i (inBnd_of (by omega) (by omega)), e]
  have sq : b.natAbs * b.natAbs ≤ 2 ^ (2 * k) := by
    rw [show 2 * k = k + k by omega, Nat.pow_add]
    exact Nat.mul_le_mul (by omega) (by omega)
  obtain ⟨ρ', er, h, l, h1, h2, h3⟩ := forS_inv (t := tgN 4) (s := p0__law_divisor) (P := fun i ρ => ∃ h l : Nat, Eu (Nat.gcd a.natAbs b.natAbs) (2 ^ (2 * k)) i h l ∧ (i = 0 → l = b.natAbs) ∧ ρ = [.val (.int a), .val (.int b), .val (.int (h : Nat)), .val (.int (l : Nat)), .non, .non])
    (HM.intsFrom 0 (2 * k + 10)) 0 [.val (.int a), .val (.int b), .val (.int (a.natAbs : Nat)), .val (.int (b.natAbs : Nat)), .non, .non] (fun i d ρ hd ⟨h, l, e1, e2, e3⟩ => by
      obtain ⟨hi, ed⟩ := intsFrom_get hd
      subst e3 ed
      rw [Nat.zero_add] at e1 e2 ⊢
      by_cases hl : 0 < l
      · have s := eu_step e1 (by
          rcases Nat.eq_zero_or_pos i with z | z
          · left
            rw [e2 z]
            exact sq
          · exact .inr z) hl
        have ap := eu_ap (s0 := .val (.int a)) (s1 := .val (.int b)) (h := h) (l := l) (t := 0 + (i : Int))
        rw [if_pos hl, if_pos hl] at ap
        exact ⟨_, _, rfl, .inl ap, l, h % l, s, fun z => by omega, rfl⟩
      · have ap := eu_ap (s0 := .val (.int a)) (s1 := .val (.int b)) (h := h) (l := l) (t := 0 + (i : Int))
        rw [if_neg hl, if_neg hl] at ap
        exact ⟨_, _, rfl, .inl ap, h, l, ⟨e1.1, .inl (by omega)⟩, fun z => by omega, rfl⟩) ⟨a.natAbs, b.natAbs, ⟨rfl, .inr (.inl rfl)⟩, fun _ => rfl, rfl⟩
  rw [intsFrom_length] at h1
  have eh := eu_end h1 (by omega)
  subst h3 eh
  have bd : bitsD (.int ((b.natAbs : Nat) : Int)) = some (.int (k : Int)) := by
    show some (D.int (Builtin.Int.intBits ((b.natAbs : Nat) : Int) : Nat)) = _
    rw [ek]
  unfold f__law_divisor m__law_divisor
  simp only [defF_ap, lentS, List.map_cons, List.map_nil, List.nil_append, List.length_cons, List.length_nil, if_true, List.cons_append, List.replicate, sq_ap, asg_ap, thw_ap, op1_ap, op2_ap, var_ap, cst_ap, List.getElem?_cons_zero, List.getElem?_cons_succ, bind_ok, absD_i, ab, of_some, stm_ok, List.set_cons_succ, List.set_cons_zero, seq_nx, forE_ap, rng1_ap, bd, m1, addD_i, rk, er, fgt_ap, List.foldl_cons, List.foldl_nil, retS_ap, move_ap, finF_rt0]
  rfl
end HT

set_option Elab.async false
set_option linter.all false
set_option maxRecDepth 100000
set_option maxHeartbeats 4000000
/-! K90P7: the law's own fractions are the program's. -/
namespace HT
open PySem PySem.Spec PyProof.Rows L2 HM
theorem gc_comm (p q : Int) : gc p q = gc q p := by
  unfold gc
  rw [Nat.gcd_comm]
theorem frac_ap {p q : Int} (h0 : q ≠ 0) (hp : Sz 8900 p) (hq : Sz 8900 q) : f__law_frac none [.int p, .int q] = .ret (.val (fr (nrm p q))) none := by
  have s2 : small 2 = true := small_of (by omega)
  rcases Int.lt_or_le q 0 with z | z
  · have g := gc_pos (p := -p) (show -q ≠ 0 by omega)
    have gs := gc_sz (p := -p) (show -q ≠ 0 by omega) hq.neg
    have f1 := fdivD_z (x := -p) (show gc (-p) (-q) ≠ 0 by omega) gs
    have f2 := fdivD_z (x := -q) (show gc (-p) (-q) ≠ 0 by omega) gs
    have dv := div_ap (a := -q) (b := -p) hp.neg
    rw [gc_comm (-q) (-p)] at dv
    have e : nrm p q = ((-p).fdiv (gc (-p) (-q)), (-q).fdiv (gc (-p) (-q))) := by
      unfold nrm
      rw [if_pos z, gc_neg]
    rw [e]
    simp [f__law_frac, m__law_frac, defF_ap, lentS, ifS_ap, asB_ap, var_ap, z, callF_ap, dv, f1, f2, s2, frm]
  · have z' : ¬ q < 0 := by omega
    have g := gc_pos (p := p) h0
    have gs := gc_sz (p := p) h0 hq
    have f1 := fdivD_z (x := p) (show gc p q ≠ 0 by omega) gs
    have f2 := fdivD_z (x := q) (show gc p q ≠ 0 by omega) gs
    have dv := div_ap (a := q) (b := p) hp
    rw [gc_comm q p] at dv
    have e : nrm p q = (p.fdiv (gc p q), q.fdiv (gc p q)) := by
      unfold nrm
      rw [if_neg z']
    rw [e]
    simp [f__law_frac, m__law_frac, defF_ap, lentS, ifS_ap, asB_ap, var_ap, z', callF_ap, dv, f1, f2, s2, frm]
section
variable {a b : Fq} (ha : SF 4400 a) (hb : SF 4400 b)
include ha hb
theorem lplus_ap : f__law_plus none [fr a, fr b] = .ret (.val (fr (addF a b))) none := by
  have m1 := mulD_z (ha.2.1.mono (k := 8900) (by omega)) (hb.2.2.mono (k := 8900) (by omega))
  have m2 := mulD_z (hb.2.1.mono (k := 8900) (by omega)) (ha.2.2.mono (k := 8900) (by omega))
  have m3 := mulD_z (ha.2.2.mono (k := 8900) (by omega)) (hb.2.2.mono (k := 8900) (by omega))
  have lo := frac_ap (p := a.1 * b.2 + b.1 * a.2) (den_ne ha hb) (((ha.2.1.mul hb.2.2).add ((hb.2.1.mul ha.2.2).mono (by omega))).mono (by omega)) ((ha.2.2.mul hb.2.2).mono (by omega))
  simp [f__law_plus, m__law_plus, defF_ap, lentS, it0, it1, callF_ap, m1, m2, m3, lo, addF]
theorem lminus_ap : f__law_minus none [fr a, fr b] = .ret (.val (fr (subF a b))) none := by
  have m1 := mulD_z (ha.2.1.mono (k := 8900) (by omega)) (hb.2.2.mono (k := 8900) (by omega))
  have m2 := mulD_z (hb.2.1.mono (k := 8900) (by omega)) (ha.2.2.mono (k := 8900) (by omega))
  have m3 := mulD_z (ha.2.2.mono (k := 8900) (by omega)) (hb.2.2.mono (k := 8900) (by omega))
  have lo := frac_ap (p := a.1 * b.2 - b.1 * a.2) (den_ne ha hb) (((ha.2.1.mul hb.2.2).sub ((hb.2.1.mul ha.2.2).mono (by omega))).mono (by omega)) ((ha.2.2.mul hb.2.2).mono (by omega))
  simp [f__law_minus, m__law_minus, defF_ap, lentS, it0, it1, callF_ap, m1, m2, m3, lo, subF]
theorem ltimes_ap : f__law_times none [fr a, fr b] = .ret (.val (fr (mulF a b))) none := by
  have m1 := mulD_z (ha.2.1.mono (k := 8900) (by omega)) (hb.2.1.mono (k := 8900) (by omega))
  have m3 := mulD_z (ha.2.2.mono (k := 8900) (by omega)) (hb.2.2.mono (k := 8900) (by omega))
  have lo := frac_ap (p := a.1 * b.1) (den_ne ha hb) ((ha.2.1.mul hb.2.1).mono (by omega)) ((ha.2.2.mul hb.2.2).mono (by omega))
  simp [f__law_times, m__law_times, defF_ap, lentS, it0, it1, callF_ap, m1, m3, lo, mulF]
end
end HT

set_option Elab.async false
set_option linter.all false
set_option maxRecDepth 100000
set_option maxHeartbeats 4000000
/-! K90P8: fractions, points told. -/
namespace HT
open PySem PySem.Spec PyProof.Rows L2 HM
theorem frac_len {a : Fq} : lenD (fr a) = some (.int 2) := id rfl
theorem isfrac_ap {a : Fq} (h : Can a) : f_is_fraction none [fr a] = .ret (.val (.bl true)) none := by
  have it := is_tuple (fr a) trivial
  have it : isT "tuple" (fr a) = some (.bl true) := it
  have w1 := whole_ap (.int a.1) trivial
  have w2 := whole_ap (.int a.2) trivial
  have n1 : ¬ a.2 < 1 := by
    have := h.1
    omega
  have g : gcdD [.int a.1, .int a.2] = some (.int (gc a.1 a.2)) := rfl
  rw [h.2] at g
  by_cases h1 : a.2 = 1
  · rw [h1] at w2
    simp [f_is_fraction, m_is_fraction, defF_ap, lentS, ifS_ap, orB_ap, asB_ap, var_ap, it, frac_len, neD_i, it0, it1, callF_ap, w1, w2, wholeB, n1, orV_ap, eqD_i, h1]
  · simp [f_is_fraction, m_is_fraction, defF_ap, lentS, ifS_ap, orB_ap, asB_ap, var_ap, it, frac_len, neD_i, it0, it1, callF_ap, w1, w2, wholeB, n1, orV_ap, eqD_i, h1, g]
end HT

set_option Elab.async false
set_option linter.all false
set_option maxRecDepth 100000
set_option maxHeartbeats 4000000
/-! K90P9: points. -/
namespace HT
open PySem PySem.Spec PyProof.Rows L2 HM
abbrev Pt := List Fq
def pt (p : Pt) : D := .tup (p.map fr)
def CanP (p : Pt) : Prop := ∀ a ∈ p, Can a
theorem pt_len {p : Pt} : lenD (pt p) = some (.int p.length) := by
  show some (D.int ((p.map fr).length : Nat)) = _
  rw [List.length_map]
theorem bools_true : ∀ ds : List D, boolsOf (ds.map fun _ => D.bl true) = some (ds.map fun _ => true)
  | [] => rfl
  | d :: ds => by
    show (boolsOf (ds.map fun _ => D.bl true)).map (true :: ·) = _
    rw [bools_true ds]
    rfl
theorem all_true (ds : List D) : allD (.lst (ds.map fun _ => D.bl true)) = some (.bl true) := by
  show (boolsOf (ds.map fun _ => D.bl true)).map (fun is => D.bl (is.all id)) = _
  rw [bools_true]
  show some (D.bl ((ds.map fun _ => true).all id)) = _
  congr 2
  rw [List.all_eq_true]
  intro b hb
  obtain ⟨d, _, e⟩ := List.mem_map.mp hb
  rw [← e]
  rfl
theorem point_ap {p : Pt} {s : Nat} (h : CanP p) (h1 : 1 ≤ p.length) (h3 : p.length ≤ 3) (hs : s = 0 ∨ s = p.length) : f_is_point none [pt p, .int (s : Nat)] = .ret (.val (.bl true)) none := by
  have it : isT "tuple" (pt p) = some (.bl true) := is_tuple (pt p) trivial
  have lc : lcE (itE (var 0)) (tgN 2) yesB (frz (callF f_is_fraction [] (aCons (var 2) aNil))) [2] [.val (pt p), .val (.int (s : Nat)), .non] = .ok (.own (.lst ((p.map fr).map fun _ => D.bl true))) [.val (pt p), .val (.int (s : Nat)), .non] := by
    refine lcE_map (ds := p.map fr) (g := fun _ => D.bl true) rfl (by rw [List.length_map]; omega) rfl rfl fun d hd => ?_
    obtain ⟨a, ha, e⟩ := List.mem_map.mp hd
    subst e
    refine ⟨[.val (pt p), .val (.int (s : Nat)), .val (fr a)], [.val (pt p), .val (.int (s : Nat)), .val (fr a)], rfl, ?_, rfl⟩
    have e := isfrac_ap (h a ha)
    simp only [frz_ap, callF_ap, aCons_ap, aNil_ap, var_ap, List.getElem?_cons_zero, List.getElem?_cons_succ, bind_ok, List.append_nil, e, data_val, of_some]
  have c1 : decide ((1 : Int) ≤ (p.length : Int)) = true := decide_eq_true (by omega)
  have c3 : decide ((p.length : Int) ≤ 3) = true := decide_eq_true (by omega)
  have al := all_true (p.map fr)
  rcases hs with z | z
  · have z0 : decide (((s : Nat) : Int) = 0) = true := decide_eq_true (by omega)
    simp only [f_is_point, m_is_point, defF_ap, lentS, List.map_cons, List.map_nil, List.nil_append, List.length_cons, List.length_nil, if_true, List.cons_append, List.replicate, sq_ap, ifS_ap, orB_ap, andB_ap, notB_ap, asB_ap, isInst_ap, var_ap, List.getElem?_cons_zero, List.getElem?_cons_succ, bind_ok, it, of_some, Bool.not_true, Bool.false_eq_true, if_false, chain_ap, cst_ap, opV1_ap, peek_ap, Option.bind_some, data_val, pt_len, leD_i, c1, c3, stm_ok, skp_ap, seq_nx, op2_ap, neD_i, z0, retS_ap, thw_ap, op1_ap, frz_ap, lc, data_own, al, finF_rt0]
  · have z0 : decide (((p.length : Nat) : Int) = ((s : Nat) : Int)) = true := decide_eq_true (by omega)
    have z1 : decide (((s : Nat) : Int) = 0) = false := decide_eq_false (by omega)
    simp only [f_is_point, m_is_point, defF_ap, lentS, List.map_cons, List.map_nil, List.nil_append, List.length_cons, List.length_nil, if_true, List.cons_append, List.replicate, sq_ap, ifS_ap, orB_ap, andB_ap, notB_ap, asB_ap, isInst_ap, var_ap, List.getElem?_cons_zero, List.getElem?_cons_succ, bind_ok, it, of_some, Bool.not_true, Bool.not_false, Bool.false_eq_true, if_false, chain_ap, cst_ap, opV1_ap, peek_ap, Option.bind_some, data_val, pt_len, leD_i, c1, c3, stm_ok, skp_ap, seq_nx, op2_ap, neD_i, z0, z1, retS_ap, thw_ap, op1_ap, frz_ap, lc, data_own, al, finF_rt0]
end HT

set_option Elab.async false
set_option linter.all false
set_option maxRecDepth 100000
set_option maxHeartbeats 4000000
/-! K90PA: check_point, dotted. -/
namespace HT
open PySem PySem.Spec PyProof.Rows L2 HM
theorem check_ap {p : Pt} {s : Nat} {w : Int} (h : CanP p) (h1 : 1 ≤ p.length) (h3 : p.length ≤ 3) (hs : s = p.length) : f_check_point none [pt p, .int (s : Nat), .int w] = .ret (.val .non) none := by
  have ip := point_ap (s := 0) h h1 h3 (.inl rfl)
  have ip : f_is_point none [pt p, .int 0] = .ret (.val (.bl true)) none := ip
  have z0 : decide (((p.length : Nat) : Int) = ((s : Nat) : Int)) = true := decide_eq_true (by omega)
  simp only [f_check_point, m_check_point, defF_ap, lentS, List.map_cons, List.map_nil, List.nil_append, List.length_cons, List.length_nil, if_true, List.cons_append, List.replicate, sq_ap, ifS_ap, notB_ap, asB_ap, frz_ap, callF_ap, aCons_ap, aNil_ap, var_ap, List.getElem?_cons_zero, List.getElem?_cons_succ, bind_ok, ip, data_val, of_some, Bool.not_true, Bool.false_eq_true, if_false, stm_ok, skp_ap, seq_nx, op2_ap, opV1_ap, peek_ap, Option.bind_some, pt_len, neD_i, z0, finF_nx0]
/-- the other size -/
theorem check_other {p : Pt} {s w : Int} (h : CanP p) (h1 : 1 ≤ p.length) (h3 : p.length ≤ 3) (hs : (p.length : Int) ≠ s) : f_check_point none [pt p, .int s, .int w] = .exc (.own "OtherSpace") ["got", "wanted"] [.int p.length, .int s] none := by
  have ip := point_ap (s := 0) h h1 h3 (.inl rfl)
  have ip : f_is_point none [pt p, .int 0] = .ret (.val (.bl true)) none := ip
  have z0 : decide (((p.length : Nat) : Int) = s) = false := decide_eq_false hs
  simp only [f_check_point, m_check_point, defF_ap, lentS, List.map_cons, List.map_nil, List.nil_append, List.length_cons, List.length_nil, if_true, List.cons_append, List.replicate, sq_ap, ifS_ap, notB_ap, asB_ap, frz_ap, callF_ap, aCons_ap, aNil_ap, var_ap, List.getElem?_cons_zero, List.getElem?_cons_succ, bind_ok, ip, data_val, of_some, Bool.not_true, Bool.not_false, Bool.false_eq_true, if_false, stm_ok, skp_ap, seq_nx, op2_ap, opV1_ap, peek_ap, Option.bind_some, pt_len, neD_i, z0, raiseS_ap]
  rfl
/-! ### dotted -/
/-- the sum over one denominator, turn by turn -/
def dotS : List (Fq × Fq) → Int → Int → Int × Int
  | [], u, l => (u, l)
  | (f, g) :: r, u, l => if f.2 * g.2 = l then dotS r (u + f.1 * g.1) l else dotS r (u * (f.2 * g.2) + f.1 * g.1 * l) (l * (f.2 * g.2))
def dotF (p q : Pt) : Fq := nrm (dotS (p.zip q) 0 1).1 (dotS (p.zip q) 0 1).2
end HT

set_option Elab.async false
set_option linter.all false
set_option maxRecDepth 100000
set_option maxHeartbeats 4000000
/-! K90PB: dotted. -/
namespace HT
open PySem PySem.Spec PyProof.Rows L2 HM
/-- a turn of dotted -/
theorem dot_turn {s0 s1 : Sl} {u l : Int} {f g : Fq} {k : Nat} (hk : k ≤ 4400) (hf : SF k f) (hg : SF k g) (hu : Sz 4400 u) (hl : Sz 4400 l) :
    p0_dotted [s0, s1, .val (.int u), .val (.int l), .val (fr f), .val (fr g), .non] = .nx [s0, s1, .val (.int (if f.2 * g.2 = l then u + f.1 * g.1 else u * (f.2 * g.2) + f.1 * g.1 * l)), .val (.int (if f.2 * g.2 = l then l else l * (f.2 * g.2))), .non, .non, .non] := by
  have m1 := mulD_z (hf.2.2.mono (k := 8900) (by omega)) (hg.2.2.mono (k := 8900) (by omega))
  have m2 := mulD_z (hf.2.1.mono (k := 8900) (by omega)) (hg.2.1.mono (k := 8900) (by omega))
  have m3 := mulD_z (hu.mono (k := 8900) (by omega)) ((hf.2.2.mul hg.2.2).mono (k := 8900) (by omega))
  have m4 := mulD_z ((hf.2.1.mul hg.2.1).mono (k := 8900) (by omega)) (hl.mono (k := 8900) (by omega))
  have m5 := mulD_z (hl.mono (k := 8900) (by omega)) ((hf.2.2.mul hg.2.2).mono (k := 8900) (by omega))
  by_cases h : f.2 * g.2 = l
  · have d1 : decide (f.2 * g.2 = l) = true := decide_eq_true h
    rw [if_pos h, if_pos h]
    simp only [p0_dotted, sq_ap, asg_ap, thw_ap, op2_ap, opV2_ap, peek_ap, cst_ap, var_ap, List.getElem?_cons_zero, List.getElem?_cons_succ, Option.bind_some, data_val, of_some, bind_ok, it0, it1, m1, m2, stm_ok, List.set_cons_succ, List.set_cons_zero, seq_nx, ifS_ap, asB_ap, eqD_i, d1, if_true, addD_i, fgt_ap, List.foldl_cons, List.foldl_nil]
  · have d1 : decide (f.2 * g.2 = l) = false := decide_eq_false h
    rw [if_neg h, if_neg h]
    simp only [p0_dotted, sq_ap, asg_ap, thw_ap, op2_ap, opV2_ap, peek_ap, cst_ap, var_ap, List.getElem?_cons_zero, List.getElem?_cons_succ, Option.bind_some, data_val, of_some, bind_ok, it0, it1, m1, m2, m3, m4, m5, stm_ok, List.set_cons_succ, List.set_cons_zero, seq_nx, ifS_ap, asB_ap, eqD_i, d1, if_false, Bool.false_eq_true, addD_i, fgt_ap, List.foldl_cons, List.foldl_nil]
end HT

set_option Elab.async false
set_option linter.all false
set_option maxRecDepth 100000
set_option maxHeartbeats 4000000
/-! K90PC: the value of a fraction. -/
namespace HT
open PySem PySem.Spec PyProof.Rows L2 HM
def vq (a : Fq) : Rat := (a.1 : Rat) / (a.2 : Rat)
theorem rz {q : Int} (h : q ≠ 0) : (q : Rat) ≠ 0 := fun z => h (by exact_mod_cast z)
theorem vq_nrm {p q : Int} (h : q ≠ 0) : vq (nrm p q) = (p : Rat) / (q : Rat) := by
  have h1 := nrm_val (p := p) h
  have h2 : (nrm p q).2 ≠ 0 := by
    have := (nrm_can (p := p) h).1
    omega
  have h3 := rz h
  have h4 := rz h2
  have h5 : ((nrm p q).1 : Rat) * (q : Rat) = (p : Rat) * ((nrm p q).2 : Rat) := by exact_mod_cast h1
  unfold vq
  generalize ((nrm p q).1 : Rat) = a at *
  generalize ((nrm p q).2 : Rat) = b at *
  generalize (p : Rat) = c at *
  generalize (q : Rat) = d at *
  grind
theorem vq_inj {a b : Fq} (ha : Can a) (hb : Can b) (h : vq a = vq b) : a = b := by
  refine can_uniq ha hb ?_
  have h1 := rz (show a.2 ≠ 0 by have := ha.1; omega)
  have h2 := rz (show b.2 ≠ 0 by have := hb.1; omega)
  have : (a.1 : Rat) * (b.2 : Rat) = (b.1 : Rat) * (a.2 : Rat) := by
    unfold vq at h
    generalize (a.1 : Rat) = x at *
    generalize (a.2 : Rat) = y at *
    generalize (b.1 : Rat) = z at *
    generalize (b.2 : Rat) = w at *
    grind
  exact_mod_cast this
theorem vq_add {a b : Fq} (ha : 0 < a.2) (hb : 0 < b.2) : vq (addF a b) = vq a + vq b := by
  have h1 := rz (show a.2 ≠ 0 by omega)
  have h2 := rz (show b.2 ≠ 0 by omega)
  unfold addF
  rw [vq_nrm (Int.mul_ne_zero (by omega) (by omega))]
  unfold vq
  push_cast
  grind
theorem vq_sub {a b : Fq} (ha : 0 < a.2) (hb : 0 < b.2) : vq (subF a b) = vq a - vq b := by
  have h1 := rz (show a.2 ≠ 0 by omega)
  have h2 := rz (show b.2 ≠ 0 by omega)
  unfold subF
  rw [vq_nrm (Int.mul_ne_zero (by omega) (by omega))]
  unfold vq
  push_cast
  grind
theorem vq_mul {a b : Fq} (ha : 0 < a.2) (hb : 0 < b.2) : vq (mulF a b) = vq a * vq b := by
  have h1 := rz (show a.2 ≠ 0 by omega)
  have h2 := rz (show b.2 ≠ 0 by omega)
  unfold mulF
  rw [vq_nrm (Int.mul_ne_zero (by omega) (by omega))]
  unfold vq
  push_cast
  grind
theorem vq_one (x : Int) : vq (x, 1) = (x : Rat) := by
  unfold vq
  show (x : Rat) / ((1 : Int) : Rat) = _
  grind
end HT

set_option Elab.async false
set_option linter.all false
set_option maxRecDepth 100000
set_option maxHeartbeats 4000000
/-! K90PD: dotted's value. -/
namespace HT
open PySem PySem.Spec PyProof.Rows L2 HM
def dotR : List (Fq × Fq) → Rat
  | [] => 0
  | (f, g) :: r => vq f * vq g + dotR r
theorem dotS_val : ∀ (r : List (Fq × Fq)) (u l : Int), l ≠ 0 → (∀ z ∈ r, 0 < z.1.2 ∧ 0 < z.2.2) → (dotS r u l).2 ≠ 0 ∧ ((dotS r u l).1 : Rat) / ((dotS r u l).2 : Rat) = (u : Rat) / (l : Rat) + dotR r
  | [], u, l, h, _ => ⟨h, by
    show (u : Rat) / (l : Rat) = _ + 0
    grind⟩
  | (f, g) :: r, u, l, h, hz => by
    obtain ⟨z1, z2⟩ := hz (f, g) List.mem_cons_self
    have z1 : 0 < f.2 := z1
    have z2 : 0 < g.2 := z2
    have hr : ∀ z ∈ r, 0 < z.1.2 ∧ 0 < z.2.2 := fun z hm => hz z (List.mem_cons_of_mem _ hm)
    have a1 := rz (show f.2 ≠ 0 by omega)
    have a2 := rz (show g.2 ≠ 0 by omega)
    have a3 := rz h
    show (if f.2 * g.2 = l then dotS r (u + f.1 * g.1) l else dotS r (u * (f.2 * g.2) + f.1 * g.1 * l) (l * (f.2 * g.2))).2 ≠ 0 ∧ ((if f.2 * g.2 = l then dotS r (u + f.1 * g.1) l else dotS r (u * (f.2 * g.2) + f.1 * g.1 * l) (l * (f.2 * g.2))).1 : Rat) / ((if f.2 * g.2 = l then dotS r (u + f.1 * g.1) l else dotS r (u * (f.2 * g.2) + f.1 * g.1 * l) (l * (f.2 * g.2))).2 : Rat) = (u : Rat) / (l : Rat) + (vq f * vq g + dotR r)
    by_cases e : f.2 * g.2 = l
    · rw [if_pos e]
      obtain ⟨k1, k2⟩ := dotS_val r (u + f.1 * g.1) l h hr
      refine ⟨k1, k2.trans ?_⟩
      have e2 : (f.2 : Rat) * (g.2 : Rat) = (l : Rat) := by exact_mod_cast e
      unfold vq
      push_cast
      grind
    · rw [if_neg e]
      have h2 : l * (f.2 * g.2) ≠ 0 := Int.mul_ne_zero h (Int.mul_ne_zero (by omega) (by omega))
      obtain ⟨k1, k2⟩ := dotS_val r (u * (f.2 * g.2) + f.1 * g.1 * l) (l * (f.2 * g.2)) h2 hr
      refine ⟨k1, k2.trans ?_⟩
      unfold vq
      push_cast
      grind
end HT

set_option Elab.async false
set_option linter.all false
set_option maxRecDepth 100000
set_option maxHeartbeats 4000000
/-! K90PE: dotted, its equation and size. -/
namespace HT
open PySem PySem.Spec PyProof.Rows L2 HM
/-- sizes of the running sum: behind n turns of parts below 2 ^ k -/
theorem dotS_sz {k : Nat} : ∀ (r : List (Fq × Fq)) (u l : Int) (j : Nat), (∀ z ∈ r, SF k z.1 ∧ SF k z.2) → Sz j u → Sz j l → Sz (j + (2 * k + 1) * r.length) (dotS r u l).1 ∧ Sz (j + (2 * k + 1) * r.length) (dotS r u l).2
  | [], u, l, j, _, hu, hl => ⟨hu.mono (by simp), hl.mono (by simp)⟩
  | (f, g) :: r, u, l, j, hz, hu, hl => by
    obtain ⟨z1, z2⟩ := hz (f, g) List.mem_cons_self
    have z1 : SF k f := z1
    have z2 : SF k g := z2
    have hr : ∀ z ∈ r, SF k z.1 ∧ SF k z.2 := fun z hm => hz z (List.mem_cons_of_mem _ hm)
    have len : j + (2 * k + 1) * ((f, g) :: r).length = (j + (2 * k + 1)) + (2 * k + 1) * r.length := by
      rw [List.length_cons, Nat.mul_succ]
      omega
    rw [len]
    have p := z1.2.1.mul z2.2.1
    have q := z1.2.2.mul z2.2.2
    show Sz _ (if f.2 * g.2 = l then dotS r (u + f.1 * g.1) l else dotS r (u * (f.2 * g.2) + f.1 * g.1 * l) (l * (f.2 * g.2))).1 ∧ Sz _ (if f.2 * g.2 = l then dotS r (u + f.1 * g.1) l else dotS r (u * (f.2 * g.2) + f.1 * g.1 * l) (l * (f.2 * g.2))).2
    by_cases e : f.2 * g.2 = l
    · rw [if_pos e]
      exact dotS_sz r _ _ _ hr (((hu.mono (k := j + 2 * k) (by omega)).add (p.mono (by omega))).mono (by omega)) (hl.mono (by omega))
    · rw [if_neg e]
      exact dotS_sz r _ _ _ hr ((((hu.mul q).mono (k := j + 2 * k) (by omega)).add ((p.mul hl).mono (by omega))).mono (by omega)) ((hl.mul q).mono (by omega))
end HT

set_option Elab.async false
set_option linter.all false
set_option maxRecDepth 100000
set_option maxHeartbeats 4000000
/-! K90PF: dotted, whole. -/
namespace HT
open PySem PySem.Spec PyProof.Rows L2 HM
def frs2 (r : List (Fq × Fq)) : List D := r.map fun z => .tup [fr z.1, fr z.2]
theorem dot_loop {s0 s1 : Sl} {k : Nat} : ∀ (r : List (Fq × Fq)) (u l : Int) (j : Nat), (∀ z ∈ r, SF k z.1 ∧ SF k z.2) → Sz j u → Sz j l → j + (2 * k + 1) * r.length ≤ 4400 → k ≤ 4400 →
    forS (tgT (tgN 4 :: tgN 5 :: [])) p0_dotted (frs2 r) [s0, s1, .val (.int u), .val (.int l), .non, .non, .non] = .nx [s0, s1, .val (.int (dotS r u l).1), .val (.int (dotS r u l).2), .non, .non, .non]
  | [], u, l, j, _, _, _, _, _ => forS_nil
  | (f, g) :: r, u, l, j, hz, hu, hl, hj, hk => by
    obtain ⟨z1, z2⟩ := hz (f, g) List.mem_cons_self
    have z1 : SF k f := z1
    have z2 : SF k g := z2
    have hr : ∀ z ∈ r, SF k z.1 ∧ SF k z.2 := fun z hm => hz z (List.mem_cons_of_mem _ hm)
    rw [List.length_cons, Nat.mul_succ] at hj
    have tu := dot_turn (s0 := s0) (s1 := s1) hk z1 z2 (hu.mono (k := 4400) (by omega)) (hl.mono (k := 4400) (by omega))
    have p := z1.2.1.mul z2.2.1
    have q := z1.2.2.mul z2.2.2
    show forS _ _ (.tup [fr f, fr g] :: frs2 r) _ = _
    rw [forS_cons]
    show (match p0_dotted [s0, s1, .val (.int u), .val (.int l), .val (fr f), .val (fr g), .non] with
      | .nx ρ2 => forS (tgT (tgN 4 :: tgN 5 :: [])) p0_dotted (frs2 r) ρ2
      | .ct ρ2 => forS (tgT (tgN 4 :: tgN 5 :: [])) p0_dotted (frs2 r) ρ2
      | .bk ρ2 => .nx ρ2
      | o => o) = .nx [s0, s1, .val (.int (if f.2 * g.2 = l then dotS r (u + f.1 * g.1) l else dotS r (u * (f.2 * g.2) + f.1 * g.1 * l) (l * (f.2 * g.2))).1), .val (.int (if f.2 * g.2 = l then dotS r (u + f.1 * g.1) l else dotS r (u * (f.2 * g.2) + f.1 * g.1 * l) (l * (f.2 * g.2))).2), .non, .non, .non]
    rw [tu]
    dsimp only
    by_cases e : f.2 * g.2 = l
    · rw [if_pos e, if_pos e, if_pos e]
      exact dot_loop r _ _ (j + (2 * k + 1)) hr (((hu.mono (k := j + 2 * k) (by omega)).add (p.mono (by omega))).mono (by omega)) (hl.mono (by omega)) (by omega) hk
    · rw [if_neg e, if_neg e, if_neg e]
      exact dot_loop r _ _ (j + (2 * k + 1)) hr ((((hu.mul q).mono (k := j + 2 * k) (by omega)).add ((p.mul hl).mono (by omega))).mono (by omega)) ((hl.mul q).mono (by omega)) (by omega) hk
end HT

set_option Elab.async false
set_option linter.all false
set_option maxRecDepth 100000
set_option maxHeartbeats 4000000
/-! K90PG: dotted's equation. -/
namespace HT
open PySem PySem.Spec PyProof.Rows L2 HM
theorem zip_frs (p q : Pt) : (((p.map fr).zip (q.map fr)).map fun z => D.tup [z.1, z.2]) = frs2 (p.zip q) := by
  unfold frs2
  rw [List.zip_map, List.map_map]
  rfl
/-- a row of fractions: a list or a tuple -/
def Row (d : D) (p : Pt) : Prop := d = .lst (p.map fr) ∨ d = .tup (p.map fr)
theorem zip_row {d e : D} {p q : Pt} (h1 : Row d p) (h2 : e = .tup (q.map fr)) : zipD2 d e = some (frs2 (p.zip q)) := by
  subst h2
  rw [← zip_frs]
  rcases h1 with z | z <;> subst z <;> rfl
theorem dot_ap {d e : D} {p q : Pt} {k : Nat} (h1 : Row d p) (h2 : e = .tup (q.map fr)) (hp : ∀ a ∈ p, SF k a) (hq : ∀ a ∈ q, SF k a) (hl : p.length ≤ 3) (hk : k ≤ 640) : f_dotted none [d, e] = .ret (.val (fr (dotF p q))) none ∧ SF (1 + (2 * k + 1) * 3) (dotF p q) := by
  have hz : ∀ z ∈ p.zip q, SF k z.1 ∧ SF k z.2 := fun z hm => by
    obtain ⟨m1, m2⟩ := List.of_mem_zip (show (z.1, z.2) ∈ p.zip q from hm)
    exact ⟨hp _ m1, hq _ m2⟩
  have ll : (p.zip q).length ≤ 3 := by
    rw [List.length_zip]
    omega
  have mm : (2 * k + 1) * (p.zip q).length ≤ (2 * k + 1) * 3 := Nat.mul_le_mul_left _ ll
  have s0 : Sz 1 0 := (by decide : (0 : Int).natAbs < 2 ^ 1)
  have s1 : Sz 1 1 := (by decide : (1 : Int).natAbs < 2 ^ 1)
  obtain ⟨b1, b2⟩ := dotS_sz (k := k) (p.zip q) 0 1 1 hz s0 s1
  have ne := (dotS_val (p.zip q) 0 1 (by decide) fun z hm => ⟨(hz z hm).1.1, (hz z hm).2.1⟩).1
  have lo := low_ap (p := (dotS (p.zip q) 0 1).1) ne (b2.mono (by omega))
  have lp := dot_loop (s0 := .val d) (s1 := .val e) (k := k) (p.zip q) 0 1 1 hz s0 s1 (by omega) (by omega)
  refine ⟨?_, nrm_SF ne (b1.mono (by omega)) (b2.mono (by omega))⟩
  have zr := zip_row h1 h2
  simp only [f_dotted, m_dotted, defF_ap, lentS, List.map_cons, List.map_nil, List.nil_append, List.length_cons, List.length_nil, if_true, List.cons_append, List.replicate, sq_ap, asg_ap, thw_ap, cst_ap, bind_ok, stm_ok, List.set_cons_succ, List.set_cons_zero, seq_nx, forE_ap, show ∀ (f g : EV) (ρ : Rho), zipM f g ρ = (f ρ).bind fun d ρ1 => (g ρ1).bind fun d' ρ2 => Out.of (zipD2 d d') ρ2 from fun _ _ _ => rfl, var_ap, List.getElem?_cons_zero, List.getElem?_cons_succ, zr, of_some, lp, fgt_ap, List.foldl_cons, List.foldl_nil, retS_ap, callF_ap, aCons_ap, aNil_ap, List.append_nil, lo, finF_rt0]
  rfl
end HT

set_option Elab.async false
set_option linter.all false
set_option maxRecDepth 100000
set_option maxHeartbeats 4000000
/-! K90PH: the height over a line. -/
namespace HT
open PySem PySem.Spec PyProof.Rows L2 HM
/-- whole numbers as fractions -/
def wh (as : List Int) : Pt := as.map fun a => (a, 1)
theorem dot_val {p q : Pt} (hp : ∀ a ∈ p, 0 < a.2) (hq : ∀ a ∈ q, 0 < a.2) : vq (dotF p q) = dotR (p.zip q) := by
  obtain ⟨h1, h2⟩ := dotS_val (p.zip q) 0 1 (by decide) fun z hm => by
    obtain ⟨m1, m2⟩ := List.of_mem_zip (show (z.1, z.2) ∈ p.zip q from hm)
    exact ⟨hp _ m1, hq _ m2⟩
  unfold dotF
  rw [vq_nrm h1, h2]
  push_cast
  grind
theorem height_lc {as : List Int} {o p : D} (hl : as.length ≤ 3) : lcE (itE (var 0)) (tgN 3) yesB (tupE (aCons (var 3) (aCons (cst (.int 1)) aNil))) [3] [.val (.tup (L as)), .val o, .val p, .non] = .ok (.own (.lst ((wh as).map fr))) [.val (.tup (L as)), .val o, .val p, .non] := by
  have s2 : small 2 = true := small_of (by omega)
  have e : (wh as).map fr = (L as).map fun d => match d with
      | .int a => .tup [.int a, .int 1]
      | _ => .non := by
    unfold wh L
    rw [List.map_map, List.map_map]
    rfl
  rw [e]
  refine lcE_map (ds := L as) rfl (by rw [L_length]; omega) rfl rfl fun d hd => ?_
  obtain ⟨a, _, ea⟩ := List.mem_map.mp hd
  subst ea
  refine ⟨[.val (.tup (L as)), .val o, .val p, .val (.int a)], [.val (.tup (L as)), .val o, .val p, .val (.int a)], rfl, ?_, rfl⟩
  simp only [tupE_ap, aCons_ap, aNil_ap, var_ap, cst_ap, List.getElem?_cons_zero, List.getElem?_cons_succ, bind_ok, List.length_cons, List.length_nil, s2, if_true, of_some]
end HT

set_option Elab.async false
set_option linter.all false
set_option maxRecDepth 100000
set_option maxHeartbeats 4000000
/-! K90PI: the height over a line, whole. -/
namespace HT
open PySem PySem.Spec PyProof.Rows L2 HM
def heightF (as : List Int) (o : Fq) (p : Pt) : Fq := subF o (dotF (wh as) p)
theorem wh_SF {as : List Int} {k : Nat} (h : ∀ a ∈ as, Sz k a) (hk : 1 ≤ k) : ∀ z ∈ wh as, SF k z := fun z hz => by
  obtain ⟨a, ha, e⟩ := List.mem_map.mp hz
  subst e
  refine ⟨(by decide : (0 : Int) < 1), h a ha, ?_⟩
  show (1 : Int).natAbs < 2 ^ k
  exact Nat.one_lt_two_pow (by omega)
theorem height_ap {as : List Int} {o : Fq} {p : Pt} {k : Nat} (ha : ∀ a ∈ as, Sz k a) (hp : ∀ a ∈ p, SF k a) (ho : SF k o) (hk : 1 ≤ k) (hk2 : k ≤ 390) (hl : as.length ≤ 3) :
    f_height_of none [.tup (L as), fr o, pt p] = .ret (.val (fr (heightF as o p))) none ∧ SF (7 * k + 5) (heightF as o p) := by
  have lc := height_lc (as := as) (o := fr o) (p := pt p) hl
  obtain ⟨d1, d2⟩ := dot_ap (d := .lst ((wh as).map fr)) (e := pt p) (p := wh as) (q := p) (k := k) (.inl rfl) rfl (wh_SF ha hk) hp (by unfold wh; rw [List.length_map]; exact hl) (by omega)
  have m := minus_ap (ho.mono (k := 4400) (by omega)) (d2.mono (k := 4400) (by omega))
  refine ⟨?_, (subF_SF ho d2).mono (by omega)⟩
  simp only [f_height_of, m_height_of, defF_ap, lentS, List.map_cons, List.map_nil, List.nil_append, List.length_cons, List.length_nil, if_true, List.cons_append, List.replicate, retS_ap, callF_ap, aCons_ap, aNil_ap, var_ap, List.getElem?_cons_zero, List.getElem?_cons_succ, bind_ok, frz_ap, lc, data_own, data_val, of_some, List.append_nil, d1, m, stm_ok, heightF, finF_rt0]
end HT

set_option Elab.async false
set_option linter.all false
set_option maxRecDepth 100000
set_option maxHeartbeats 4000000
/-! K90PJ: the square of a direction's length. -/
namespace HT
open PySem PySem.Spec PyProof.Rows L2 HM
def sqs (as : List Int) : Int := (as.map fun a => a * a).sum
theorem ints_L : ∀ is : List Int, intsOf (L is) = some is
  | [] => rfl
  | i :: is => by
    show (intsOf (L is)).map (i :: ·) = _
    rw [ints_L is]
    rfl
theorem sum_L (is : List Int) : sumD (.lst (L is)) = some (.int is.sum) := by
  show (intsOf (L is)).map (fun is => D.int is.sum) = _
  rw [ints_L]
  rfl
/-- the squares, slot i the comprehension's -/
def sqD : D → D
  | .int a => .int (a * a)
  | _ => .non
theorem sq_map (as : List Int) : (L as).map sqD = L (as.map fun a => a * a) := by
  unfold L
  rw [List.map_map, List.map_map]
  rfl
theorem sq_turn {ρ : Rho} {i : Nat} {a : Int} (hi : i < ρ.length) (ha : Sz 8900 a) : op2 mulD (var i) (var i) (ρ.set i (.val (.int a))) = .ok (.int (a * a)) (ρ.set i (.val (.int a))) := by
  have m := mulD_z ha ha
  have g : (ρ.set i (.val (.int a)))[i]? = some (.val (.int a)) := List.getElem?_set_self hi
  simp only [op2_ap, var_ap, g, bind_ok, m, of_some]
end HT

set_option Elab.async false
set_option linter.all false
set_option maxRecDepth 100000
set_option maxHeartbeats 4000000
/-! K90PK: a flat; its length2. -/
namespace HT
open PySem PySem.Spec PyProof.Rows L2 HM
def flD (as : List Int) (o : Fq) : D := .ins "Flat" ["direction", "offset", "size"] [.tup (L as), fr o, .int as.length]
theorem fld_dir {as : List Int} {o : Fq} : fldD ["Flat"] "direction" (flD as o) = some (.tup (L as)) := by
  show (if ("Flat" : Str) ∈ ([("Flat" : Str)] : List Str) then _ else none) = _
  rw [if_pos List.mem_cons_self]
  rfl
theorem fld_off {as : List Int} {o : Fq} : fldD ["Flat"] "offset" (flD as o) = some (fr o) := by
  show (if ("Flat" : Str) ∈ ([("Flat" : Str)] : List Str) then _ else none) = _
  rw [if_pos List.mem_cons_self]
  rfl
theorem fld_size {as : List Int} {o : Fq} : fldD ["Flat"] "size" (flD as o) = some (.int as.length) := by
  show (if ("Flat" : Str) ∈ ([("Flat" : Str)] : List Str) then _ else none) = _
  rw [if_pos List.mem_cons_self]
  rfl
theorem length2_ap {as : List Int} {o : Fq} (ha : ∀ a ∈ as, Sz 8900 a) (hl : as.length ≤ 3) : f_Flat_length2 none [flD as o] = .ret (.val (.int (sqs as))) none := by
  have lc : lcE (itE (opV1 (fldD ["Flat"] "direction") 0)) (tgN 1) yesB (op2 mulD (var 1) (var 1)) [1] [.val (flD as o), .non] = .ok (.own (.lst (L (as.map fun a => a * a)))) [.val (flD as o), .non] := by
    rw [← sq_map]
    refine lcE_map (ds := L as) (g := sqD) ?_ (by rw [L_length]; omega) rfl rfl fun d hd => ?_
    · simp only [itE_ap, opV1_ap, peek_ap, List.getElem?_cons_zero, Option.bind_some, data_val, fld_dir, of_some, bind_ok, items_t]
    · obtain ⟨a, h, e⟩ := List.mem_map.mp hd
      subst e
      exact ⟨_, _, rfl, sq_turn (ρ := [.val (flD as o), .non]) (i := 1) (show 1 < 2 by omega) (ha a h), rfl⟩
  have sm := sum_L (as.map fun a => a * a)
  simp only [f_Flat_length2, m_Flat_length2, defF_ap, lentS, List.map_cons, List.map_nil, List.nil_append, List.length_cons, List.length_nil, if_true, List.cons_append, List.replicate, retS_ap, thw_ap, op1_ap, frz_ap, lc, bind_ok, data_own, of_some, sm, stm_ok, sqs, finF_rt0]
end HT

set_option Elab.async false
set_option linter.all false
set_option maxRecDepth 100000
set_option maxHeartbeats 4000000
/-! K90PL: common divisors with the sign of the first number that is not 0. -/
namespace HT
open PySem PySem.Spec PyProof.Rows L2 HM
theorem divisor_ap {a b : Int} : f_divisor none [.int a, .int b] = .ret (.val (.int (gc a b))) none := by
  have g : gcdD [.int a, .int b] = some (.int (gc a b)) := rfl
  simp only [f_divisor, m_divisor, defF_ap, lentS, List.map_cons, List.map_nil, List.nil_append, List.length_cons, List.length_nil, if_true, List.cons_append, List.replicate, retS_ap, thw_ap, opN_ap, aCons_ap, aNil_ap, var_ap, List.getElem?_cons_zero, List.getElem?_cons_succ, bind_ok, g, of_some, stm_ok, finF_rt0]
def comS : List Int → Int → Int → Int × Int
  | [], c, l => (c, l)
  | a :: r, c, l => comS r (gc c a) (if l = 0 then a else l)
def comF (as : List Int) : Int := if (comS as 0 0).2 < 0 then -(comS as 0 0).1 else (comS as 0 0).1
theorem com_loop {s0 : Sl} : ∀ (as : List Int) (c l : Int), forS (tgN 3) p0_common_of (L as) [s0, .val (.int c), .val (.int l), .non] = .nx [s0, .val (.int (comS as c l).1), .val (.int (comS as c l).2), .non]
  | [], c, l => forS_nil
  | a :: r, c, l => by
    have tu : p0_common_of [s0, .val (.int c), .val (.int l), .val (.int a)] = .nx [s0, .val (.int (gc c a)), .val (.int (if l = 0 then a else l)), .non] := by
      have g := divisor_ap (a := c) (b := a)
      by_cases h : l = 0
      · have d1 : decide (l = 0) = true := decide_eq_true h
        rw [if_pos h]
        simp only [p0_common_of, sq_ap, asg_ap, callF_ap, aCons_ap, aNil_ap, var_ap, List.getElem?_cons_zero, List.getElem?_cons_succ, bind_ok, List.append_nil, g, stm_ok, List.set_cons_succ, List.set_cons_zero, seq_nx, ifS_ap, asB_ap, op2_ap, cst_ap, eqD_i, of_some, d1, if_true, move_ap, fgt_ap, List.foldl_cons, List.foldl_nil]
      · have d1 : decide (l = 0) = false := decide_eq_false h
        rw [if_neg h]
        simp only [p0_common_of, sq_ap, asg_ap, callF_ap, aCons_ap, aNil_ap, var_ap, List.getElem?_cons_zero, List.getElem?_cons_succ, bind_ok, List.append_nil, g, stm_ok, List.set_cons_succ, List.set_cons_zero, seq_nx, ifS_ap, asB_ap, op2_ap, cst_ap, eqD_i, of_some, d1, if_false, Bool.false_eq_true, skp_ap, fgt_ap, List.foldl_cons, List.foldl_nil]
    show forS _ _ (.int a :: L r) _ = _
    rw [forS_cons]
    show (match p0_common_of [s0, .val (.int c), .val (.int l), .val (.int a)] with
      | .nx ρ2 => forS (tgN 3) p0_common_of (L r) ρ2
      | .ct ρ2 => forS (tgN 3) p0_common_of (L r) ρ2
      | .bk ρ2 => .nx ρ2
      | o => o) = _
    rw [tu]
    exact com_loop r _ _
end HT

set_option Elab.async false
set_option linter.all false
set_option maxRecDepth 100000
set_option maxHeartbeats 4000000
/-! K90PM: common_of, is_direction. -/
namespace HT
open PySem PySem.Spec PyProof.Rows L2 HM
theorem com_ap {as : List Int} : f_common_of none [.tup (L as)] = .ret (.val (.int (comF as))) none ∧ f_common_of none [.lst (L as)] = .ret (.val (.int (comF as))) none := by
  have lp := fun s0 => com_loop (s0 := s0) as 0 0
  unfold comF
  by_cases h : (comS as 0 0).2 < 0
  · have d1 : decide ((comS as 0 0).2 < 0) = true := decide_eq_true h
    rw [if_pos h]
    constructor <;> simp only [f_common_of, m_common_of, defF_ap, lentS, List.map_cons, List.map_nil, List.nil_append, List.length_cons, List.length_nil, if_true, List.cons_append, List.replicate, sq_ap, asg_ap, thw_ap, cst_ap, bind_ok, stm_ok, List.set_cons_succ, List.set_cons_zero, seq_nx, forE_ap, itE_ap, var_ap, List.getElem?_cons_zero, List.getElem?_cons_succ, items_t, items_l, of_some, lp, fgt_ap, List.foldl_cons, List.foldl_nil, retS_ap, ifE_ap, asB_ap, op2_ap, op1_ap, ltD_i, d1, negD_i, finF_rt0]
  · have d1 : decide ((comS as 0 0).2 < 0) = false := decide_eq_false h
    rw [if_neg h]
    constructor <;> simp only [f_common_of, m_common_of, defF_ap, lentS, List.map_cons, List.map_nil, List.nil_append, List.length_cons, List.length_nil, if_true, List.cons_append, List.replicate, sq_ap, asg_ap, thw_ap, cst_ap, bind_ok, stm_ok, List.set_cons_succ, List.set_cons_zero, seq_nx, forE_ap, itE_ap, var_ap, List.getElem?_cons_zero, List.getElem?_cons_succ, items_t, items_l, of_some, lp, fgt_ap, List.foldl_cons, List.foldl_nil, retS_ap, ifE_ap, asB_ap, op2_ap, ltD_i, d1, if_false, Bool.false_eq_true, finF_rt0]
end HT

set_option Elab.async false
set_option linter.all false
set_option maxRecDepth 100000
set_option maxHeartbeats 4000000
/-! K90PN: is_direction; a flat is made. -/
namespace HT
open PySem PySem.Spec PyProof.Rows L2 HM
theorem dirs_lc {as : List Int} (hl : as.length ≤ 3) : lcE (itE (var 0)) (tgN 1) yesB (frz (callF f_is_whole [] (aCons (var 1) aNil))) [1] [.val (.tup (L as)), .non] = .ok (.own (.lst ((L as).map fun _ => D.bl true))) [.val (.tup (L as)), .non] := by
  refine lcE_map (ds := L as) (g := fun _ => D.bl true) rfl (by rw [L_length]; omega) rfl rfl fun d hd => ?_
  obtain ⟨a, _, e⟩ := List.mem_map.mp hd
  subst e
  have w := whole_ap (.int a) trivial
  refine ⟨[.val (.tup (L as)), .val (.int a)], [.val (.tup (L as)), .val (.int a)], rfl, ?_, rfl⟩
  simp only [frz_ap, callF_ap, aCons_ap, aNil_ap, var_ap, List.getElem?_cons_zero, List.getElem?_cons_succ, bind_ok, List.append_nil, w, wholeB, data_val, of_some]
theorem isdir_ap {as : List Int} (h1 : 1 ≤ as.length) (h3 : as.length ≤ 3) (hc : comF as = 1) : f_is_direction none [.tup (L as)] = .ret (.val (.bl true)) none := by
  have it : isT "tuple" (.tup (L as)) = some (.bl true) := is_tuple (.tup (L as)) trivial
  have lc := dirs_lc (as := as) h3
  have al := all_true (L as)
  have cm := (com_ap (as := as)).1
  have c1 : decide ((1 : Int) ≤ (as.length : Int)) = true := decide_eq_true (by omega)
  have c3 : decide ((as.length : Int) ≤ 3) = true := decide_eq_true (by omega)
  have ce : decide (comF as = 1) = true := decide_eq_true hc
  simp only [f_is_direction, m_is_direction, defF_ap, lentS, List.map_cons, List.map_nil, List.nil_append, List.length_cons, List.length_nil, if_true, List.cons_append, List.replicate, sq_ap, ifS_ap, orB_ap, notB_ap, asB_ap, isInst_ap, var_ap, List.getElem?_cons_zero, List.getElem?_cons_succ, bind_ok, it, of_some, Bool.not_true, Bool.false_eq_true, if_false, chain_ap, cst_ap, opV1_ap, peek_ap, Option.bind_some, data_val, lenD_t, L_length, leD_i, c1, c3, stm_ok, skp_ap, seq_nx, retS_ap, thw_ap, andV_ap, op1_ap, frz_ap, lc, data_own, al, op2_ap, callF_ap, aCons_ap, aNil_ap, List.append_nil, cm, eqD_i, ce, finF_rt0]
end HT

set_option Elab.async false
set_option linter.all false
set_option maxRecDepth 100000
set_option maxHeartbeats 4000000
/-! K90PO: a flat is made. -/
namespace HT
open PySem PySem.Spec PyProof.Rows L2 HM
theorem flat_ap {as : List Int} {o : Fq} (h1 : 1 ≤ as.length) (h3 : as.length ≤ 3) (hc : comF as = 1) (ho : Can o) : f_Flat___init__ (some (.ins "Flat" [] [])) [.tup (L as), fr o] = .ret (.val .non) (some (flD as o)) := by
  have i1 := isdir_ap h1 h3 hc
  have i2 := isfrac_ap ho
  have m : ("Flat" : Str) ∈ ([("Flat" : Str)] : List Str) := List.mem_cons_self
  have st : ∀ (f : Str) (g : EV) (v : D) (ns : List Str) (ds : List D) (r : List Sl), g (.inp (.ins "Flat" ns ds) :: r) = .ok v (.inp (.ins "Flat" ns ds) :: r) → ns.length ≤ 900 → setFld ["Flat"] 0 f g (.inp (.ins "Flat" ns ds) :: r) = .nx (.inp (.ins "Flat" (putI ns ds f v).1 (putI ns ds f v).2) :: r) := fun f g v ns ds r hg hl => by
    unfold setFld
    rw [hg]
    show (if ("Flat" : Str) ∈ ([("Flat" : Str)] : List Str) ∧ ns.length ≤ 900 then SOut.nx (.inp (.ins "Flat" (putI ns ds f v).1 (putI ns ds f v).2) :: r) else .stuck) = _
    rw [if_pos ⟨m, hl⟩]
  have e1 := st "direction" (var 1) (.tup (L as)) [] [] [.val (.tup (L as)), .val (fr o)] rfl (by decide)
  have e2 := st "offset" (var 2) (fr o) ["direction"] [.tup (L as)] [.val (.tup (L as)), .val (fr o)] rfl (by decide)
  have e3 := st "size" (opV1 lenD 1) (.int as.length) ["direction", "offset"] [.tup (L as), fr o] [.val (.tup (L as)), .val (fr o)] (by simp only [opV1_ap, peek_ap, List.getElem?_cons_zero, List.getElem?_cons_succ, Option.bind_some, data_val, lenD_t, L_length, of_some]) (by decide)
  have e1 : setFld ["Flat"] 0 "direction" (var 1) [.inp (.ins "Flat" [] []), .val (.tup (L as)), .val (fr o)] = .nx [.inp (.ins "Flat" ["direction"] [.tup (L as)]), .val (.tup (L as)), .val (fr o)] := e1
  have e2 : setFld ["Flat"] 0 "offset" (var 2) [.inp (.ins "Flat" ["direction"] [.tup (L as)]), .val (.tup (L as)), .val (fr o)] = .nx [.inp (.ins "Flat" ["direction", "offset"] [.tup (L as), fr o]), .val (.tup (L as)), .val (fr o)] := e2
  simp only [f_Flat___init__, m_Flat___init__, defF_ap, lentS, List.map_cons, List.map_nil, List.nil_append, List.length_cons, List.length_nil, if_true, List.cons_append, Nat.reduceSub, List.replicate, sq_ap, ifS_ap, orB_ap, notB_ap, asB_ap, frz_ap, callF_ap, aCons_ap, aNil_ap, var_ap, List.getElem?_cons_zero, List.getElem?_cons_succ, bind_ok, List.append_nil, i1, i2, data_val, of_some, Bool.not_true, Bool.false_eq_true, if_false, stm_ok, skp_ap, seq_nx, e1, e2, e3, finF_nx1]
  rfl
end HT

set_option Elab.async false
set_option linter.all false
set_option maxRecDepth 100000
set_option maxHeartbeats 4000000
/-! K90PQ: mirrored. -/
namespace HT
open PySem PySem.Spec PyProof.Rows L2 HM
def facF (as : List Int) (o : Fq) (p : Pt) : Fq := mulF (heightF as o p) (nrm 2 (sqs as))
def mirF (as : List Int) (o : Fq) (p : Pt) : Pt := (p.zip as).map fun z => addF z.1 (mulF (facF as o p) (z.2, 1))
theorem sqs_sz {k : Nat} : ∀ {as : List Int}, (∀ a ∈ as, Sz k a) → as.length ≤ 3 → Sz (2 * k + 3) (sqs as) := fun {as} h hl => by
  have go : ∀ (as : List Int), (∀ a ∈ as, Sz k a) → (sqs as).natAbs ≤ as.length * 2 ^ (2 * k) := fun as => by
    induction as with
    | nil =>
      intro _
      show (0 : Int).natAbs ≤ _
      exact Nat.zero_le _
    | cons a r ih =>
      intro h
      have h1 := ih fun b hb => h b (List.mem_cons_of_mem _ hb)
      have h2 : (a * a).natAbs < 2 ^ (k + k) := (h a List.mem_cons_self).mul (h a List.mem_cons_self)
      have e : sqs (a :: r) = a * a + sqs r := rfl
      rw [e, List.length_cons, Nat.succ_mul]
      rw [show k + k = 2 * k by omega] at h2
      omega
  have := go as h
  unfold Sz
  have e : 2 ^ (2 * k + 3) = 8 * 2 ^ (2 * k) := by
    rw [Nat.pow_add, Nat.mul_comm]
  have m : as.length * 2 ^ (2 * k) ≤ 3 * 2 ^ (2 * k) := Nat.mul_le_mul_right _ hl
  have p : 0 < 2 ^ (2 * k) := Nat.two_pow_pos _
  omega
end HT

set_option Elab.async false
set_option linter.all false
set_option maxRecDepth 100000
set_option maxHeartbeats 4000000
/-! K90PR: mirrored, the row. -/
namespace HT
open PySem PySem.Spec PyProof.Rows L2 HM
theorem zipM_ap {f g : EV} {ρ : Rho} : zipM f g ρ = (f ρ).bind fun d ρ1 => (g ρ1).bind fun d' ρ2 => Out.of (zipD2 d d') ρ2 := id rfl
/-- x plus f times a, at a pair (x, a) -/
def mixD (f : Fq) : D → D
  | .tup [.tup [.int x1, .int x2], .int a] => fr (addF (x1, x2) (mulF f (a, 1)))
  | _ => .non
def pairXA (r : List (Fq × Int)) : List D := r.map fun z => .tup [fr z.1, .int z.2]
theorem mix_map (f : Fq) (r : List (Fq × Int)) : (pairXA r).map (mixD f) = (r.map fun z => addF z.1 (mulF f (z.2, 1))).map fr := by
  unfold pairXA
  rw [List.map_map, List.map_map]
  rfl
theorem zip_xa (p : Pt) (as : List Int) : (((p.map fr).zip (L as)).map fun z => D.tup [z.1, z.2]) = pairXA (p.zip as) := by
  unfold pairXA L
  rw [List.zip_map, List.map_map]
  rfl
theorem mir_lc {as : List Int} {o f : Fq} {p : Pt} {k : Nat} (hp : ∀ a ∈ p, SF k a) (ha : ∀ a ∈ as, Sz k a) (hf : SF 4000 f) (hk : 1 ≤ k) (hk2 : k ≤ 390) (hl : p.length ≤ 3) :
    lcE (zipM (var 2) (var 0)) (tgT (tgN 4 :: tgN 5 :: [])) yesB (frz (callF f_plus [] (aCons (var 4) (aCons (frz (callF f_times [] (aCons (var 3) (aCons (tupE (aCons (var 5) (aCons (cst (.int 1)) aNil))) aNil)))) aNil)))) [4, 5]
      [.val (.tup (L as)), .val (fr o), .val (pt p), .val (fr f), .non, .non] = .ok (.own (.lst (((p.zip as).map fun z => addF z.1 (mulF f (z.2, 1))).map fr))) [.val (.tup (L as)), .val (fr o), .val (pt p), .val (fr f), .non, .non] := by
  have s2 : small 2 = true := small_of (by omega)
  rw [← mix_map]
  have ez : zipM (var 2) (var 0) [.val (.tup (L as)), .val (fr o), .val (pt p), .val (fr f), .non, .non] = .ok (pairXA (p.zip as)) [.val (.tup (L as)), .val (fr o), .val (pt p), .val (fr f), .non, .non] := by
    have zz : zipD2 (pt p) (.tup (L as)) = some (pairXA (p.zip as)) := by
      rw [← zip_xa]
      rfl
    simp only [zipM_ap, var_ap, List.getElem?_cons_zero, List.getElem?_cons_succ, bind_ok, zz, of_some]
  refine lcE_map (ds := pairXA (p.zip as)) (g := mixD f) ez (by
    unfold pairXA
    rw [List.length_map, List.length_zip]
    omega) rfl rfl fun d hd => ?_
  obtain ⟨z, hz, e⟩ := List.mem_map.mp hd
  subst e
  obtain ⟨x, a⟩ := z
  obtain ⟨m1, m2⟩ := List.of_mem_zip hz
  have w : SF k (a, 1) := ⟨(by decide : (0 : Int) < 1), ha a m2, Nat.one_lt_two_pow (by omega)⟩
  have t := times_ap (hf.mono (k := 4400) (by omega)) (w.mono (k := 4400) (by omega))
  have q := plus_ap ((hp x m1).mono (k := 4400) (by omega)) ((mulF_SF hf w).mono (k := 4400) (by omega))
  refine ⟨[.val (.tup (L as)), .val (fr o), .val (pt p), .val (fr f), .val (fr x), .val (.int a)], [.val (.tup (L as)), .val (fr o), .val (pt p), .val (fr f), .val (fr x), .val (.int a)], rfl, ?_, rfl⟩
  have em : mixD f (.tup [fr x, .int a]) = fr (addF x (mulF f (a, 1))) := rfl
  rw [em]
  simp only [frz_ap, callF_ap, aCons_ap, aNil_ap, var_ap, cst_ap, tupE_ap, List.getElem?_cons_zero, List.getElem?_cons_succ, bind_ok, List.append_nil, List.length_cons, List.length_nil, s2, if_true, of_some, frm, t, data_val, q]
end HT

set_option Elab.async false
set_option linter.all false
set_option maxRecDepth 100000
set_option maxHeartbeats 4000000
/-! K90PS: flat_mirrored, whole. -/
namespace HT
open PySem PySem.Spec PyProof.Rows L2 HM
theorem sqs_lc {as : List Int} {s1 s2 s3 s4 : Sl} (ha : ∀ a ∈ as, Sz 8900 a) (hl : as.length ≤ 3) : lcE (itE (var 0)) (tgN 5) yesB (op2 mulD (var 5) (var 5)) [5] [.val (.tup (L as)), s1, s2, s3, s4, .non] = .ok (.own (.lst (L (as.map fun a => a * a)))) [.val (.tup (L as)), s1, s2, s3, s4, .non] := by
  rw [← sq_map]
  refine lcE_map (ds := L as) (g := sqD) rfl (by rw [L_length]; omega) rfl rfl fun d hd => ?_
  obtain ⟨a, h, e⟩ := List.mem_map.mp hd
  subst e
  exact ⟨_, _, rfl, sq_turn (ρ := [.val (.tup (L as)), s1, s2, s3, s4, .non]) (i := 5) (show 5 < 6 by omega) (ha a h), rfl⟩
theorem mir_ap {as : List Int} {o : Fq} {p : Pt} {k : Nat} (ha : ∀ a ∈ as, Sz k a) (hp : ∀ a ∈ p, SF k a) (ho : SF k o) (hk : 1 ≤ k) (hk2 : k ≤ 390) (hl : as.length ≤ 3) (hl2 : p.length ≤ 3) (hn : sqs as ≠ 0) :
    f_flat_mirrored none [.tup (L as), fr o, pt p] = .ret (.val (pt (mirF as o p))) none := by
  obtain ⟨e1, e2⟩ := height_ap ha hp ho hk (by omega) hl
  have sz := sqs_sz ha hl
  have lo := low_ap (p := 2) hn (sz.mono (by omega))
  have s22 : Sz 2 2 := (by decide : (2 : Int).natAbs < 2 ^ 2)
  have n2 : SF (2 * k + 3) (nrm 2 (sqs as)) := nrm_SF hn (s22.mono (by omega)) sz
  have t := times_ap (e2.mono (k := 4400) (by omega)) (n2.mono (k := 4400) (by omega))
  have hf : SF 4000 (facF as o p) := (mulF_SF e2 n2).mono (by omega)
  have lc := mir_lc (as := as) (o := o) (f := facF as o p) (p := p) (k := k) hp ha hf hk (by omega) hl2
  have sl := fun s1 s2 s3 s4 => sqs_lc (as := as) (s1 := s1) (s2 := s2) (s3 := s3) (s4 := s4) (fun a h => (ha a h).mono (by omega)) hl
  have sm := sum_L (as.map fun a => a * a)
  have esm : (as.map fun a => a * a).sum = sqs as := rfl
  rw [esm] at sm
  have ef : mulF (heightF as o p) (nrm 2 (sqs as)) = facF as o p := rfl
  rw [ef] at t
  simp only [f_flat_mirrored, m_flat_mirrored, defF_ap, lentS, List.map_cons, List.map_nil, List.nil_append, List.length_cons, List.length_nil, if_true, List.cons_append, List.replicate, sq_ap, asg_ap, callF_ap, aCons_ap, aNil_ap, frz_ap, var_ap, cst_ap, List.getElem?_cons_zero, List.getElem?_cons_succ, bind_ok, List.append_nil, e1, data_val, data_own, of_some, op1_ap, sl, sm, lo, t, stm_ok, List.set_cons_succ, List.set_cons_zero, seq_nx, retS_ap, thw_ap, lc, tupleD_l, finF_rt0]
  rfl
end HT

set_option Elab.async false
set_option linter.all false
set_option maxRecDepth 100000
set_option maxHeartbeats 4000000
/-! K90PT: flat.mirrored. -/
namespace HT
open PySem PySem.Spec PyProof.Rows L2 HM
theorem flmir_ap {as : List Int} {o : Fq} {p : Pt} {k : Nat} (ha : ∀ a ∈ as, Sz k a) (hp : ∀ a ∈ p, SF k a) (hc : CanP p) (ho : SF k o) (hk : 1 ≤ k) (hk2 : k ≤ 390) (h1 : 1 ≤ p.length) (hl : p.length ≤ 3) (hd : as.length = p.length) (hn : sqs as ≠ 0) :
    f_Flat_mirrored none [flD as o, pt p] = .ret (.val (pt (mirF as o p))) none := by
  have ck := check_ap (p := p) (s := as.length) (w := 0) hc h1 hl hd
  have mi := mir_ap (as := as) (o := o) (p := p) ha hp ho hk hk2 (by omega) hl hn
  simp only [f_Flat_mirrored, m_Flat_mirrored, defF_ap, lentS, List.map_cons, List.map_nil, List.nil_append, List.length_cons, List.length_nil, if_true, List.cons_append, Nat.reduceSub, List.replicate, sq_ap, dropS_ap, callF_ap, aCons_ap, aNil_ap, var_ap, opV1_ap, peek_ap, List.getElem?_cons_zero, List.getElem?_cons_succ, Option.bind_some, data_val, bind_ok, fld_size, fld_dir, fld_off, of_some, List.cons_append, List.nil_append, ck, stm_ok, seq_nx, retS_ap, List.append_nil, mi, finF_rt0]
end HT

set_option Elab.async false
set_option linter.all false
set_option maxRecDepth 100000
set_option maxHeartbeats 4000000
/-! K90PU: good lines told. -/
namespace HT
open PySem PySem.Spec PyProof.Rows L2 HM
/-- twice the offset, if it is whole -/
def twD (o : Fq) : Option Int := if o.2 = 1 then some (2 * o.1) else if o.2 = 2 then some o.1 else none
def optD : Option Int → D
  | none => .non
  | some i => .int i
theorem mod2 {d : Int} (h : 0 < d) : ((2 : Int).fmod d = 0) ↔ (d = 1 ∨ d = 2) := by
  rw [Int.fmod_eq_emod_of_nonneg _ (by omega)]
  constructor
  · intro z
    have hd : d ∣ 2 := Int.dvd_of_emod_eq_zero z
    have := Int.le_of_dvd (by decide) hd
    omega
  · rintro (z | z) <;> subst z <;> rfl
theorem twice_ap {as : List Int} {o : Fq} (ho : SF 8900 o) : f__good_twice none [flD as o] = .ret (.val (optD (twD o))) none := by
  have hp := ho.1
  have m := modD_i (x := 2) (show o.2 ≠ 0 by omega)
  have q := mod2 hp
  unfold twD
  by_cases h : o.2 = 1 ∨ o.2 = 2
  · have d1 : decide ((2 : Int).fmod o.2 = 0) = true := decide_eq_true (q.mpr h)
    have fd := fdivD_z (x := 2) (show o.2 ≠ 0 by omega) ho.2.2
    have e2 : (2 : Int).fdiv o.2 = 2 ∨ (2 : Int).fdiv o.2 = 1 := by
      rcases h with z | z <;> rw [z]
      · exact .inl rfl
      · exact .inr rfl
    have ml := mulD_z (x := o.1) (y := (2 : Int).fdiv o.2) ho.2.1 (by
      have s2 : Sz 8900 2 := (show Sz 2 2 from (by decide : (2 : Int).natAbs < 2 ^ 2)).mono (by omega)
      have s1 : Sz 8900 1 := (show Sz 2 1 from (by decide : (1 : Int).natAbs < 2 ^ 2)).mono (by omega)
      rcases e2 with z | z <;> rw [z]
      · exact s2
      · exact s1)
    have er : optD (if o.2 = 1 then some (2 * o.1) else if o.2 = 2 then some o.1 else none) = .int (o.1 * (2 : Int).fdiv o.2) := by
      rcases h with z | z
      · rw [if_pos z, z]
        show D.int (2 * o.1) = D.int (o.1 * 2)
        rw [Int.mul_comm]
      · rw [if_neg (by omega), if_pos z, z]
        show D.int o.1 = D.int (o.1 * 1)
        rw [Int.mul_one]
    rw [er]
    simp only [f__good_twice, m__good_twice, defF_ap, lentS, List.map_cons, List.map_nil, List.nil_append, List.length_cons, List.length_nil, if_true, List.cons_append, Nat.reduceSub, List.replicate, sq_ap, ifS_ap, asB_ap, op2_ap, cst_ap, opV1_ap, peek_ap, List.getElem?_cons_zero, Option.bind_some, data_val, fld_off, of_some, bind_ok, it0, it1, m, neD_i, d1, Bool.not_true, Bool.false_eq_true, if_false, stm_ok, skp_ap, seq_nx, retS_ap, thw_ap, fd, ml, finF_rt0]
  · have d1 : decide ((2 : Int).fmod o.2 = 0) = false := decide_eq_false fun z => h (q.mp z)
    rw [if_neg fun z => h (.inl z), if_neg fun z => h (.inr z)]
    simp only [f__good_twice, m__good_twice, defF_ap, lentS, List.map_cons, List.map_nil, List.nil_append, List.length_cons, List.length_nil, if_true, List.cons_append, Nat.reduceSub, List.replicate, sq_ap, ifS_ap, asB_ap, op2_ap, cst_ap, opV1_ap, peek_ap, List.getElem?_cons_zero, Option.bind_some, data_val, fld_off, of_some, bind_ok, it1, m, neD_i, d1, Bool.not_false, stm_ok, retS_ap, thw_ap, seq_rt, finF_rt0, optD]
end HT

set_option Elab.async false
set_option linter.all false
set_option maxRecDepth 100000
set_option maxHeartbeats 4000000
/-! K90PV: is_good. -/
namespace HT
open PySem PySem.Spec PyProof.Rows L2 HM
theorem sm1 : small 1 = true := small_of (by omega)
theorem sm2 : small 2 = true := small_of (by omega)
theorem sm3 : small 3 = true := small_of (by omega)
theorem sm4 : small 4 = true := small_of (by omega)
theorem sm5 : small 5 = true := small_of (by omega)
theorem md2 {x : Int} : modD (.int x) (.int 2) = some (.int (x.fmod 2)) := modD_i (by decide)
theorem fd2 {x : Int} : fdivD (.int x) (.int 2) = some (.int (x.fdiv 2)) := fdivD_z (by decide) ((show Sz 2 2 from (by decide : (2 : Int).natAbs < 2 ^ 2)).mono (by omega))
def goodB (as : List Int) (o : Fq) : Bool := match twD o with
  | none => false
  | some t => decide (t.fmod 2 = 0) || decide ((sqs as).fmod 2 = 1)
theorem plane_ap : f__check_plane none [.int 2] = .ret (.val .non) none := by
  have d : decide ((2 : Int) = 2) = true := rfl
  simp only [defF_ap, lentS, List.map_cons, List.map_nil, List.nil_append, List.append_nil, List.length_cons, List.length_nil, if_true, if_false, Bool.false_eq_true, List.cons_append, Nat.reduceSub, Nat.reduceAdd, Nat.reduceEqDiff, List.replicate, sq_ap, asg_ap, dropS_ap, retS_ap, retN_ap, ifS_ap, ifE_ap, asB_ap, andB_ap, orB_ap, notB_ap, thw_ap, frz_ap, cst_ap, var_ap, move_ap, op1_ap, op2_ap, opN_ap, opV1_ap, opV2_ap, callF_ap, aCons_ap, aNil_ap, tupE_ap, lstE_ap, peek_ap, Option.bind_some, data_val, data_own, data_inp, of_some, bind_ok, stm_ok, seq_nx, seq_rt, skp_ap, fgt_ap, List.foldl_cons, List.foldl_nil, List.set_cons_succ, List.set_cons_zero, List.getElem?_cons_zero, List.getElem?_cons_succ, Bool.not_true, Bool.not_false, finF_rt0, finF_nx0, finF_exc0, finF_rt1, finF_nx1, eqD_i, neD_i, ltD_i, leD_i, gtD_i, geD_i, addD_i, subD_i, negD_i, intD_i, notD_b, lenD_l, lenD_t, tupleD_l, items_l, items_t, isInst_ap, itE_ap, rng1_ap, rng2_ap, tgN_ap, tgT_ap, tgs_nil, tgs_cons, sm1, sm2, sm3, sm4, sm5, bind_exc, stm_exc, seq_exc, decide_true, decide_false, Bool.true_or, Bool.false_or, nn_i, nn_t, nn_n, nn_s, ni_i, ni_t, ni_n, ni_s, makeE_ap, methE_ap, propE_ap, clRes_ret, clRes_exc, prRes_ret, Int.cast_ofNat_Int, Int.natCast_zero, Int.natCast_one, Int.reduceEq, Int.reduceLT, Int.reduceLE, eqD_b, neD_b, truV_ap, truD_b, f__check_plane, m__check_plane, d]
theorem plane_other {s : Int} (h : s ≠ 2) : f__check_plane none [.int s] = .exc (.own "OtherSpace") ["got", "wanted"] [.int s, .int 2] none := by
  have d : decide (s = 2) = false := decide_eq_false h
  simp only [defF_ap, lentS, List.map_cons, List.map_nil, List.nil_append, List.append_nil, List.length_cons, List.length_nil, if_true, if_false, Bool.false_eq_true, List.cons_append, Nat.reduceSub, Nat.reduceAdd, Nat.reduceEqDiff, List.replicate, sq_ap, asg_ap, dropS_ap, retS_ap, retN_ap, ifS_ap, ifE_ap, asB_ap, andB_ap, orB_ap, notB_ap, thw_ap, frz_ap, cst_ap, var_ap, move_ap, op1_ap, op2_ap, opN_ap, opV1_ap, opV2_ap, callF_ap, aCons_ap, aNil_ap, tupE_ap, lstE_ap, peek_ap, Option.bind_some, data_val, data_own, data_inp, of_some, bind_ok, stm_ok, seq_nx, seq_rt, skp_ap, fgt_ap, List.foldl_cons, List.foldl_nil, List.set_cons_succ, List.set_cons_zero, List.getElem?_cons_zero, List.getElem?_cons_succ, Bool.not_true, Bool.not_false, finF_rt0, finF_nx0, finF_exc0, finF_rt1, finF_nx1, eqD_i, neD_i, ltD_i, leD_i, gtD_i, geD_i, addD_i, subD_i, negD_i, intD_i, notD_b, lenD_l, lenD_t, tupleD_l, items_l, items_t, isInst_ap, itE_ap, rng1_ap, rng2_ap, tgN_ap, tgT_ap, tgs_nil, tgs_cons, sm1, sm2, sm3, sm4, sm5, bind_exc, stm_exc, seq_exc, decide_true, decide_false, Bool.true_or, Bool.false_or, nn_i, nn_t, nn_n, nn_s, ni_i, ni_t, ni_n, ni_s, makeE_ap, methE_ap, propE_ap, clRes_ret, clRes_exc, prRes_ret, Int.cast_ofNat_Int, Int.natCast_zero, Int.natCast_one, Int.reduceEq, Int.reduceLT, Int.reduceLE, eqD_b, neD_b, truV_ap, truD_b, f__check_plane, m__check_plane, d, raiseS_ap]
  rfl
theorem mkRes_fl {as : List Int} {o : Fq} {ρ : Rho} : mkRes (.ret (.val .non) (some (flD as o))) ρ = .ok (.own (flD as o)) ρ := id rfl
theorem okC_fl {as : List Int} {o : Fq} : okC "Flat" (flD as o) = true := rfl
theorem good_ap {as : List Int} {o : Fq} (ha : ∀ a ∈ as, Sz 4400 a) (hl : as.length = 2) (ho : SF 4400 o) : f_is_good none [flD as o] = .ret (.val (.bl (goodB as o))) none := by
  have p := plane_ap
  have tw := twice_ap (as := as) (o := o) (ho.mono (by omega))
  have l2 := length2_ap (as := as) (o := o) (fun a h => (ha a h).mono (by omega)) (by omega)
  have fs : fldD ["Flat"] "size" (flD as o) = some (.int 2) := by
    rw [fld_size, hl]
    rfl
  unfold goodB
  cases e : twD o with
  | none =>
    rw [e] at tw
    have q : optD none = .non := rfl
    simp only [defF_ap, lentS, List.map_cons, List.map_nil, List.nil_append, List.append_nil, List.length_cons, List.length_nil, if_true, if_false, Bool.false_eq_true, List.cons_append, Nat.reduceSub, Nat.reduceAdd, Nat.reduceEqDiff, List.replicate, sq_ap, asg_ap, dropS_ap, retS_ap, retN_ap, ifS_ap, ifE_ap, asB_ap, andB_ap, orB_ap, notB_ap, thw_ap, frz_ap, cst_ap, var_ap, move_ap, op1_ap, op2_ap, opN_ap, opV1_ap, opV2_ap, callF_ap, aCons_ap, aNil_ap, tupE_ap, lstE_ap, peek_ap, Option.bind_some, data_val, data_own, data_inp, of_some, bind_ok, stm_ok, seq_nx, seq_rt, skp_ap, fgt_ap, List.foldl_cons, List.foldl_nil, List.set_cons_succ, List.set_cons_zero, List.getElem?_cons_zero, List.getElem?_cons_succ, Bool.not_true, Bool.not_false, finF_rt0, finF_nx0, finF_exc0, finF_rt1, finF_nx1, eqD_i, neD_i, ltD_i, leD_i, gtD_i, geD_i, addD_i, subD_i, negD_i, intD_i, notD_b, lenD_l, lenD_t, tupleD_l, items_l, items_t, isInst_ap, itE_ap, rng1_ap, rng2_ap, tgN_ap, tgT_ap, tgs_nil, tgs_cons, sm1, sm2, sm3, sm4, sm5, bind_exc, stm_exc, seq_exc, decide_true, decide_false, Bool.true_or, Bool.false_or, nn_i, nn_t, nn_n, nn_s, ni_i, ni_t, ni_n, ni_s, makeE_ap, methE_ap, propE_ap, clRes_ret, clRes_exc, prRes_ret, Int.cast_ofNat_Int, Int.natCast_zero, Int.natCast_one, Int.reduceEq, Int.reduceLT, Int.reduceLE, eqD_b, neD_b, truV_ap, truD_b, f_is_good, m_is_good, fs, p, tw, q, andV_ap]
  | some t =>
    rw [e] at tw
    have q := okC_fl (as := as) (o := o)
    have q2 : optD (some t) = .int t := rfl
    by_cases h1 : t.fmod 2 = 0
    · have d1 : decide (t.fmod 2 = 0) = true := decide_eq_true h1
      simp only [defF_ap, lentS, List.map_cons, List.map_nil, List.nil_append, List.append_nil, List.length_cons, List.length_nil, if_true, if_false, Bool.false_eq_true, List.cons_append, Nat.reduceSub, Nat.reduceAdd, Nat.reduceEqDiff, List.replicate, sq_ap, asg_ap, dropS_ap, retS_ap, retN_ap, ifS_ap, ifE_ap, asB_ap, andB_ap, orB_ap, notB_ap, thw_ap, frz_ap, cst_ap, var_ap, move_ap, op1_ap, op2_ap, opN_ap, opV1_ap, opV2_ap, callF_ap, aCons_ap, aNil_ap, tupE_ap, lstE_ap, peek_ap, Option.bind_some, data_val, data_own, data_inp, of_some, bind_ok, stm_ok, seq_nx, seq_rt, skp_ap, fgt_ap, List.foldl_cons, List.foldl_nil, List.set_cons_succ, List.set_cons_zero, List.getElem?_cons_zero, List.getElem?_cons_succ, Bool.not_true, Bool.not_false, finF_rt0, finF_nx0, finF_exc0, finF_rt1, finF_nx1, eqD_i, neD_i, ltD_i, leD_i, gtD_i, geD_i, addD_i, subD_i, negD_i, intD_i, notD_b, lenD_l, lenD_t, tupleD_l, items_l, items_t, isInst_ap, itE_ap, rng1_ap, rng2_ap, tgN_ap, tgT_ap, tgs_nil, tgs_cons, sm1, sm2, sm3, sm4, sm5, bind_exc, stm_exc, seq_exc, decide_true, decide_false, Bool.true_or, Bool.false_or, nn_i, nn_t, nn_n, nn_s, ni_i, ni_t, ni_n, ni_s, makeE_ap, methE_ap, propE_ap, clRes_ret, clRes_exc, prRes_ret, Int.cast_ofNat_Int, Int.natCast_zero, Int.natCast_one, Int.reduceEq, Int.reduceLT, Int.reduceLE, eqD_b, neD_b, truV_ap, truD_b, f_is_good, m_is_good, fs, p, tw, q, q2, andV_ap, orV_ap, md2, d1, Bool.true_or]
    · have d1 : decide (t.fmod 2 = 0) = false := decide_eq_false h1
      simp only [defF_ap, lentS, List.map_cons, List.map_nil, List.nil_append, List.append_nil, List.length_cons, List.length_nil, if_true, if_false, Bool.false_eq_true, List.cons_append, Nat.reduceSub, Nat.reduceAdd, Nat.reduceEqDiff, List.replicate, sq_ap, asg_ap, dropS_ap, retS_ap, retN_ap, ifS_ap, ifE_ap, asB_ap, andB_ap, orB_ap, notB_ap, thw_ap, frz_ap, cst_ap, var_ap, move_ap, op1_ap, op2_ap, opN_ap, opV1_ap, opV2_ap, callF_ap, aCons_ap, aNil_ap, tupE_ap, lstE_ap, peek_ap, Option.bind_some, data_val, data_own, data_inp, of_some, bind_ok, stm_ok, seq_nx, seq_rt, skp_ap, fgt_ap, List.foldl_cons, List.foldl_nil, List.set_cons_succ, List.set_cons_zero, List.getElem?_cons_zero, List.getElem?_cons_succ, Bool.not_true, Bool.not_false, finF_rt0, finF_nx0, finF_exc0, finF_rt1, finF_nx1, eqD_i, neD_i, ltD_i, leD_i, gtD_i, geD_i, addD_i, subD_i, negD_i, intD_i, notD_b, lenD_l, lenD_t, tupleD_l, items_l, items_t, isInst_ap, itE_ap, rng1_ap, rng2_ap, tgN_ap, tgT_ap, tgs_nil, tgs_cons, sm1, sm2, sm3, sm4, sm5, bind_exc, stm_exc, seq_exc, decide_true, decide_false, Bool.true_or, Bool.false_or, nn_i, nn_t, nn_n, nn_s, ni_i, ni_t, ni_n, ni_s, makeE_ap, methE_ap, propE_ap, clRes_ret, clRes_exc, prRes_ret, Int.cast_ofNat_Int, Int.natCast_zero, Int.natCast_one, Int.reduceEq, Int.reduceLT, Int.reduceLE, eqD_b, neD_b, truV_ap, truD_b, f_is_good, m_is_good, fs, p, tw, q, q2, andV_ap, orV_ap, md2, d1, Bool.false_or, l2]
theorem good_other {as : List Int} {o : Fq} (hl : as.length ≠ 2) : f_is_good none [flD as o] = .exc (.own "OtherSpace") ["got", "wanted"] [.int as.length, .int 2] none := by
  have p := plane_other (s := as.length) (by omega)
  simp only [defF_ap, lentS, List.map_cons, List.map_nil, List.nil_append, List.append_nil, List.length_cons, List.length_nil, if_true, if_false, Bool.false_eq_true, List.cons_append, Nat.reduceSub, Nat.reduceAdd, Nat.reduceEqDiff, List.replicate, sq_ap, asg_ap, dropS_ap, retS_ap, retN_ap, ifS_ap, ifE_ap, asB_ap, andB_ap, orB_ap, notB_ap, thw_ap, frz_ap, cst_ap, var_ap, move_ap, op1_ap, op2_ap, opN_ap, opV1_ap, opV2_ap, callF_ap, aCons_ap, aNil_ap, tupE_ap, lstE_ap, peek_ap, Option.bind_some, data_val, data_own, data_inp, of_some, bind_ok, stm_ok, seq_nx, seq_rt, skp_ap, fgt_ap, List.foldl_cons, List.foldl_nil, List.set_cons_succ, List.set_cons_zero, List.getElem?_cons_zero, List.getElem?_cons_succ, Bool.not_true, Bool.not_false, finF_rt0, finF_nx0, finF_exc0, finF_rt1, finF_nx1, eqD_i, neD_i, ltD_i, leD_i, gtD_i, geD_i, addD_i, subD_i, negD_i, intD_i, notD_b, lenD_l, lenD_t, tupleD_l, items_l, items_t, isInst_ap, itE_ap, rng1_ap, rng2_ap, tgN_ap, tgT_ap, tgs_nil, tgs_cons, sm1, sm2, sm3, sm4, sm5, bind_exc, stm_exc, seq_exc, decide_true, decide_false, Bool.true_or, Bool.false_or, nn_i, nn_t, nn_n, nn_s, ni_i, ni_t, ni_n, ni_s, makeE_ap, methE_ap, propE_ap, clRes_ret, clRes_exc, prRes_ret, Int.cast_ofNat_Int, Int.natCast_zero, Int.natCast_one, Int.reduceEq, Int.reduceLT, Int.reduceLE, eqD_b, neD_b, truV_ap, truD_b, f_is_good, m_is_good, fld_size, p]
end HT

set_option Elab.async false
set_option linter.all false
set_option maxRecDepth 100000
set_option maxHeartbeats 4000000
/-! K90PW: a whole point of a line. -/
namespace HT
open PySem PySem.Spec PyProof.Rows L2 HM
def t3 (x y z : Int) : D := .tup [.int x, .int y, .int z]
section
variable {a b w x y z p1 p2 r1 r2 : Int}
theorem t30 : itemD (t3 x y z) (.int 0) = some (.int x) := rfl
theorem t31 : itemD (t3 x y z) (.int 1) = some (.int y) := rfl
theorem t32 : itemD (t3 x y z) (.int 2) = some (.int z) := rfl
theorem frm3 : D.tup [.int x, .int y, .int z] = t3 x y z := id rfl
theorem asg2_ap {i j : Nat} {fa : EA} {ρ : Rho} : asg2 i j fa ρ = (fa ρ).stm fun ds ρ1 => match ds with
  | [d, e] => .nx ((ρ1.set i (.val d)).set j (.val e))
  | _ => .stuck := id rfl
abbrev whR (a b w : Int) (s t : D) : Rho := [.val (.int a), .val (.int b), .val (.int w), .val s, .val t, .non, .non]
theorem wh_step (hy : y ≠ 0) (sy : Sz 8900 y) (s1 : Sz 8900 r1) (s2 : Sz 8900 r2) (sq : Sz 8900 (x.fdiv y)) :
    p1__whole_at (whR a b w (t3 x p1 p2) (t3 y r1 r2)) = .nx (whR a b w (t3 y r1 r2) (t3 (x - x.fdiv y * y) (p1 - x.fdiv y * r1) (p2 - x.fdiv y * r2))) := by
  have f := fdivD_z (x := x) hy sy
  have m0 := mulD_z sq sy
  have m1 := mulD_z sq s1
  have m2 := mulD_z sq s2
  simp only [defF_ap, lentS, List.map_cons, List.map_nil, List.nil_append, List.append_nil, List.length_cons, List.length_nil, if_true, if_false, Bool.false_eq_true, List.cons_append, Nat.reduceSub, Nat.reduceAdd, Nat.reduceEqDiff, List.replicate, sq_ap, asg_ap, dropS_ap, retS_ap, retN_ap, ifS_ap, ifE_ap, asB_ap, andB_ap, orB_ap, notB_ap, thw_ap, frz_ap, cst_ap, var_ap, move_ap, op1_ap, op2_ap, opN_ap, opV1_ap, opV2_ap, callF_ap, aCons_ap, aNil_ap, tupE_ap, lstE_ap, peek_ap, Option.bind_some, data_val, data_own, data_inp, of_some, bind_ok, stm_ok, seq_nx, seq_rt, skp_ap, fgt_ap, List.foldl_cons, List.foldl_nil, List.set_cons_succ, List.set_cons_zero, List.getElem?_cons_zero, List.getElem?_cons_succ, Bool.not_true, Bool.not_false, finF_rt0, finF_nx0, finF_exc0, finF_rt1, finF_nx1, eqD_i, neD_i, ltD_i, leD_i, gtD_i, geD_i, addD_i, subD_i, negD_i, intD_i, notD_b, lenD_l, lenD_t, tupleD_l, items_l, items_t, isInst_ap, itE_ap, rng1_ap, rng2_ap, tgN_ap, tgT_ap, tgs_nil, tgs_cons, sm1, sm2, sm3, sm4, sm5, bind_exc, stm_exc, seq_exc, decide_true, decide_false, Bool.true_or, Bool.false_or, nn_i, nn_t, nn_n, nn_s, ni_i, ni_t, ni_n, ni_s, makeE_ap, methE_ap, propE_ap, clRes_ret, clRes_exc, prRes_ret, Int.cast_ofNat_Int, Int.natCast_zero, Int.natCast_one, Int.reduceEq, Int.reduceLT, Int.reduceLE, eqD_b, neD_b, truV_ap, truD_b, p1__whole_at, whR, t30, t31, t32, f, m0, m1, m2, asg2_ap, frm3]
theorem fmod_def' : x - x.fdiv y * y = x.fmod y := by
  have := Int.fmod_add_mul_fdiv x y
  rw [Int.mul_comm y] at this
  omega
theorem fmod_lt (hy : y ≠ 0) : (0 < y ∧ 0 ≤ x.fmod y ∧ x.fmod y < y) ∨ (y < 0 ∧ x.fmod y ≤ 0 ∧ y < x.fmod y) := by
  rcases Int.lt_or_le 0 y with h | h
  · exact .inl ⟨h, Int.fmod_nonneg_of_pos _ h, Int.fmod_lt_of_pos _ h⟩
  · have h1 := Int.fmod_nonneg_of_pos (-x) (show 0 < -y by omega)
    have h2 := Int.fmod_lt_of_pos (-x) (show 0 < -y by omega)
    rw [Int.neg_fmod_neg] at h1 h2
    exact .inr ⟨by omega, by omega, by omega⟩
theorem fmod_abs (hy : y ≠ 0) : (x.fmod y).natAbs < y.natAbs := by
  have := fmod_lt (x := x) hy
  omega
theorem fdiv_sz' (hy : y ≠ 0) (sx : Sz 60 x) (sy : Sz 60 y) : Sz 61 (x.fdiv y) := by
  have h1 : x - x.fdiv y * y = x.fmod y := fmod_def'
  have h2 := fmod_abs (x := x) hy
  have h3 : (x.fdiv y).natAbs ≤ (x.fdiv y * y).natAbs := by
    rw [Int.natAbs_mul]
    exact Nat.le_mul_of_pos_right _ (by omega)
  unfold Sz at *
  have : (2 : Nat) ^ 61 = 2 * 2 ^ 60 := by decide
  omega
theorem dvd_gc {d : Int} (h1 : d ∣ x) (h2 : d ∣ y) : d ∣ gc x y := by
  unfold gc
  exact Int.natAbs_dvd_natAbs.mp (by
    rw [Int.natAbs_natCast]
    exact Nat.dvd_gcd (Int.natAbs_dvd_natAbs.mpr h1) (Int.natAbs_dvd_natAbs.mpr h2))
theorem gc_nonneg : 0 ≤ gc x y := by
  unfold gc
  omega
theorem gc_one_of (h : ∀ d, d ∣ x → d ∣ y → d ∣ 1) : gc x y = 1 := by
  have h1 := h _ (gc_dvd_left x y) (gc_dvd_right x y)
  have h0 := gc_nonneg (x := x) (y := y)
  exact Int.dvd_antisymm h0 (by decide) h1 (Int.one_dvd _)
theorem gc_step (h : gc x y = 1) : gc y (x.fmod y) = 1 := gc_one_of fun d d1 d2 => by
  rw [← h]
  refine dvd_gc ?_ d1
  have e : x = x.fmod y + x.fdiv y * y := by
    have : x - x.fdiv y * y = x.fmod y := fmod_def'
    omega
  rw [e]
  exact Int.dvd_add d2 (Int.dvd_trans d1 (Int.dvd_mul_left _ _))
theorem halved (hy : y ≠ 0) (hr : x.fmod y ≠ 0) : 2 * (y.fmod (x.fmod y)).natAbs < y.natAbs := by
  have h1 := fmod_lt (x := x) hy
  have h2 := fmod_lt (x := y) hr
  have h3 : y - y.fdiv (x.fmod y) * x.fmod y = y.fmod (x.fmod y) := fmod_def'
  generalize x.fmod y = r at *
  generalize y.fdiv r = q at *
  generalize y.fmod r = s at *
  rcases Int.lt_or_le 0 q with z | z
  · rcases h1 with ⟨_, k1, k2⟩ | ⟨_, k1, k2⟩
    · have := Int.mul_nonneg (show 0 ≤ q - 1 by omega) (show 0 ≤ r by omega)
      rw [Int.sub_mul] at this
      omega
    · have := Int.mul_nonneg (show 0 ≤ q - 1 by omega) (show 0 ≤ -r by omega)
      rw [Int.sub_mul, Int.mul_neg] at this
      omega
  · rcases h1 with ⟨_, k1, k2⟩ | ⟨_, k1, k2⟩
    · have := Int.mul_nonneg (show 0 ≤ -q by omega) (show 0 ≤ r by omega)
      rw [Int.neg_mul] at this
      omega
    · have := Int.mul_nonneg (show 0 ≤ -q by omega) (show 0 ≤ -r by omega)
      rw [Int.neg_mul, Int.mul_neg] at this
      omega
/-- what stands in the loop, behind its first turn -/
structure WhI (a b x p1 p2 y r1 r2 : Int) : Prop where
  ex : x = p1 * a + p2 * b
  ey : y = r1 * a + r2 * b
  sx : Sz 60 x
  sy : Sz 60 y
  g : gc x y = 1
  ph : (0 < x ∧ 0 ≤ y ∧ y < x) ∨ (x < 0 ∧ y ≤ 0 ∧ x < y)
  m1 : p1.natAbs * y.natAbs + r1.natAbs * x.natAbs ≤ 2 ^ 60
  m2 : p1.natAbs ≤ 2 ^ 60
theorem co_sz (hb : b ≠ 0) (ha : Sz 60 a) (e : y = r1 * a + r2 * b) (sy : Sz 60 y) (h : r1.natAbs ≤ 2 ^ 60) : Sz 121 r2 := by
  have h1 : r2.natAbs ≤ (r2 * b).natAbs := by
    rw [Int.natAbs_mul]
    exact Nat.le_mul_of_pos_right _ (by omega)
  have h2 : (r1 * a).natAbs ≤ 2 ^ 60 * 2 ^ 60 := by
    rw [Int.natAbs_mul]
    exact Nat.mul_le_mul h (by unfold Sz at ha; omega)
  unfold Sz at *
  have p1 : (2 : Nat) ^ 60 * 2 ^ 60 = 1329227995784915872903807060280344576 := by decide
  have p2 : (2 : Nat) ^ 121 = 2658455991569831745807614120560689152 := by decide
  have p3 : (2 : Nat) ^ 60 = 1152921504606846976 := by decide
  rw [p1] at h2
  rw [p3] at sy
  rw [p2]
  generalize r1 * a = u at *
  generalize r2 * b = v at *
  omega
theorem r1_le (I : WhI a b x p1 p2 y r1 r2) : r1.natAbs ≤ 2 ^ 60 := by
  have h := I.m1
  have hx : 0 < x.natAbs := by
    have := I.ph
    omega
  have := Nat.le_mul_of_pos_right r1.natAbs hx
  omega
theorem split_abs (ph : (0 < x ∧ 0 ≤ y ∧ y < x) ∨ (x < 0 ∧ y ≤ 0 ∧ x < y)) (hy : y ≠ 0) : x.natAbs = (x.fdiv y).natAbs * y.natAbs + (x.fmod y).natAbs := by
  have h1 := fmod_lt (x := x) hy
  have h3 : x - x.fdiv y * y = x.fmod y := fmod_def'
  rw [← Int.natAbs_mul]
  generalize x.fmod y = r at *
  generalize x.fdiv y = q at *
  have hq : 0 ≤ q := by
    rcases Int.lt_or_le q 0 with z | z
    · rcases ph with p | p
      · have := Int.mul_nonneg (show 0 ≤ -q - 1 by omega) (show 0 ≤ y by omega)
        rw [Int.sub_mul, Int.neg_mul] at this
        omega
      · have := Int.mul_nonneg (show 0 ≤ -q - 1 by omega) (show 0 ≤ -y by omega)
        rw [Int.sub_mul, Int.neg_mul_neg] at this
        omega
    · exact z
  rcases ph with p | p
  · have := Int.mul_nonneg hq (show 0 ≤ y by omega)
    omega
  · have := Int.mul_nonneg hq (show 0 ≤ -y by omega)
    rw [Int.mul_neg] at this
    omega
theorem wh_go {n : Nat} (hy : y ≠ 0) (sx : Sz 60 x) (sy : Sz 60 y) (s1 : Sz 300 r1) (s2 : Sz 300 r2) :
    whileS p0__whole_at p1__whole_at (n + 1) (whR a b w (t3 x p1 p2) (t3 y r1 r2)) = whileS p0__whole_at p1__whole_at n (whR a b w (t3 y r1 r2) (t3 (x.fmod y) (p1 - x.fdiv y * r1) (p2 - x.fdiv y * r2))) := by
  have sq := fdiv_sz' hy sx sy
  have st := wh_step (a := a) (b := b) (w := w) (p1 := p1) (p2 := p2) hy (sy.mono (by omega)) (s1.mono (by omega)) (s2.mono (by omega)) (sq.mono (by omega))
  have d : decide (y = 0) = false := decide_eq_false hy
  have fd : x - x.fdiv y * y = x.fmod y := fmod_def'
  rw [fd] at st
  have g0 : p0__whole_at (whR a b w (t3 x p1 p2) (t3 y r1 r2)) = .ok true (whR a b w (t3 x p1 p2) (t3 y r1 r2)) := by
    simp only [defF_ap, lentS, List.map_cons, List.map_nil, List.nil_append, List.append_nil, List.length_cons, List.length_nil, if_true, if_false, Bool.false_eq_true, List.cons_append, Nat.reduceSub, Nat.reduceAdd, Nat.reduceEqDiff, List.replicate, sq_ap, asg_ap, dropS_ap, retS_ap, retN_ap, ifS_ap, ifE_ap, asB_ap, andB_ap, orB_ap, notB_ap, thw_ap, frz_ap, cst_ap, var_ap, move_ap, op1_ap, op2_ap, opN_ap, opV1_ap, opV2_ap, callF_ap, aCons_ap, aNil_ap, tupE_ap, lstE_ap, peek_ap, Option.bind_some, data_val, data_own, data_inp, of_some, bind_ok, stm_ok, seq_nx, seq_rt, skp_ap, fgt_ap, List.foldl_cons, List.foldl_nil, List.set_cons_succ, List.set_cons_zero, List.getElem?_cons_zero, List.getElem?_cons_succ, Bool.not_true, Bool.not_false, finF_rt0, finF_nx0, finF_exc0, finF_rt1, finF_nx1, eqD_i, neD_i, ltD_i, leD_i, gtD_i, geD_i, addD_i, subD_i, negD_i, intD_i, notD_b, lenD_l, lenD_t, tupleD_l, items_l, items_t, isInst_ap, itE_ap, rng1_ap, rng2_ap, tgN_ap, tgT_ap, tgs_nil, tgs_cons, sm1, sm2, sm3, sm4, sm5, bind_exc, stm_exc, seq_exc, decide_true, decide_false, Bool.true_or, Bool.false_or, nn_i, nn_t, nn_n, nn_s, ni_i, ni_t, ni_n, ni_s, makeE_ap, methE_ap, propE_ap, clRes_ret, clRes_exc, prRes_ret, Int.cast_ofNat_Int, Int.natCast_zero, Int.natCast_one, Int.reduceEq, Int.reduceLT, Int.reduceLE, eqD_b, neD_b, truV_ap, truD_b, p0__whole_at, whR, t30, d]
  rw [whileS_succ, g0, stm_ok, if_pos rfl, st]
theorem co_step (ex : x = p1 * a + p2 * b) (ey : y = r1 * a + r2 * b) : x.fmod y = (p1 - x.fdiv y * r1) * a + (p2 - x.fdiv y * r2) * b := by
  have fd : x - x.fdiv y * y = x.fmod y := fmod_def'
  rw [← fd]
  generalize x.fdiv y = q at *
  subst ex ey
  grind
theorem wh_turn {n : Nat} (hb : b ≠ 0) (sa : Sz 60 a) (I : WhI a b x p1 p2 y r1 r2) (hy : y ≠ 0) :
    whileS p0__whole_at p1__whole_at (n + 1) (whR a b w (t3 x p1 p2) (t3 y r1 r2)) = whileS p0__whole_at p1__whole_at n (whR a b w (t3 y r1 r2) (t3 (x.fmod y) (p1 - x.fdiv y * r1) (p2 - x.fdiv y * r2)))
    ∧ WhI a b y r1 r2 (x.fmod y) (p1 - x.fdiv y * r1) (p2 - x.fdiv y * r2) := by
  have hr := r1_le I
  have s1 : Sz 61 r1 := by
    unfold Sz
    have : (2 : Nat) ^ 60 < 2 ^ 61 := by decide
    omega
  have s2 := co_sz hb sa I.ey I.sy hr
  refine ⟨wh_go hy I.sx I.sy (s1.mono (by omega)) (s2.mono (by omega)), I.ey, co_step I.ex I.ey, I.sy, ?_, gc_step I.g, ?_, ?_, hr⟩
  · have := fmod_abs (x := x) hy
    have := I.sy
    unfold Sz at *
    omega
  · exact fmod_lt hy
  · have h1 := split_abs I.ph hy
    have h2 : (p1 - x.fdiv y * r1).natAbs ≤ p1.natAbs + (x.fdiv y).natAbs * r1.natAbs := by
      rw [← Int.natAbs_mul]
      omega
    have h3 := I.m1
    rw [h1] at h3
    generalize (x.fmod y).natAbs = r at *
    generalize (x.fdiv y).natAbs = q at *
    generalize (p1 - x.fdiv y * r1).natAbs = s at *
    have h4 := Nat.mul_le_mul_right y.natAbs h2
    have e : r1.natAbs * r + (p1.natAbs + q * r1.natAbs) * y.natAbs = p1.natAbs * y.natAbs + r1.natAbs * (q * y.natAbs + r) := by grind
    omega
theorem wh_done {n : Nat} (hy : y = 0) (g : gc x y = 1) :
    whileS p0__whole_at p1__whole_at (n + 1) (whR a b w (t3 x p1 p2) (t3 y r1 r2)) = .nx (whR a b w (t3 x p1 p2) (t3 y r1 r2)) ∧ x.natAbs = 1 := by
  subst hy
  refine ⟨?_, ?_⟩
  · have d : decide ((0 : Int) = 0) = true := rfl
    have g0 : p0__whole_at (whR a b w (t3 x p1 p2) (t3 0 r1 r2)) = .ok false (whR a b w (t3 x p1 p2) (t3 0 r1 r2)) := by
      simp only [defF_ap, lentS, List.map_cons, List.map_nil, List.nil_append, List.append_nil, List.length_cons, List.length_nil, if_true, if_false, Bool.false_eq_true, List.cons_append, Nat.reduceSub, Nat.reduceAdd, Nat.reduceEqDiff, List.replicate, sq_ap, asg_ap, dropS_ap, retS_ap, retN_ap, ifS_ap, ifE_ap, asB_ap, andB_ap, orB_ap, notB_ap, thw_ap, frz_ap, cst_ap, var_ap, move_ap, op1_ap, op2_ap, opN_ap, opV1_ap, opV2_ap, callF_ap, aCons_ap, aNil_ap, tupE_ap, lstE_ap, peek_ap, Option.bind_some, data_val, data_own, data_inp, of_some, bind_ok, stm_ok, seq_nx, seq_rt, skp_ap, fgt_ap, List.foldl_cons, List.foldl_nil, List.set_cons_succ, List.set_cons_zero, List.getElem?_cons_zero, List.getElem?_cons_succ, Bool.not_true, Bool.not_false, finF_rt0, finF_nx0, finF_exc0, finF_rt1, finF_nx1, eqD_i, neD_i, ltD_i, leD_i, gtD_i, geD_i, addD_i, subD_i, negD_i, intD_i, notD_b, lenD_l, lenD_t, tupleD_l, items_l, items_t, isInst_ap, itE_ap, rng1_ap, rng2_ap, tgN_ap, tgT_ap, tgs_nil, tgs_cons, sm1, sm2, sm3, sm4, sm5, bind_exc, stm_exc, seq_exc, decide_true, decide_false, Bool.true_or, Bool.false_or, nn_i, nn_t, nn_n, nn_s, ni_i, ni_t, ni_n, ni_s, makeE_ap, methE_ap, propE_ap, clRes_ret, clRes_exc, prRes_ret, Int.cast_ofNat_Int, Int.natCast_zero, Int.natCast_one, Int.reduceEq, Int.reduceLT, Int.reduceLE, eqD_b, neD_b, truV_ap, truD_b, p0__whole_at, whR, t30, d]
    rw [whileS_succ, g0, stm_ok, if_neg (by decide)]
  · unfold gc at g
    rw [Int.natAbs_zero, Nat.gcd_zero_right] at g
    omega
theorem wh_loop (hb : b ≠ 0) (sa : Sz 60 a) : ∀ (j fuel : Nat) (x p1 p2 y r1 r2 : Int), WhI a b x p1 p2 y r1 r2 → y.natAbs < 2 ^ j → 2 * j + 1 ≤ fuel →
    ∃ g q1 q2 s, whileS p0__whole_at p1__whole_at fuel (whR a b w (t3 x p1 p2) (t3 y r1 r2)) = .nx (whR a b w (t3 g q1 q2) s) ∧ g = q1 * a + q2 * b ∧ g.natAbs = 1 ∧ q1.natAbs ≤ 2 ^ 60 := fun j => by
  induction j with
  | zero =>
    intro fuel x p1 p2 y r1 r2 I hy hf
    obtain ⟨n, rfl⟩ : ∃ n, fuel = n + 1 := ⟨fuel - 1, by omega⟩
    obtain ⟨h1, h2⟩ := wh_done (n := n) (a := a) (b := b) (w := w) (p1 := p1) (p2 := p2) (r1 := r1) (r2 := r2) (show y = 0 by omega) I.g
    exact ⟨_, _, _, _, h1, I.ex, h2, I.m2⟩
  | succ j ih =>
    intro fuel x p1 p2 y r1 r2 I hy hf
    obtain ⟨n, rfl⟩ : ∃ n, fuel = n + 1 + 1 := ⟨fuel - 2, by omega⟩
    by_cases z : y = 0
    · obtain ⟨h1, h2⟩ := wh_done (n := n + 1) (a := a) (b := b) (w := w) (p1 := p1) (p2 := p2) (r1 := r1) (r2 := r2) z I.g
      exact ⟨_, _, _, _, h1, I.ex, h2, I.m2⟩
    · obtain ⟨h1, I1⟩ := wh_turn (n := n + 1) (w := w) hb sa I z
      by_cases z1 : x.fmod y = 0
      · obtain ⟨h3, h4⟩ := wh_done (n := n) (a := a) (b := b) (w := w) (p1 := r1) (p2 := r2) (r1 := p1 - x.fdiv y * r1) (r2 := p2 - x.fdiv y * r2) z1 I1.g
        exact ⟨_, _, _, _, h1.trans h3, I1.ex, h4, I1.m2⟩
      · obtain ⟨h3, I2⟩ := wh_turn (n := n) (w := w) hb sa I1 z1
        have hh := halved z z1
        rw [Nat.pow_succ] at hy
        obtain ⟨g, q1, q2, s, k1, k2, k3, k4⟩ := ih n _ _ _ _ _ _ I2 (by omega) (by omega)
        exact ⟨g, q1, q2, s, (h1.trans h3).trans k1, k2, k3, k4⟩
theorem wh_all (h : gc a b = 1) (sa : Sz 60 a) (sb : Sz 60 b) : ∃ g q1 q2 s, whileS p0__whole_at p1__whole_at 200 (whR a b w (t3 a 1 0) (t3 b 0 1)) = .nx (whR a b w (t3 g q1 q2) s) ∧ g = q1 * a + q2 * b ∧ g.natAbs = 1 ∧ Sz 61 q1 ∧ Sz 121 q2 := by
  by_cases hb : b = 0
  · obtain ⟨h1, h2⟩ := wh_done (n := 199) (a := a) (b := b) (w := w) (p1 := 1) (p2 := 0) (r1 := 0) (r2 := 1) hb h
    exact ⟨_, _, _, _, h1, by omega, h2, (by decide : (1 : Int).natAbs < 2 ^ 61), (by decide : (0 : Int).natAbs < 2 ^ 121)⟩
  · have k := wh_go (n := 199) (a := a) (b := b) (w := w) (p1 := 1) (p2 := 0) hb sa sb (by decide : (0 : Int).natAbs < 2 ^ 300) (by decide : (1 : Int).natAbs < 2 ^ 300)
    have I : WhI a b b 0 1 (a.fmod b) (1 - a.fdiv b * 0) (0 - a.fdiv b * 1) := ⟨by omega, co_step (by omega) (by omega), sb, by
        have := fmod_abs (x := a) hb
        unfold Sz at *
        omega, gc_step h, fmod_lt hb, by
        rw [Int.mul_zero, Int.sub_zero]
        unfold Sz at sb
        show 0 * _ + 1 * _ ≤ _
        omega, by
        show 0 ≤ _
        omega⟩
    have sy := I.sy
    obtain ⟨g, q1, q2, s, k1, k2, k3, k4⟩ := wh_loop (w := w) hb sa 60 199 _ _ _ _ _ _ I sy (by decide)
    refine ⟨g, q1, q2, s, k.trans k1, k2, k3, ?_, co_sz hb sa k2 (by
      unfold Sz
      rw [k3]
      decide) k4⟩
    unfold Sz
    have : (2 : Nat) ^ 60 < 2 ^ 61 := by decide
    omega
theorem whole_at_ap (h : gc a b = 1) (sa : Sz 60 a) (sb : Sz 60 b) (sw : Sz 160 w) : ∃ x y, f__whole_at none [.int a, .int b, .int w] = .ret (.val (.tup [.int x, .int y])) none ∧ a * x + b * y = w ∧ Sz 290 x ∧ Sz 290 y := by
  obtain ⟨g, q1, q2, s, k1, k2, k3, k4, k5⟩ := wh_all (w := w) h sa sb
  have sg : Sz 1 g := (by unfold Sz; omega)
  have m0 := mulD_z (sw.mono (k := 8900) (by omega)) (sg.mono (k := 8900) (by omega))
  have sp : Sz 161 (w * g) := sw.mul sg
  have m1 := mulD_z (k4.mono (k := 8900) (by omega)) (sp.mono (k := 8900) (by omega))
  have m2 := mulD_z (k5.mono (k := 8900) (by omega)) (sp.mono (k := 8900) (by omega))
  refine ⟨q1 * (w * g), q2 * (w * g), ?_, ?_, (k4.mul sp).mono (by omega), (k5.mul sp).mono (by omega)⟩
  · have k1' := k1
    unfold whR at k1'
    simp only [defF_ap, lentS, List.map_cons, List.map_nil, List.nil_append, List.append_nil, List.length_cons, List.length_nil, if_true, if_false, Bool.false_eq_true, List.cons_append, Nat.reduceSub, Nat.reduceAdd, Nat.reduceEqDiff, List.replicate, sq_ap, asg_ap, dropS_ap, retS_ap, retN_ap, ifS_ap, ifE_ap, asB_ap, andB_ap, orB_ap, notB_ap, thw_ap, frz_ap, cst_ap, var_ap, move_ap, op1_ap, op2_ap, opN_ap, opV1_ap, opV2_ap, callF_ap, aCons_ap, aNil_ap, tupE_ap, lstE_ap, peek_ap, Option.bind_some, data_val, data_own, data_inp, of_some, bind_ok, stm_ok, seq_nx, seq_rt, skp_ap, fgt_ap, List.foldl_cons, List.foldl_nil, List.set_cons_succ, List.set_cons_zero, List.getElem?_cons_zero, List.getElem?_cons_succ, Bool.not_true, Bool.not_false, finF_rt0, finF_nx0, finF_exc0, finF_rt1, finF_nx1, eqD_i, neD_i, ltD_i, leD_i, gtD_i, geD_i, addD_i, subD_i, negD_i, intD_i, notD_b, lenD_l, lenD_t, tupleD_l, items_l, items_t, isInst_ap, itE_ap, rng1_ap, rng2_ap, tgN_ap, tgT_ap, tgs_nil, tgs_cons, sm1, sm2, sm3, sm4, sm5, bind_exc, stm_exc, seq_exc, decide_true, decide_false, Bool.true_or, Bool.false_or, nn_i, nn_t, nn_n, nn_s, ni_i, ni_t, ni_n, ni_s, makeE_ap, methE_ap, propE_ap, clRes_ret, clRes_exc, prRes_ret, Int.cast_ofNat_Int, Int.natCast_zero, Int.natCast_one, Int.reduceEq, Int.reduceLT, Int.reduceLE, eqD_b, neD_b, truV_ap, truD_b, f__whole_at, m__whole_at, frm3, k1', t30, t31, t32, m0, m1, m2]
  · have gg : g * g = 1 := by
      have : g = 1 ∨ g = -1 := by omega
      rcases this with z | z <;> rw [z] <;> rfl
    have : a * (q1 * (w * g)) + b * (q2 * (w * g)) = w * ((q1 * a + q2 * b) * g) := by grind
    rw [this, ← k2, gg, Int.mul_one]
end
end HT

set_option Elab.async false
set_option linter.all false
set_option maxRecDepth 100000
set_option maxHeartbeats 4000000
/-! K90PX: good_pair. -/
namespace HT
open PySem PySem.Spec PyProof.Rows L2 HM
theorem L2e {a b : Int} : L [a, b] = [.int a, .int b] := rfl
theorem asgT_nx {t : Tg} {f : EV} {ρ ρ1 ρ2 : Rho} {d : D} (h : f ρ = .ok d ρ1) (h2 : t d ρ1 = some ρ2) : asgT t f ρ = .nx ρ2 := by
  rw [asgT_ap, h, stm_ok, h2]
theorem tgT_fr {ts : List Tg} {a : Fq} {ρ : Rho} : tgT ts (fr a) ρ = tgs ts [.int a.1, .int a.2] ρ := id rfl
def ipt (x y : Int) : D := pt [(x, 1), (y, 1)]
theorem fip {x y : Int} : D.tup [fr (x, 1), fr (y, 1)] = ipt x y := id rfl
theorem pair_non {as : List Int} {o : Fq} (ha : ∀ a ∈ as, Sz 4400 a) (hl : as.length = 2) (ho : SF 4400 o) (hg : goodB as o = false) : f_good_pair none [flD as o] = .ret (.val .non) none := by
  have g := good_ap ha hl ho
  rw [hg] at g
  simp only [defF_ap, lentS, List.map_cons, List.map_nil, List.nil_append, List.append_nil, List.length_cons, List.length_nil, if_true, if_false, Bool.false_eq_true, List.cons_append, Nat.reduceSub, Nat.reduceAdd, Nat.reduceEqDiff, List.replicate, sq_ap, asg_ap, dropS_ap, retS_ap, retN_ap, ifS_ap, ifE_ap, asB_ap, andB_ap, orB_ap, notB_ap, thw_ap, frz_ap, cst_ap, var_ap, move_ap, op1_ap, op2_ap, opN_ap, opV1_ap, opV2_ap, callF_ap, aCons_ap, aNil_ap, tupE_ap, lstE_ap, peek_ap, Option.bind_some, data_val, data_own, data_inp, of_some, bind_ok, stm_ok, seq_nx, seq_rt, skp_ap, fgt_ap, List.foldl_cons, List.foldl_nil, List.set_cons_succ, List.set_cons_zero, List.getElem?_cons_zero, List.getElem?_cons_succ, Bool.not_true, Bool.not_false, finF_rt0, finF_nx0, finF_exc0, finF_rt1, finF_nx1, eqD_i, neD_i, ltD_i, leD_i, gtD_i, geD_i, addD_i, subD_i, negD_i, intD_i, notD_b, lenD_l, lenD_t, tupleD_l, items_l, items_t, isInst_ap, itE_ap, rng1_ap, rng2_ap, tgN_ap, tgT_ap, tgs_nil, tgs_cons, sm1, sm2, sm3, sm4, sm5, bind_exc, stm_exc, seq_exc, decide_true, decide_false, Bool.true_or, Bool.false_or, nn_i, nn_t, nn_n, nn_s, ni_i, ni_t, ni_n, ni_s, makeE_ap, methE_ap, propE_ap, clRes_ret, clRes_exc, prRes_ret, Int.cast_ofNat_Int, Int.natCast_zero, Int.natCast_one, Int.reduceEq, Int.reduceLT, Int.reduceLE, eqD_b, neD_b, truV_ap, truD_b, f_good_pair, m_good_pair, g]
theorem pair_ap {a b : Int} {o : Fq} (sa : Sz 60 a) (sb : Sz 60 b) (ho : SF 150 o) (hab : gc a b = 1) (hg : goodB [a, b] o = true) :
    ∃ x y e t : Int, f_good_pair none [flD [a, b] o] = .ret (.val (.tup [ipt x y, ipt (x + e * a) (y + e * b)])) none ∧ (e = 1 ∨ e = 2) ∧ Sz 290 x ∧ Sz 290 y ∧ twD o = some t ∧ 2 * (a * x + b * y) = t - e * sqs [a, b] := by
  have hs : ∀ c ∈ [a, b], Sz 60 c := fun c hc => by
    rcases List.mem_cons.mp hc with z | z
    · rw [z]
      exact sa
    · rw [List.mem_singleton.mp z]
      exact sb
  have g := good_ap (as := [a, b]) (o := o) (fun c hc => (hs c hc).mono (by omega)) rfl (ho.mono (by omega))
  rw [hg] at g
  have tw := twice_ap (as := [a, b]) (o := o) (ho.mono (by omega))
  have l2 := length2_ap (as := [a, b]) (o := o) (fun c h => (hs c h).mono (by omega)) (show 2 ≤ 3 by decide)
  have okc := okC_fl (as := [a, b]) (o := o)
  have sn : Sz 123 (sqs [a, b]) := (sqs_sz hs (show 2 ≤ 3 by decide)).mono (by omega)
  unfold goodB at hg
  cases et : twD o with
  | none =>
    rw [et] at hg
    cases hg
  | some t =>
    rw [et] at hg tw
    have st : Sz 152 t := by
      unfold twD at et
      split at et
      · cases et
        have := (show Sz 2 2 from (by decide : (2 : Int).natAbs < 2 ^ 2)).mul ho.2.1
        exact this.mono (by omega)
      · split at et
        · cases et
          exact ho.2.1.mono (by omega)
        · cases et
    have q2 : optD (some t) = .int t := rfl
    have hg' : t.fmod 2 = 0 ∨ (sqs [a, b]).fmod 2 = 1 := by
      have h : (decide (t.fmod 2 = 0) || decide ((sqs [a, b]).fmod 2 = 1)) = true := hg
      simpa using h
    obtain ⟨e, he, ev, hp⟩ : ∃ e : Int, (e = 1 ∨ e = 2) ∧ (if (decide ((t - sqs [a, b]).fmod 2 = 0)) = true then (Out.ok (D.int 1) : Rho → Out D) else Out.ok (D.int 2)) = Out.ok (D.int e) ∧ 2 * ((t - e * sqs [a, b]).fdiv 2) = t - e * sqs [a, b] := by
      generalize sqs [a, b] = n at *
      rw [Int.fmod_eq_emod_of_nonneg _ (by decide)] at hg'
      rw [Int.fmod_eq_emod_of_nonneg _ (by decide)] at hg'
      rw [Int.fmod_eq_emod_of_nonneg _ (by decide)]
      by_cases hh : (t - n) % 2 = 0
      · refine ⟨1, .inl rfl, by rw [if_pos (decide_eq_true hh)], ?_⟩
        rw [Int.fdiv_eq_ediv_of_nonneg _ (by decide)]
        omega
      · refine ⟨2, .inr rfl, by rw [if_neg (by simp [hh])], ?_⟩
        rw [Int.fdiv_eq_ediv_of_nonneg _ (by decide)]
        omega
    have se : Sz 2 e := by
      rcases he with z | z <;> rw [z]
      · exact (by decide : (1 : Int).natAbs < 2 ^ 2)
      · exact (by decide : (2 : Int).natAbs < 2 ^ 2)
    have m1 := mulD_z (se.mono (k := 8900) (by omega)) (sn.mono (k := 8900) (by omega))
    have m2 := mulD_z (se.mono (k := 8900) (by omega)) (sa.mono (k := 8900) (by omega))
    have m3 := mulD_z (se.mono (k := 8900) (by omega)) (sb.mono (k := 8900) (by omega))
    have sw : Sz 160 ((t - e * sqs [a, b]).fdiv 2) := by
      have h1 : Sz 153 (t - e * sqs [a, b]) := (st.sub ((se.mul sn).mono (by omega))).mono (by omega)
      have h2 := h1.mono (k := 159) (by omega)
      unfold Sz at *
      omega
    obtain ⟨x, y, k1, k2, k3, k4⟩ := whole_at_ap hab sa sb sw
    refine ⟨x, y, e, t, ?_, he, k3, k4, rfl, by rw [k2]; exact hp⟩
    have ev' : ∀ ρ : Rho, (if (decide ((t - sqs [a, b]).fmod 2 = 0)) = true then (Out.ok (D.int 1) ρ : Out D) else Out.ok (D.int 2) ρ) = Out.ok (D.int e) ρ := fun ρ => by
      have := congrFun ev ρ
      rw [← this]
      split <;> rfl
    have fd := fld_dir (as := [a, b]) (o := o)
    rw [L2e] at fd
    simp only [defF_ap, lentS, List.map_cons, List.map_nil, List.nil_append, List.append_nil, List.length_cons, List.length_nil, if_true, if_false, Bool.false_eq_true, List.cons_append, Nat.reduceSub, Nat.reduceAdd, Nat.reduceEqDiff, List.replicate, sq_ap, asg_ap, dropS_ap, retS_ap, retN_ap, ifS_ap, ifE_ap, asB_ap, andB_ap, orB_ap, notB_ap, thw_ap, frz_ap, cst_ap, var_ap, move_ap, op1_ap, op2_ap, opN_ap, opV1_ap, opV2_ap, callF_ap, aCons_ap, aNil_ap, tupE_ap, lstE_ap, peek_ap, Option.bind_some, data_val, data_own, data_inp, of_some, bind_ok, stm_ok, seq_nx, seq_rt, skp_ap, fgt_ap, List.foldl_cons, List.foldl_nil, List.set_cons_succ, List.set_cons_zero, List.getElem?_cons_zero, List.getElem?_cons_succ, Bool.not_true, Bool.not_false, finF_rt0, finF_nx0, finF_exc0, finF_rt1, finF_nx1, eqD_i, neD_i, ltD_i, leD_i, gtD_i, geD_i, addD_i, subD_i, negD_i, intD_i, notD_b, lenD_l, lenD_t, tupleD_l, items_l, items_t, isInst_ap, itE_ap, rng1_ap, rng2_ap, tgN_ap, tgT_ap, tgs_nil, tgs_cons, sm1, sm2, sm3, sm4, sm5, bind_exc, stm_exc, seq_exc, decide_true, decide_false, Bool.true_or, Bool.false_or, nn_i, nn_t, nn_n, nn_s, ni_i, ni_t, ni_n, ni_s, makeE_ap, methE_ap, propE_ap, clRes_ret, clRes_exc, prRes_ret, Int.cast_ofNat_Int, Int.natCast_zero, Int.natCast_one, Int.reduceEq, Int.reduceLT, Int.reduceLE, eqD_b, neD_b, truV_ap, truD_b, f_good_pair, m_good_pair, g, tw, q2, okc, l2, fd, asgT_ap, md2, fd2, ev', m1, m2, m3, k1, frm, fip, tgT_fr]
end HT

set_option Elab.async false
set_option linter.all false
set_option maxRecDepth 100000
set_option maxHeartbeats 4000000
/-! K90PY: the flat between two whole points. -/
namespace HT
open PySem PySem.Spec PyProof.Rows L2 HM
theorem eqD_pt (p q : Pt) : eqD (pt p) (pt q) = some (.bl (decide (p = q))) := eqD_Pr p q
theorem canw (x : Int) : Can (x, 1) := ⟨(by decide : (0 : Int) < 1), gc_one x⟩
theorem subw (x y : Int) : subF (x, 1) (y, 1) = (x - y, 1) := by
  have : subF (x, 1) (y, 1) = nrm (x * 1 - y * 1) (1 * 1) := rfl
  rw [this, Int.mul_one, Int.mul_one, Int.mul_one, nrm_one]
theorem SFw {k : Nat} {x : Int} (h : Sz k x) (hk : 1 ≤ k) : SF k (x, 1) := ⟨(by decide : (0 : Int) < 1), h, Nat.one_lt_two_pow (by omega)⟩
theorem SFw2 {k : Nat} {x y : Int} (h : Sz k x) (h' : Sz k y) (hk : 1 ≤ k) : ∀ a ∈ ([(x, 1), (y, 1)] : Pt), SF k a := fun a ha => by
  rcases List.mem_cons.mp ha with z | z
  · rw [z]
    exact SFw h hk
  · rw [List.mem_singleton.mp z]
    exact SFw h' hk
theorem CanPw {x y : Int} : CanP [(x, 1), (y, 1)] := fun a ha => by
  rcases List.mem_cons.mp ha with z | z
  · rw [z]
    exact canw x
  · rw [List.mem_singleton.mp z]
    exact canw y
/-! ### common_of of two -/
theorem comF2 (u v : Int) : comF [u, v] = if (if u = 0 then v else u) < 0 then -(gc u v) else gc u v := by
  have e : gc (gc 0 u) v = gc u v := by
    unfold gc
    rw [Int.natAbs_zero, Nat.gcd_zero_left, Int.natAbs_natCast]
  have e2 : comS [u, v] 0 0 = (gc u v, if u = 0 then v else u) := by
    show (gc (gc 0 u) v, if (if (0 : Int) = 0 then u else 0) = 0 then v else (if (0 : Int) = 0 then u else 0)) = _
    rw [e, if_pos rfl]
  unfold comF
  rw [e2]
theorem comF_one {a b : Int} (h : gc a b = 1) (hs : 0 < a ∨ a = 0 ∧ 0 < b) : comF [a, b] = 1 := by
  rw [comF2, h]
  rcases hs with z | ⟨z1, z2⟩
  · rw [if_neg (show ¬ a = 0 by omega), if_neg (by omega)]
  · rw [if_pos z1, if_neg (by omega)]
/-- the direction in its one form -/
theorem dir_of {u v : Int} (h : u ≠ 0 ∨ v ≠ 0) : ∃ d1 d2, u = comF [u, v] * d1 ∧ v = comF [u, v] * d2 ∧ comF [u, v] ≠ 0 ∧ gc d1 d2 = 1 ∧ comF [d1, d2] = 1 ∧ (comF [u, v]).natAbs = (gc u v).natAbs := by
  have gp : 0 < gc u v := by
    rcases h with z | z
    · rw [gc_comm]
      exact gc_pos z
    · exact gc_pos z
  obtain ⟨a, ha⟩ := gc_dvd_left u v
  obtain ⟨b, hb⟩ := gc_dvd_right u v
  have g1 : gc a b = 1 := by
    have := gc_mul (a := a) (b := b) gp
    rw [← ha, ← hb] at this
    have k : gc u v * 1 = gc u v * gc a b := by rw [Int.mul_one]; exact this
    exact (Int.eq_of_mul_eq_mul_left (by omega) k).symm
  have c2 := comF2 u v
  by_cases s : (if u = 0 then v else u) < 0
  · rw [if_pos s] at c2
    have g2 : gc (-a) (-b) = 1 := by rw [gc_neg]; exact g1
    refine ⟨-a, -b, by rw [c2, Int.neg_mul_neg]; exact ha, by rw [c2, Int.neg_mul_neg]; exact hb, by omega, g2, comF_one g2 ?_, by rw [c2]; omega⟩
    by_cases u0 : u = 0
    · rw [if_pos u0] at s
      have a0 : a = 0 := by
        rcases Int.mul_eq_zero.mp (ha.symm.trans u0) with z | z
        · omega
        · exact z
      have : ¬ 0 ≤ b := fun z => by
        have := Int.mul_nonneg (show 0 ≤ gc u v by omega) z
        omega
      omega
    · rw [if_neg u0] at s
      have : ¬ 0 ≤ a := fun z => by
        have := Int.mul_nonneg (show 0 ≤ gc u v by omega) z
        omega
      omega
  · rw [if_neg s] at c2
    refine ⟨a, b, by rw [c2]; exact ha, by rw [c2]; exact hb, by omega, g1, comF_one g1 ?_, by rw [c2]⟩
    by_cases u0 : u = 0
    · rw [if_pos u0] at s
      have a0 : a = 0 := by
        rcases Int.mul_eq_zero.mp (ha.symm.trans u0) with z | z
        · omega
        · exact z
      have : ¬ b ≤ 0 := fun z => by
        have := Int.mul_nonneg (show 0 ≤ gc u v by omega) (show 0 ≤ -b by omega)
        rw [Int.mul_neg, ← hb] at this
        omega
      omega
    · rw [if_neg u0] at s
      have : ¬ a ≤ 0 := fun z => by
        have := Int.mul_nonneg (show 0 ≤ gc u v by omega) (show 0 ≤ -a by omega)
        rw [Int.mul_neg, ← ha] at this
        omega
      omega
/-! ### twice the offset -/
theorem tw_of {o : Fq} {t : Int} (ho : Can o) (h : 2 * o.1 = t * o.2) : twD o = some t := by
  have d : o.2 ∣ 2 := by
    have c : Nat.Coprime o.2.natAbs o.1.natAbs := by
      have := ho.2
      unfold gc at this
      have h1 : Nat.gcd o.1.natAbs o.2.natAbs = 1 := by omega
      rw [Nat.gcd_comm] at h1
      exact h1
    have h2 : o.2.natAbs ∣ o.1.natAbs * (2 : Int).natAbs := by
      rw [← Int.natAbs_mul, Int.mul_comm, h, Int.natAbs_mul]
      exact Nat.dvd_mul_left _ _
    exact Int.natAbs_dvd_natAbs.mp (c.dvd_of_dvd_mul_left h2)
  have hp := ho.1
  have := Int.le_of_dvd (by decide) d
  unfold twD
  have : o.2 = 1 ∨ o.2 = 2 := by omega
  rcases this with z | z
  · rw [if_pos z]
    rw [z] at h
    congr 1
    omega
  · rw [if_neg (by omega), if_pos z]
    rw [z] at h
    congr 1
    omega
theorem of_tw {o : Fq} {t : Int} (h : twD o = some t) : 2 * o.1 = t * o.2 := by
  unfold twD at h
  split at h
  · rename_i z
    cases h
    rw [z]
    omega
  · split at h
    · rename_i z
      cases h
      rw [z]
      omega
    · cases h
theorem goodB_iff {as : List Int} {o : Fq} (ho : Can o) : goodB as o = true ↔ ∃ t, 2 * o.1 = t * o.2 ∧ (t % 2 = 0 ∨ sqs as % 2 = 1) := by
  unfold goodB
  constructor
  · intro h
    cases e : twD o with
    | none =>
      rw [e] at h
      cases h
    | some t =>
      rw [e] at h
      have h : (decide (t.fmod 2 = 0) || decide ((sqs as).fmod 2 = 1)) = true := h
      rw [Int.fmod_eq_emod_of_nonneg _ (by decide), Int.fmod_eq_emod_of_nonneg _ (by decide)] at h
      exact ⟨t, of_tw e, by simpa using h⟩
  · rintro ⟨t, h1, h2⟩
    rw [tw_of ho h1]
    show (decide (t.fmod 2 = 0) || decide ((sqs as).fmod 2 = 1)) = true
    rw [Int.fmod_eq_emod_of_nonneg _ (by decide), Int.fmod_eq_emod_of_nonneg _ (by decide)]
    simpa using h2
end HT

set_option Elab.async false
set_option linter.all false
set_option maxRecDepth 100000
set_option maxHeartbeats 4000000
/-! K90PZ: the flat between two whole points. -/
namespace HT
open PySem PySem.Spec PyProof.Rows L2 HM
theorem tak_lc {x y z w : Int} (sx : Sz 45 x) (sy : Sz 45 y) (sz : Sz 45 z) (sw : Sz 45 w) : lcE (zipM (var 0) (var 1)) (tgT (tgN 2 :: tgN 3 :: [])) yesB (frz (callF f_minus [] (aCons (var 2) (aCons (var 3) aNil)))) [2, 3] [.val (ipt x y), .val (ipt z w), .non, .non] =
    .ok (.own (.lst ([(x - z, 1), (y - w, 1)].map fr))) [.val (ipt x y), .val (ipt z w), .non, .non] := by
  have one : ∀ {x z : Int}, Sz 45 x → Sz 45 z → f_minus none [fr (x, 1), fr (z, 1)] = .ret (.val (fr (x - z, 1))) none := fun {x z} h1 h2 => by
    have m := minus_ap (a := (x, 1)) (b := (z, 1)) ((SFw h1 (by omega)).mono (by omega)) ((SFw h2 (by omega)).mono (by omega))
    rw [subw] at m
    exact m
  let g : D → D := fun d => match d with
    | .tup [.tup [.int a, _], .tup [.int b, _]] => fr (a - b, 1)
    | _ => .non
  have e : [(x - z, 1), (y - w, 1)].map fr = (frs2 ([((x, 1), (z, 1)), ((y, 1), (w, 1))])).map g := rfl
  have zz : zipD2 (ipt x y) (ipt z w) = some (frs2 [((x, 1), (z, 1)), ((y, 1), (w, 1))]) := rfl
  rw [e]
  refine lcE_map (g := g) (ds := frs2 [((x, 1), (z, 1)), ((y, 1), (w, 1))]) ?_ (show 2 ≤ 90000 by decide) rfl rfl fun d hd => ?_
  · simp only [defF_ap, lentS, List.map_cons, List.map_nil, List.nil_append, List.append_nil, List.length_cons, List.length_nil, if_true, if_false, Bool.false_eq_true, List.cons_append, Nat.reduceSub, Nat.reduceAdd, Nat.reduceEqDiff, List.replicate, sq_ap, asg_ap, dropS_ap, retS_ap, retN_ap, ifS_ap, ifE_ap, asB_ap, andB_ap, orB_ap, notB_ap, thw_ap, frz_ap, cst_ap, var_ap, move_ap, op1_ap, op2_ap, opN_ap, opV1_ap, opV2_ap, callF_ap, aCons_ap, aNil_ap, tupE_ap, lstE_ap, peek_ap, Option.bind_some, data_val, data_own, data_inp, of_some, bind_ok, stm_ok, seq_nx, seq_rt, skp_ap, fgt_ap, List.foldl_cons, List.foldl_nil, List.set_cons_succ, List.set_cons_zero, List.getElem?_cons_zero, List.getElem?_cons_succ, Bool.not_true, Bool.not_false, finF_rt0, finF_nx0, finF_exc0, finF_rt1, finF_nx1, eqD_i, neD_i, ltD_i, leD_i, gtD_i, geD_i, addD_i, subD_i, negD_i, intD_i, notD_b, lenD_l, lenD_t, tupleD_l, items_l, items_t, isInst_ap, itE_ap, rng1_ap, rng2_ap, tgN_ap, tgT_ap, tgs_nil, tgs_cons, sm1, sm2, sm3, sm4, sm5, bind_exc, stm_exc, seq_exc, decide_true, decide_false, Bool.true_or, Bool.false_or, nn_i, nn_t, nn_n, nn_s, ni_i, ni_t, ni_n, ni_s, makeE_ap, methE_ap, propE_ap, clRes_ret, clRes_exc, prRes_ret, Int.cast_ofNat_Int, Int.natCast_zero, Int.natCast_one, Int.reduceEq, Int.reduceLT, Int.reduceLE, eqD_b, neD_b, truV_ap, truD_b, zipM_ap, zz]
  · have hd : d ∈ [D.tup [fr (x, 1), fr (z, 1)], D.tup [fr (y, 1), fr (w, 1)]] := hd
    rcases List.mem_cons.mp hd with h | h
    · subst h
      refine ⟨[.val (ipt x y), .val (ipt z w), .val (fr (x, 1)), .val (fr (z, 1))], [.val (ipt x y), .val (ipt z w), .val (fr (x, 1)), .val (fr (z, 1))], rfl, ?_, rfl⟩
      have o := one sx sz
      simp only [defF_ap, lentS, List.map_cons, List.map_nil, List.nil_append, List.append_nil, List.length_cons, List.length_nil, if_true, if_false, Bool.false_eq_true, List.cons_append, Nat.reduceSub, Nat.reduceAdd, Nat.reduceEqDiff, List.replicate, sq_ap, asg_ap, dropS_ap, retS_ap, retN_ap, ifS_ap, ifE_ap, asB_ap, andB_ap, orB_ap, notB_ap, thw_ap, frz_ap, cst_ap, var_ap, move_ap, op1_ap, op2_ap, opN_ap, opV1_ap, opV2_ap, callF_ap, aCons_ap, aNil_ap, tupE_ap, lstE_ap, peek_ap, Option.bind_some, data_val, data_own, data_inp, of_some, bind_ok, stm_ok, seq_nx, seq_rt, skp_ap, fgt_ap, List.foldl_cons, List.foldl_nil, List.set_cons_succ, List.set_cons_zero, List.getElem?_cons_zero, List.getElem?_cons_succ, Bool.not_true, Bool.not_false, finF_rt0, finF_nx0, finF_exc0, finF_rt1, finF_nx1, eqD_i, neD_i, ltD_i, leD_i, gtD_i, geD_i, addD_i, subD_i, negD_i, intD_i, notD_b, lenD_l, lenD_t, tupleD_l, items_l, items_t, isInst_ap, itE_ap, rng1_ap, rng2_ap, tgN_ap, tgT_ap, tgs_nil, tgs_cons, sm1, sm2, sm3, sm4, sm5, bind_exc, stm_exc, seq_exc, decide_true, decide_false, Bool.true_or, Bool.false_or, nn_i, nn_t, nn_n, nn_s, ni_i, ni_t, ni_n, ni_s, makeE_ap, methE_ap, propE_ap, clRes_ret, clRes_exc, prRes_ret, Int.cast_ofNat_Int, Int.natCast_zero, Int.natCast_one, Int.reduceEq, Int.reduceLT, Int.reduceLE, eqD_b, neD_b, truV_ap, truD_b, o]
      rfl
    · have h := List.mem_singleton.mp h
      subst h
      refine ⟨[.val (ipt x y), .val (ipt z w), .val (fr (y, 1)), .val (fr (w, 1))], [.val (ipt x y), .val (ipt z w), .val (fr (y, 1)), .val (fr (w, 1))], rfl, ?_, rfl⟩
      have o := one sy sw
      simp only [defF_ap, lentS, List.map_cons, List.map_nil, List.nil_append, List.append_nil, List.length_cons, List.length_nil, if_true, if_false, Bool.false_eq_true, List.cons_append, Nat.reduceSub, Nat.reduceAdd, Nat.reduceEqDiff, List.replicate, sq_ap, asg_ap, dropS_ap, retS_ap, retN_ap, ifS_ap, ifE_ap, asB_ap, andB_ap, orB_ap, notB_ap, thw_ap, frz_ap, cst_ap, var_ap, move_ap, op1_ap, op2_ap, opN_ap, opV1_ap, opV2_ap, callF_ap, aCons_ap, aNil_ap, tupE_ap, lstE_ap, peek_ap, Option.bind_some, data_val, data_own, data_inp, of_some, bind_ok, stm_ok, seq_nx, seq_rt, skp_ap, fgt_ap, List.foldl_cons, List.foldl_nil, List.set_cons_succ, List.set_cons_zero, List.getElem?_cons_zero, List.getElem?_cons_succ, Bool.not_true, Bool.not_false, finF_rt0, finF_nx0, finF_exc0, finF_rt1, finF_nx1, eqD_i, neD_i, ltD_i, leD_i, gtD_i, geD_i, addD_i, subD_i, negD_i, intD_i, notD_b, lenD_l, lenD_t, tupleD_l, items_l, items_t, isInst_ap, itE_ap, rng1_ap, rng2_ap, tgN_ap, tgT_ap, tgs_nil, tgs_cons, sm1, sm2, sm3, sm4, sm5, bind_exc, stm_exc, seq_exc, decide_true, decide_false, Bool.true_or, Bool.false_or, nn_i, nn_t, nn_n, nn_s, ni_i, ni_t, ni_n, ni_s, makeE_ap, methE_ap, propE_ap, clRes_ret, clRes_exc, prRes_ret, Int.cast_ofNat_Int, Int.natCast_zero, Int.natCast_one, Int.reduceEq, Int.reduceLT, Int.reduceLE, eqD_b, neD_b, truV_ap, truD_b, o]
      rfl
theorem taken_ap {x y z w : Int} (sx : Sz 45 x) (sy : Sz 45 y) (sz : Sz 45 z) (sw : Sz 45 w) : f_taken none [ipt x y, ipt z w] = .ret (.val (ipt (x - z) (y - w))) none := by
  have l := tak_lc sx sy sz sw
  simp only [defF_ap, lentS, List.map_cons, List.map_nil, List.nil_append, List.append_nil, List.length_cons, List.length_nil, if_true, if_false, Bool.false_eq_true, List.cons_append, Nat.reduceSub, Nat.reduceAdd, Nat.reduceEqDiff, List.replicate, sq_ap, asg_ap, dropS_ap, retS_ap, retN_ap, ifS_ap, ifE_ap, asB_ap, andB_ap, orB_ap, notB_ap, thw_ap, frz_ap, cst_ap, var_ap, move_ap, op1_ap, op2_ap, opN_ap, opV1_ap, opV2_ap, callF_ap, aCons_ap, aNil_ap, tupE_ap, lstE_ap, peek_ap, Option.bind_some, data_val, data_own, data_inp, of_some, bind_ok, stm_ok, seq_nx, seq_rt, skp_ap, fgt_ap, List.foldl_cons, List.foldl_nil, List.set_cons_succ, List.set_cons_zero, List.getElem?_cons_zero, List.getElem?_cons_succ, Bool.not_true, Bool.not_false, finF_rt0, finF_nx0, finF_exc0, finF_rt1, finF_nx1, eqD_i, neD_i, ltD_i, leD_i, gtD_i, geD_i, addD_i, subD_i, negD_i, intD_i, notD_b, lenD_l, lenD_t, tupleD_l, items_l, items_t, isInst_ap, itE_ap, rng1_ap, rng2_ap, tgN_ap, tgT_ap, tgs_nil, tgs_cons, sm1, sm2, sm3, sm4, sm5, bind_exc, stm_exc, seq_exc, decide_true, decide_false, Bool.true_or, Bool.false_or, nn_i, nn_t, nn_n, nn_s, ni_i, ni_t, ni_n, ni_s, makeE_ap, methE_ap, propE_ap, clRes_ret, clRes_exc, prRes_ret, Int.cast_ofNat_Int, Int.natCast_zero, Int.natCast_one, Int.reduceEq, Int.reduceLT, Int.reduceLE, eqD_b, neD_b, truV_ap, truD_b, f_taken, m_taken, l]
  rfl
theorem low1 (v : Fq) : fdivD (.int 1) (.int 1) = some (.int 1) := fdivD_z (by decide) ((show Sz 1 1 from (by decide : (1 : Int).natAbs < 2 ^ 1)).mono (by omega))
theorem common_low_ap {u v : Int} : f_common_low none [ipt u v] = .ret (.val (.int 1)) none := by
  have it : items (ipt u v) = some [fr (u, 1), fr (v, 1)] := rfl
  have tu : ∀ a : Int, p0_common_low [.val (ipt u v), .val (.int 1), .val (fr (a, 1))] = .nx [.val (ipt u v), .val (.int 1), .non] := fun a => by
    simp only [defF_ap, lentS, List.map_cons, List.map_nil, List.nil_append, List.append_nil, List.length_cons, List.length_nil, if_true, if_false, Bool.false_eq_true, List.cons_append, Nat.reduceSub, Nat.reduceAdd, Nat.reduceEqDiff, List.replicate, sq_ap, asg_ap, dropS_ap, retS_ap, retN_ap, ifS_ap, ifE_ap, asB_ap, andB_ap, orB_ap, notB_ap, thw_ap, frz_ap, cst_ap, var_ap, move_ap, op1_ap, op2_ap, opN_ap, opV1_ap, opV2_ap, callF_ap, aCons_ap, aNil_ap, tupE_ap, lstE_ap, peek_ap, Option.bind_some, data_val, data_own, data_inp, of_some, bind_ok, stm_ok, seq_nx, seq_rt, skp_ap, fgt_ap, List.foldl_cons, List.foldl_nil, List.set_cons_succ, List.set_cons_zero, List.getElem?_cons_zero, List.getElem?_cons_succ, Bool.not_true, Bool.not_false, finF_rt0, finF_nx0, finF_exc0, finF_rt1, finF_nx1, eqD_i, neD_i, ltD_i, leD_i, gtD_i, geD_i, addD_i, subD_i, negD_i, intD_i, notD_b, lenD_l, lenD_t, tupleD_l, items_l, items_t, isInst_ap, itE_ap, rng1_ap, rng2_ap, tgN_ap, tgT_ap, tgs_nil, tgs_cons, sm1, sm2, sm3, sm4, sm5, bind_exc, stm_exc, seq_exc, decide_true, decide_false, Bool.true_or, Bool.false_or, nn_i, nn_t, nn_n, nn_s, ni_i, ni_t, ni_n, ni_s, makeE_ap, methE_ap, propE_ap, clRes_ret, clRes_exc, prRes_ret, Int.cast_ofNat_Int, Int.natCast_zero, Int.natCast_one, Int.reduceEq, Int.reduceLT, Int.reduceLE, eqD_b, neD_b, truV_ap, truD_b, p0_common_low, it1]
  simp only [defF_ap, lentS, List.map_cons, List.map_nil, List.nil_append, List.append_nil, List.length_cons, List.length_nil, if_true, if_false, Bool.false_eq_true, List.cons_append, Nat.reduceSub, Nat.reduceAdd, Nat.reduceEqDiff, List.replicate, sq_ap, asg_ap, dropS_ap, retS_ap, retN_ap, ifS_ap, ifE_ap, asB_ap, andB_ap, orB_ap, notB_ap, thw_ap, frz_ap, cst_ap, var_ap, move_ap, op1_ap, op2_ap, opN_ap, opV1_ap, opV2_ap, callF_ap, aCons_ap, aNil_ap, tupE_ap, lstE_ap, peek_ap, Option.bind_some, data_val, data_own, data_inp, of_some, bind_ok, stm_ok, seq_nx, seq_rt, skp_ap, fgt_ap, List.foldl_cons, List.foldl_nil, List.set_cons_succ, List.set_cons_zero, List.getElem?_cons_zero, List.getElem?_cons_succ, Bool.not_true, Bool.not_false, finF_rt0, finF_nx0, finF_exc0, finF_rt1, finF_nx1, eqD_i, neD_i, ltD_i, leD_i, gtD_i, geD_i, addD_i, subD_i, negD_i, intD_i, notD_b, lenD_l, lenD_t, tupleD_l, items_l, items_t, isInst_ap, itE_ap, rng1_ap, rng2_ap, tgN_ap, tgT_ap, tgs_nil, tgs_cons, sm1, sm2, sm3, sm4, sm5, bind_exc, stm_exc, seq_exc, decide_true, decide_false, Bool.true_or, Bool.false_or, nn_i, nn_t, nn_n, nn_s, ni_i, ni_t, ni_n, ni_s, makeE_ap, methE_ap, propE_ap, clRes_ret, clRes_exc, prRes_ret, Int.cast_ofNat_Int, Int.natCast_zero, Int.natCast_one, Int.reduceEq, Int.reduceLT, Int.reduceLE, eqD_b, neD_b, truV_ap, truD_b, f_common_low, m_common_low, it, forE_ap, forS_cons, forS_nil, tu]
theorem who_lc {u v : Int} {b : D} (su : Sz 60 u) (sv : Sz 60 v) : lcE (itE (var 0)) (tgN 5) yesB (op2 mulD (opV2 itemD 5 (cst (.int 0))) (op2 fdivD (var 2) (opV2 itemD 5 (cst (.int 1))))) [5] [.val (ipt u v), .val b, .val (.int 1), .non, .non, .non, .non] = .ok (.own (.lst (L [u, v]))) [.val (ipt u v), .val b, .val (.int 1), .non, .non, .non, .non] := by
  let g : D → D := fun d => match d with
    | .tup [.int a, _] => .int a
    | _ => .non
  have e : L [u, v] = [fr (u, 1), fr (v, 1)].map g := rfl
  have l := low1 (0, 0)
  have one : ∀ {u : Int}, Sz 60 u → mulD (.int u) (.int 1) = some (.int u) := fun {u} h => by
    have m := mulD_z (x := u) (y := 1) (h.mono (by omega)) ((show Sz 1 1 from (by decide : (1 : Int).natAbs < 2 ^ 1)).mono (by omega))
    rw [Int.mul_one] at m
    exact m
  rw [e]
  refine lcE_map (g := g) (ds := [fr (u, 1), fr (v, 1)]) rfl (show 2 ≤ 90000 by decide) rfl rfl fun d hd => ?_
  rcases List.mem_cons.mp hd with h | h
  · subst h
    have o := one su
    refine ⟨[.val (ipt u v), .val b, .val (.int 1), .non, .non, .val (fr (u, 1)), .non], [.val (ipt u v), .val b, .val (.int 1), .non, .non, .val (fr (u, 1)), .non], rfl, ?_, rfl⟩
    simp only [defF_ap, lentS, List.map_cons, List.map_nil, List.nil_append, List.append_nil, List.length_cons, List.length_nil, if_true, if_false, Bool.false_eq_true, List.cons_append, Nat.reduceSub, Nat.reduceAdd, Nat.reduceEqDiff, List.replicate, sq_ap, asg_ap, dropS_ap, retS_ap, retN_ap, ifS_ap, ifE_ap, asB_ap, andB_ap, orB_ap, notB_ap, thw_ap, frz_ap, cst_ap, var_ap, move_ap, op1_ap, op2_ap, opN_ap, opV1_ap, opV2_ap, callF_ap, aCons_ap, aNil_ap, tupE_ap, lstE_ap, peek_ap, Option.bind_some, data_val, data_own, data_inp, of_some, bind_ok, stm_ok, seq_nx, seq_rt, skp_ap, fgt_ap, List.foldl_cons, List.foldl_nil, List.set_cons_succ, List.set_cons_zero, List.getElem?_cons_zero, List.getElem?_cons_succ, Bool.not_true, Bool.not_false, finF_rt0, finF_nx0, finF_exc0, finF_rt1, finF_nx1, eqD_i, neD_i, ltD_i, leD_i, gtD_i, geD_i, addD_i, subD_i, negD_i, intD_i, notD_b, lenD_l, lenD_t, tupleD_l, items_l, items_t, isInst_ap, itE_ap, rng1_ap, rng2_ap, tgN_ap, tgT_ap, tgs_nil, tgs_cons, sm1, sm2, sm3, sm4, sm5, bind_exc, stm_exc, seq_exc, decide_true, decide_false, Bool.true_or, Bool.false_or, nn_i, nn_t, nn_n, nn_s, ni_i, ni_t, ni_n, ni_s, makeE_ap, methE_ap, propE_ap, clRes_ret, clRes_exc, prRes_ret, Int.cast_ofNat_Int, Int.natCast_zero, Int.natCast_one, Int.reduceEq, Int.reduceLT, Int.reduceLE, eqD_b, neD_b, truV_ap, truD_b, it0, it1, l, o]
    rfl
  · have h := List.mem_singleton.mp h
    subst h
    have o := one sv
    refine ⟨[.val (ipt u v), .val b, .val (.int 1), .non, .non, .val (fr (v, 1)), .non], [.val (ipt u v), .val b, .val (.int 1), .non, .non, .val (fr (v, 1)), .non], rfl, ?_, rfl⟩
    simp only [defF_ap, lentS, List.map_cons, List.map_nil, List.nil_append, List.append_nil, List.length_cons, List.length_nil, if_true, if_false, Bool.false_eq_true, List.cons_append, Nat.reduceSub, Nat.reduceAdd, Nat.reduceEqDiff, List.replicate, sq_ap, asg_ap, dropS_ap, retS_ap, retN_ap, ifS_ap, ifE_ap, asB_ap, andB_ap, orB_ap, notB_ap, thw_ap, frz_ap, cst_ap, var_ap, move_ap, op1_ap, op2_ap, opN_ap, opV1_ap, opV2_ap, callF_ap, aCons_ap, aNil_ap, tupE_ap, lstE_ap, peek_ap, Option.bind_some, data_val, data_own, data_inp, of_some, bind_ok, stm_ok, seq_nx, seq_rt, skp_ap, fgt_ap, List.foldl_cons, List.foldl_nil, List.set_cons_succ, List.set_cons_zero, List.getElem?_cons_zero, List.getElem?_cons_succ, Bool.not_true, Bool.not_false, finF_rt0, finF_nx0, finF_exc0, finF_rt1, finF_nx1, eqD_i, neD_i, ltD_i, leD_i, gtD_i, geD_i, addD_i, subD_i, negD_i, intD_i, notD_b, lenD_l, lenD_t, tupleD_l, items_l, items_t, isInst_ap, itE_ap, rng1_ap, rng2_ap, tgN_ap, tgT_ap, tgs_nil, tgs_cons, sm1, sm2, sm3, sm4, sm5, bind_exc, stm_exc, seq_exc, decide_true, decide_false, Bool.true_or, Bool.false_or, nn_i, nn_t, nn_n, nn_s, ni_i, ni_t, ni_n, ni_s, makeE_ap, methE_ap, propE_ap, clRes_ret, clRes_exc, prRes_ret, Int.cast_ofNat_Int, Int.natCast_zero, Int.natCast_one, Int.reduceEq, Int.reduceLT, Int.reduceLE, eqD_b, neD_b, truV_ap, truD_b, it0, it1, l, o]
    rfl
theorem dir_lc {u v c : Int} {s0 s1 s2 : Sl} (hc : c ≠ 0) (sc : Sz 60 c) : lcE (itE (var 3)) (tgN 6) yesB (op2 fdivD (var 6) (var 4)) [6] [s0, s1, s2, .val (.lst (L [u, v])), .val (.int c), .non, .non] = .ok (.own (.lst (L [u.fdiv c, v.fdiv c]))) [s0, s1, s2, .val (.lst (L [u, v])), .val (.int c), .non, .non] := by
  let g : D → D := fun d => match d with
    | .int a => .int (a.fdiv c)
    | _ => .non
  have e : L [u.fdiv c, v.fdiv c] = (L [u, v]).map g := rfl
  rw [e]
  refine lcE_map (g := g) (ds := L [u, v]) rfl (show 2 ≤ 90000 by decide) rfl rfl fun d hd => ?_
  obtain ⟨a, _, ea⟩ := List.mem_map.mp hd
  subst ea
  have f := fdivD_z (x := a) hc (sc.mono (by omega))
  refine ⟨[s0, s1, s2, .val (.lst (L [u, v])), .val (.int c), .non, .val (.int a)], [s0, s1, s2, .val (.lst (L [u, v])), .val (.int c), .non, .val (.int a)], rfl, ?_, rfl⟩
  simp only [defF_ap, lentS, List.map_cons, List.map_nil, List.nil_append, List.append_nil, List.length_cons, List.length_nil, if_true, if_false, Bool.false_eq_true, List.cons_append, Nat.reduceSub, Nat.reduceAdd, Nat.reduceEqDiff, List.replicate, sq_ap, asg_ap, dropS_ap, retS_ap, retN_ap, ifS_ap, ifE_ap, asB_ap, andB_ap, orB_ap, notB_ap, thw_ap, frz_ap, cst_ap, var_ap, move_ap, op1_ap, op2_ap, opN_ap, opV1_ap, opV2_ap, callF_ap, aCons_ap, aNil_ap, tupE_ap, lstE_ap, peek_ap, Option.bind_some, data_val, data_own, data_inp, of_some, bind_ok, stm_ok, seq_nx, seq_rt, skp_ap, fgt_ap, List.foldl_cons, List.foldl_nil, List.set_cons_succ, List.set_cons_zero, List.getElem?_cons_zero, List.getElem?_cons_succ, Bool.not_true, Bool.not_false, finF_rt0, finF_nx0, finF_exc0, finF_rt1, finF_nx1, eqD_i, neD_i, ltD_i, leD_i, gtD_i, geD_i, addD_i, subD_i, negD_i, intD_i, notD_b, lenD_l, lenD_t, tupleD_l, items_l, items_t, isInst_ap, itE_ap, rng1_ap, rng2_ap, tgN_ap, tgT_ap, tgs_nil, tgs_cons, sm1, sm2, sm3, sm4, sm5, bind_exc, stm_exc, seq_exc, decide_true, decide_false, Bool.true_or, Bool.false_or, nn_i, nn_t, nn_n, nn_s, ni_i, ni_t, ni_n, ni_s, makeE_ap, methE_ap, propE_ap, clRes_ret, clRes_exc, prRes_ret, Int.cast_ofNat_Int, Int.natCast_zero, Int.natCast_one, Int.reduceEq, Int.reduceLT, Int.reduceLE, eqD_b, neD_b, truV_ap, truD_b, f]
  rfl
end HT

set_option Elab.async false
set_option linter.all false
set_option maxRecDepth 100000
set_option maxHeartbeats 4000000
/-! K90Q1: the flat between two whole points, whole. -/
namespace HT
open PySem PySem.Spec PyProof.Rows L2 HM
theorem from_ap {u v : Int} {b : Fq} (h : u ≠ 0 ∨ v ≠ 0) (su : Sz 50 u) (sv : Sz 50 v) (sb : SF 95 b) : ∃ d1 d2 c : Int, f_flat_from none [ipt u v, fr b] = .ret (.own (flD [d1, d2] (mulF b (nrm 1 c)))) none ∧
    u = c * d1 ∧ v = c * d2 ∧ c ≠ 0 ∧ gc d1 d2 = 1 ∧ comF [d1, d2] = 1 ∧ Sz 50 c ∧ Sz 50 d1 ∧ Sz 50 d2 := by
  obtain ⟨d1, d2, e1, e2, hc, hg, h1, ha⟩ := dir_of h
  have ec := (com_ap (as := [u, v])).2
  obtain ⟨c, ecc⟩ : ∃ c, c = comF [u, v] := ⟨_, rfl⟩
  rw [← ecc] at e1 e2 hc ha ec
  have sc : Sz 50 c := by
    rcases h with z | z
    · have : Sz 50 (gc v u) := gc_sz z su
      rw [gc_comm] at this
      unfold Sz at *
      omega
    · have : Sz 50 (gc u v) := gc_sz z sv
      unfold Sz at *
      omega
  have f1 : u.fdiv c = d1 := by rw [e1, Int.mul_fdiv_cancel_left _ hc]
  have f2 : v.fdiv c = d2 := by rw [e2, Int.mul_fdiv_cancel_left _ hc]
  have sd : ∀ {u d : Int}, Sz 50 u → u = c * d → Sz 50 d := fun {u d} h e => by
    unfold Sz at *
    rw [e, Int.natAbs_mul] at h
    have : d.natAbs ≤ c.natAbs * d.natAbs := Nat.le_mul_of_pos_left _ (by omega)
    omega
  have s1 : Sz 1 1 := (by decide : (1 : Int).natAbs < 2 ^ 1)
  have cl := common_low_ap (u := u) (v := v)
  have wl := who_lc (u := u) (v := v) (b := fr b) (su.mono (by omega)) (sv.mono (by omega))
  have dl := fun s0 s1 s2 => dir_lc (u := u) (v := v) (c := c) (s0 := s0) (s1 := s1) (s2 := s2) hc (sc.mono (by omega))
  rw [f1, f2] at dl
  have lo := low_ap (p := 1) hc (sc.mono (by omega))
  have sn : SF 50 (nrm 1 c) := nrm_SF hc (s1.mono (by omega)) sc
  have ti := times_ap (a := b) (b := nrm 1 c) (sb.mono (by omega)) (sn.mono (by omega))
  have co : Can (mulF b (nrm 1 c)) := nrm_can (den_ne sb sn)
  have fa := flat_ap (as := [d1, d2]) (o := mulF b (nrm 1 c)) (show 1 ≤ 2 by decide) (show 2 ≤ 3 by decide) h1 co
  refine ⟨d1, d2, c, ?_, e1, e2, hc, hg, h1, sc, sd su e1, sd sv e2⟩
  simp only [defF_ap, lentS, List.map_cons, List.map_nil, List.nil_append, List.append_nil, List.length_cons, List.length_nil, if_true, if_false, Bool.false_eq_true, List.cons_append, Nat.reduceSub, Nat.reduceAdd, Nat.reduceEqDiff, List.replicate, sq_ap, asg_ap, dropS_ap, retS_ap, retN_ap, ifS_ap, ifE_ap, asB_ap, andB_ap, orB_ap, notB_ap, thw_ap, frz_ap, cst_ap, var_ap, move_ap, op1_ap, op2_ap, opN_ap, opV1_ap, opV2_ap, callF_ap, aCons_ap, aNil_ap, tupE_ap, lstE_ap, peek_ap, Option.bind_some, data_val, data_own, data_inp, of_some, bind_ok, stm_ok, seq_nx, seq_rt, skp_ap, fgt_ap, List.foldl_cons, List.foldl_nil, List.set_cons_succ, List.set_cons_zero, List.getElem?_cons_zero, List.getElem?_cons_succ, Bool.not_true, Bool.not_false, finF_rt0, finF_nx0, finF_exc0, finF_rt1, finF_nx1, eqD_i, neD_i, ltD_i, leD_i, gtD_i, geD_i, addD_i, subD_i, negD_i, intD_i, notD_b, lenD_l, lenD_t, tupleD_l, items_l, items_t, isInst_ap, itE_ap, rng1_ap, rng2_ap, tgN_ap, tgT_ap, tgs_nil, tgs_cons, sm1, sm2, sm3, sm4, sm5, bind_exc, stm_exc, seq_exc, decide_true, decide_false, Bool.true_or, Bool.false_or, nn_i, nn_t, nn_n, nn_s, ni_i, ni_t, ni_n, ni_s, makeE_ap, methE_ap, propE_ap, clRes_ret, clRes_exc, prRes_ret, Int.cast_ofNat_Int, Int.natCast_zero, Int.natCast_one, Int.reduceEq, Int.reduceLT, Int.reduceLE, eqD_b, neD_b, truV_ap, truD_b, f_flat_from, m_flat_from, cl, wl, ec, dl, lo, ti, fa, mkRes_fl]
theorem dotw {x y : Int} : dotF [(x, 1), (y, 1)] [(x, 1), (y, 1)] = (x * x + y * y, 1) := by
  have e : dotS ([(x, 1), (y, 1)].zip [(x, 1), (y, 1)]) 0 1 = (0 + x * x + y * y, 1) := rfl
  unfold dotF
  rw [e]
  show nrm (0 + x * x + y * y) 1 = _
  rw [nrm_one, Int.zero_add]
theorem squared_ap {x y : Int} (sx : Sz 45 x) (sy : Sz 45 y) : f_squared none [ipt x y] = .ret (.val (fr (x * x + y * y, 1))) none := by
  have d := (dot_ap (d := ipt x y) (e := ipt x y) (p := [(x, 1), (y, 1)]) (q := [(x, 1), (y, 1)]) (k := 45) (.inr rfl) rfl (SFw2 sx sy (by omega)) (SFw2 sx sy (by omega)) (show 2 ≤ 3 by decide) (by omega)).1
  rw [dotw] at d
  simp only [defF_ap, lentS, List.map_cons, List.map_nil, List.nil_append, List.append_nil, List.length_cons, List.length_nil, if_true, if_false, Bool.false_eq_true, List.cons_append, Nat.reduceSub, Nat.reduceAdd, Nat.reduceEqDiff, List.replicate, sq_ap, asg_ap, dropS_ap, retS_ap, retN_ap, ifS_ap, ifE_ap, asB_ap, andB_ap, orB_ap, notB_ap, thw_ap, frz_ap, cst_ap, var_ap, move_ap, op1_ap, op2_ap, opN_ap, opV1_ap, opV2_ap, callF_ap, aCons_ap, aNil_ap, tupE_ap, lstE_ap, peek_ap, Option.bind_some, data_val, data_own, data_inp, of_some, bind_ok, stm_ok, seq_nx, seq_rt, skp_ap, fgt_ap, List.foldl_cons, List.foldl_nil, List.set_cons_succ, List.set_cons_zero, List.getElem?_cons_zero, List.getElem?_cons_succ, Bool.not_true, Bool.not_false, finF_rt0, finF_nx0, finF_exc0, finF_rt1, finF_nx1, eqD_i, neD_i, ltD_i, leD_i, gtD_i, geD_i, addD_i, subD_i, negD_i, intD_i, notD_b, lenD_l, lenD_t, tupleD_l, items_l, items_t, isInst_ap, itE_ap, rng1_ap, rng2_ap, tgN_ap, tgT_ap, tgs_nil, tgs_cons, sm1, sm2, sm3, sm4, sm5, bind_exc, stm_exc, seq_exc, decide_true, decide_false, Bool.true_or, Bool.false_or, nn_i, nn_t, nn_n, nn_s, ni_i, ni_t, ni_n, ni_s, makeE_ap, methE_ap, propE_ap, clRes_ret, clRes_exc, prRes_ret, Int.cast_ofNat_Int, Int.natCast_zero, Int.natCast_one, Int.reduceEq, Int.reduceLT, Int.reduceLE, eqD_b, neD_b, truV_ap, truD_b, f_squared, m_squared, d]
/-- the flat between two whole points -/
theorem betw_ap {x y z w : Int} (sx : Sz 45 x) (sy : Sz 45 y) (sz : Sz 45 z) (sw : Sz 45 w) (h : x ≠ z ∨ y ≠ w) : ∃ (d1 d2 c : Int) (o : Fq), f_between none [ipt x y, ipt z w] = .ret (.own (flD [d1, d2] o)) none ∧
    x - z = c * d1 ∧ y - w = c * d2 ∧ c ≠ 0 ∧ gc d1 d2 = 1 ∧ comF [d1, d2] = 1 ∧ Sz 50 d1 ∧ Sz 50 d2 ∧ SF 150 o ∧ Can o ∧ vq o * (c : Rat) * 2 = ((x * x + y * y - (z * z + w * w) : Int) : Rat) := by
  have q1 := squared_ap sx sy
  have q2 := squared_ap sz sw
  have tk := taken_ap sx sy sz sw
  have s1 : Sz 91 (x * x + y * y) := (sx.mul sx).add (sy.mul sy)
  have s2 : Sz 91 (z * z + w * w) := (sz.mul sz).add (sw.mul sw)
  have m := minus_ap (a := (x * x + y * y, 1)) (b := (z * z + w * w, 1)) ((SFw s1 (by omega)).mono (by omega)) ((SFw s2 (by omega)).mono (by omega))
  rw [subw] at m
  have s3 : SF 92 (x * x + y * y - (z * z + w * w), 1) := SFw (s1.sub s2) (by omega)
  have h2 : SF 2 (1, 2) := ⟨(by decide : (0 : Int) < 2), (by decide : (1 : Int).natAbs < 2 ^ 2), (by decide : (2 : Int).natAbs < 2 ^ 2)⟩
  have t := times_ap (a := (x * x + y * y - (z * z + w * w), 1)) (b := (1, 2)) (s3.mono (by omega)) (h2.mono (by omega))
  have sb : SF 94 (mulF (x * x + y * y - (z * z + w * w), 1) (1, 2)) := mulF_SF s3 h2
  obtain ⟨d1, d2, c, k1, k2, k3, k4, k5, k6, k7, k8, k9⟩ := from_ap (u := x - z) (v := y - w) (b := mulF (x * x + y * y - (z * z + w * w), 1) (1, 2)) (by omega) ((sx.sub sz).mono (by omega)) ((sy.sub sw).mono (by omega)) (sb.mono (by omega))
  have ip := point_ap (s := 0) (p := [(x, 1), (y, 1)]) CanPw (show 1 ≤ 2 by decide) (show 2 ≤ 3 by decide) (.inl rfl)
  have ip : f_is_point none [ipt x y, .int 0] = .ret (.val (.bl true)) none := ip
  have ck := check_ap (s := 2) (w := 1) (p := [(z, 1), (w, 1)]) CanPw (show 1 ≤ 2 by decide) (show 2 ≤ 3 by decide) rfl
  have ck : f_check_point none [ipt z w, .int 2, .int 1] = .ret (.val .non) none := ck
  have ln : lenD (ipt x y) = some (.int 2) := rfl
  have eq : eqD (ipt x y) (ipt z w) = some (.bl false) := by
    have := eqD_pt [(x, 1), (y, 1)] [(z, 1), (w, 1)]
    rw [decide_eq_false (by simp; omega)] at this
    exact this
  refine ⟨d1, d2, c, mulF (mulF (x * x + y * y - (z * z + w * w), 1) (1, 2)) (nrm 1 c), ?_, k2, k3, k4, k5, k6, k8, k9, ?_, ?_, ?_⟩
  · simp only [defF_ap, lentS, List.map_cons, List.map_nil, List.nil_append, List.append_nil, List.length_cons, List.length_nil, if_true, if_false, Bool.false_eq_true, List.cons_append, Nat.reduceSub, Nat.reduceAdd, Nat.reduceEqDiff, List.replicate, sq_ap, asg_ap, dropS_ap, retS_ap, retN_ap, ifS_ap, ifE_ap, asB_ap, andB_ap, orB_ap, notB_ap, thw_ap, frz_ap, cst_ap, var_ap, move_ap, op1_ap, op2_ap, opN_ap, opV1_ap, opV2_ap, callF_ap, aCons_ap, aNil_ap, tupE_ap, lstE_ap, peek_ap, Option.bind_some, data_val, data_own, data_inp, of_some, bind_ok, stm_ok, seq_nx, seq_rt, skp_ap, fgt_ap, List.foldl_cons, List.foldl_nil, List.set_cons_succ, List.set_cons_zero, List.getElem?_cons_zero, List.getElem?_cons_succ, Bool.not_true, Bool.not_false, finF_rt0, finF_nx0, finF_exc0, finF_rt1, finF_nx1, eqD_i, neD_i, ltD_i, leD_i, gtD_i, geD_i, addD_i, subD_i, negD_i, intD_i, notD_b, lenD_l, lenD_t, tupleD_l, items_l, items_t, isInst_ap, itE_ap, rng1_ap, rng2_ap, tgN_ap, tgT_ap, tgs_nil, tgs_cons, sm1, sm2, sm3, sm4, sm5, bind_exc, stm_exc, seq_exc, decide_true, decide_false, Bool.true_or, Bool.false_or, nn_i, nn_t, nn_n, nn_s, ni_i, ni_t, ni_n, ni_s, makeE_ap, methE_ap, propE_ap, clRes_ret, clRes_exc, prRes_ret, Int.cast_ofNat_Int, Int.natCast_zero, Int.natCast_one, Int.reduceEq, Int.reduceLT, Int.reduceLE, eqD_b, neD_b, truV_ap, truD_b, f_between, m_between, ip, ln, ck, eq, q1, q2, tk, m, frm, t, k1]
  · have sn : SF 50 (nrm 1 c) := nrm_SF k4 ((by decide : (1 : Int).natAbs < 2 ^ 1) |> fun (h : Sz 1 1) => h.mono (by omega)) k7
    exact (mulF_SF sb sn).mono (by omega)
  · exact nrm_can (den_ne sb (nrm_SF (k := 50) k4 ((by decide : (1 : Int).natAbs < 2 ^ 1) |> fun (h : Sz 1 1) => h.mono (by omega)) k7))
  · rw [vq_mul sb.1 (nrm_can k4).1, vq_mul s3.1 h2.1, vq_one, vq_nrm k4]
    have cz := rz k4
    have e2 : vq (1, 2) = 1 / 2 := by
      unfold vq
      push_cast
      rfl
    rw [e2]
    push_cast
    generalize (c : Rat) = C at *
    grind
end HT

set_option Elab.async false
set_option linter.all false
set_option maxRecDepth 100000
set_option maxHeartbeats 4000000
/-! K90Q2: the image in a line, by the program and by the law. -/
namespace HT
open PySem PySem.Spec PyProof.Rows L2 HM
section
variable {a b : Int} {o x y : Fq}
def m1F (a b : Int) (o x y : Fq) : Fq := addF x (mulF (facF [a, b] o [x, y]) (a, 1))
def m2F (a b : Int) (o x y : Fq) : Fq := addF y (mulF (facF [a, b] o [x, y]) (b, 1))
theorem mir_two : mirF [a, b] o [x, y] = [m1F a b o x y, m2F a b o x y] := rfl
/-- how far: twice the height by the square of the length -/
def shR (a b : Int) (o x y : Fq) : Rat := 2 * (vq o - ((a : Rat) * vq x + (b : Rat) * vq y)) / ((a : Rat) * a + (b : Rat) * b)
theorem sqs2 : sqs [a, b] = a * a + b * b := by
  show a * a + (b * b + 0) = _
  omega
theorem n_pos (h : gc a b = 1) : 0 < a * a + b * b := by
  have : a ≠ 0 ∨ b ≠ 0 := by
    by_cases z : a = 0
    · by_cases w : b = 0
      · subst z w
        exact absurd h (by decide)
      · exact .inr w
    · exact .inl z
  have sq : ∀ x : Int, x ≠ 0 → 0 < x * x := fun x hx => by
    rcases Int.lt_or_le x 0 with q | q
    · have := Int.mul_pos (show 0 < -x by omega) (show 0 < -x by omega)
      rw [Int.neg_mul_neg] at this
      exact this
    · exact Int.mul_pos (by omega) (by omega)
  have nn : ∀ x : Int, 0 ≤ x * x := fun x => by
    by_cases z : x = 0
    · subst z
      exact Int.le_refl _
    · have := sq x z
      omega
  have h1 := nn a
  have h2 := nn b
  rcases this with z | z
  · have := sq a z
    omega
  · have := sq b z
    omega
theorem rn_ne (h : 0 < a * a + b * b) : (a : Rat) * a + (b : Rat) * b ≠ 0 := by
  have := rz (show a * a + b * b ≠ 0 by omega)
  push_cast at this
  exact this
theorem hd2 {x y : Fq} {P : Fq → Prop} (h1 : P x) (h2 : P y) : ∀ a ∈ ([x, y] : Pt), P a := fun a ha => by
  rcases List.mem_cons.mp ha with z | z
  · rw [z]
    exact h1
  · rw [List.mem_singleton.mp z]
    exact h2
theorem hdi {x y : Int} {P : Int → Prop} (h1 : P x) (h2 : P y) : ∀ a ∈ [x, y], P a := fun a ha => by
  rcases List.mem_cons.mp ha with z | z
  · rw [z]
    exact h1
  · rw [List.mem_singleton.mp z]
    exact h2
theorem fac_val (hn : 0 < a * a + b * b) (ho : 0 < o.2) (hx : 0 < x.2) (hy : 0 < y.2) : vq (facF [a, b] o [x, y]) = shR a b o x y ∧ 0 < (facF [a, b] o [x, y]).2 := by
  have w : ∀ z ∈ wh [a, b], 0 < z.2 := hd2 (P := fun z => 0 < z.2) (show (0 : Int) < 1 by decide) (show (0 : Int) < 1 by decide)
  have p : ∀ z ∈ ([x, y] : Pt), 0 < z.2 := hd2 (P := fun z => 0 < z.2) hx hy
  have dv := dot_val w p
  have dp : 0 < (dotF (wh [a, b]) [x, y]).2 := (nrm_can (dotS_val ((wh [a, b]).zip [x, y]) 0 1 (by decide) fun z hm => by
      obtain ⟨m1, m2⟩ := List.of_mem_zip (show (z.1, z.2) ∈ (wh [a, b]).zip [x, y] from hm)
      exact ⟨w _ m1, p _ m2⟩).1).1
  have er : dotR ((wh [a, b]).zip [x, y]) = vq (a, 1) * vq x + (vq (b, 1) * vq y + 0) := rfl
  rw [er, vq_one, vq_one] at dv
  have nn := rn_ne hn
  have s2 := sqs2 (a := a) (b := b)
  have n0 : sqs [a, b] ≠ 0 := by omega
  have hp : 0 < (heightF [a, b] o [x, y]).2 := (nrm_can (Int.mul_ne_zero (by omega) (by omega))).1
  refine ⟨?_, (nrm_can (Int.mul_ne_zero (by omega) (by have := (nrm_can (p := 2) n0).1; omega))).1⟩
  unfold facF
  rw [vq_mul hp (nrm_can n0).1, vq_nrm n0]
  unfold heightF
  rw [vq_sub ho dp, dv, s2]
  unfold shR
  push_cast
  generalize (a : Rat) = A at *
  generalize (b : Rat) = B at *
  generalize vq o = O at *
  generalize vq x = X at *
  generalize vq y = Y at *
  grind
theorem m1_val (hn : 0 < a * a + b * b) (ho : 0 < o.2) (hx : 0 < x.2) (hy : 0 < y.2) : vq (m1F a b o x y) = vq x + shR a b o x y * a ∧ vq (m2F a b o x y) = vq y + shR a b o x y * b := by
  obtain ⟨f1, f2⟩ := fac_val hn ho hx hy
  have w1 : (0 : Int) < ((a, 1) : Fq).2 := (by decide : (0 : Int) < 1)
  have w2 : (0 : Int) < ((b, 1) : Fq).2 := (by decide : (0 : Int) < 1)
  have p1 : 0 < (mulF (facF [a, b] o [x, y]) (a, 1)).2 := (nrm_can (Int.mul_ne_zero (by omega) (by omega))).1
  have p2 : 0 < (mulF (facF [a, b] o [x, y]) (b, 1)).2 := (nrm_can (Int.mul_ne_zero (by omega) (by omega))).1
  unfold m1F m2F
  rw [vq_add hx p1, vq_add hy p2, vq_mul f2 w1, vq_mul f2 w2, f1, vq_one, vq_one]
  exact ⟨rfl, rfl⟩
theorem m_can (hn : 0 < a * a + b * b) (ho : 0 < o.2) (hx : 0 < x.2) (hy : 0 < y.2) : Can (m1F a b o x y) ∧ Can (m2F a b o x y) := by
  obtain ⟨f1, f2⟩ := fac_val hn ho hx hy
  have p1 : 0 < (mulF (facF [a, b] o [x, y]) (a, 1)).2 := (nrm_can (Int.mul_ne_zero (by omega) (show (1 : Int) ≠ 0 by decide))).1
  have p2 : 0 < (mulF (facF [a, b] o [x, y]) (b, 1)).2 := (nrm_can (Int.mul_ne_zero (by omega) (show (1 : Int) ≠ 0 by decide))).1
  exact ⟨nrm_can (Int.mul_ne_zero (by omega) (by omega)), nrm_can (Int.mul_ne_zero (by omega) (by omega))⟩
/-! ### whole_mirrored -/
def whP (x y : Fq) : Bool := decide (x.2 = 1) && decide (y.2 = 1)
theorem pt0 : itemD (pt [x, y]) (.int 0) = some (fr x) := rfl
theorem pt1 : itemD (pt [x, y]) (.int 1) = some (fr y) := rfl
theorem iswp_ap : f__is_whole_point none [pt [x, y]] = .ret (.val (.bl (whP x y))) none := by
  unfold whP
  by_cases h : x.2 = 1
  · have d : decide (x.2 = 1) = true := decide_eq_true h
    simp only [defF_ap, lentS, List.map_cons, List.map_nil, List.nil_append, List.append_nil, List.length_cons, List.length_nil, if_true, if_false, Bool.false_eq_true, List.cons_append, Nat.reduceSub, Nat.reduceAdd, Nat.reduceEqDiff, List.replicate, sq_ap, asg_ap, dropS_ap, retS_ap, retN_ap, ifS_ap, ifE_ap, asB_ap, andB_ap, orB_ap, notB_ap, thw_ap, frz_ap, cst_ap, var_ap, move_ap, op1_ap, op2_ap, opN_ap, opV1_ap, opV2_ap, callF_ap, aCons_ap, aNil_ap, tupE_ap, lstE_ap, peek_ap, Option.bind_some, data_val, data_own, data_inp, of_some, bind_ok, stm_ok, seq_nx, seq_rt, skp_ap, fgt_ap, List.foldl_cons, List.foldl_nil, List.set_cons_succ, List.set_cons_zero, List.getElem?_cons_zero, List.getElem?_cons_succ, Bool.not_true, Bool.not_false, finF_rt0, finF_nx0, finF_exc0, finF_rt1, finF_nx1, eqD_i, neD_i, ltD_i, leD_i, gtD_i, geD_i, addD_i, subD_i, negD_i, intD_i, notD_b, lenD_l, lenD_t, tupleD_l, items_l, items_t, isInst_ap, itE_ap, rng1_ap, rng2_ap, tgN_ap, tgT_ap, tgs_nil, tgs_cons, sm1, sm2, sm3, sm4, sm5, bind_exc, stm_exc, seq_exc, decide_true, decide_false, Bool.true_or, Bool.false_or, nn_i, nn_t, nn_n, nn_s, ni_i, ni_t, ni_n, ni_s, makeE_ap, methE_ap, propE_ap, clRes_ret, clRes_exc, prRes_ret, Int.cast_ofNat_Int, Int.natCast_zero, Int.natCast_one, Int.reduceEq, Int.reduceLT, Int.reduceLE, eqD_b, neD_b, truV_ap, truD_b, f__is_whole_point, m__is_whole_point, pt0, pt1, it1, andV_ap, d, Bool.true_and]
  · have d : decide (x.2 = 1) = false := decide_eq_false h
    simp only [defF_ap, lentS, List.map_cons, List.map_nil, List.nil_append, List.append_nil, List.length_cons, List.length_nil, if_true, if_false, Bool.false_eq_true, List.cons_append, Nat.reduceSub, Nat.reduceAdd, Nat.reduceEqDiff, List.replicate, sq_ap, asg_ap, dropS_ap, retS_ap, retN_ap, ifS_ap, ifE_ap, asB_ap, andB_ap, orB_ap, notB_ap, thw_ap, frz_ap, cst_ap, var_ap, move_ap, op1_ap, op2_ap, opN_ap, opV1_ap, opV2_ap, callF_ap, aCons_ap, aNil_ap, tupE_ap, lstE_ap, peek_ap, Option.bind_some, data_val, data_own, data_inp, of_some, bind_ok, stm_ok, seq_nx, seq_rt, skp_ap, fgt_ap, List.foldl_cons, List.foldl_nil, List.set_cons_succ, List.set_cons_zero, List.getElem?_cons_zero, List.getElem?_cons_succ, Bool.not_true, Bool.not_false, finF_rt0, finF_nx0, finF_exc0, finF_rt1, finF_nx1, eqD_i, neD_i, ltD_i, leD_i, gtD_i, geD_i, addD_i, subD_i, negD_i, intD_i, notD_b, lenD_l, lenD_t, tupleD_l, items_l, items_t, isInst_ap, itE_ap, rng1_ap, rng2_ap, tgN_ap, tgT_ap, tgs_nil, tgs_cons, sm1, sm2, sm3, sm4, sm5, bind_exc, stm_exc, seq_exc, decide_true, decide_false, Bool.true_or, Bool.false_or, nn_i, nn_t, nn_n, nn_s, ni_i, ni_t, ni_n, ni_s, makeE_ap, methE_ap, propE_ap, clRes_ret, clRes_exc, prRes_ret, Int.cast_ofNat_Int, Int.natCast_zero, Int.natCast_one, Int.reduceEq, Int.reduceLT, Int.reduceLE, eqD_b, neD_b, truV_ap, truD_b, f__is_whole_point, m__is_whole_point, pt0, pt1, it1, andV_ap, d, Bool.false_and]
theorem liswp_ap : f__law_is_whole none [pt [x, y]] = .ret (.val (.bl (whP x y))) none := iswp_ap
theorem wm_ap (hg : gc a b = 1) (sa : Sz 50 a) (sb : Sz 50 b) (so : SF 150 o) (sx : SF 300 x) (sy : SF 300 y) (cx : Can x) (cy : Can y) :
    f_whole_mirrored none [flD [a, b] o, pt [x, y]] = .ret (.val (if (whP x y && whP (m1F a b o x y) (m2F a b o x y)) = true then pt [m1F a b o x y, m2F a b o x y] else .non)) none := by
  have hn := n_pos hg
  have p := plane_ap
  have fs : fldD ["Flat"] "size" (flD [a, b] o) = some (.int 2) := fld_size
  have cp : CanP [x, y] := hd2 cx cy
  have ck := check_ap (s := 2) (w := 0) (p := [x, y]) cp (show 1 ≤ 2 by decide) (show 2 ≤ 3 by decide) rfl
  have ck : f_check_point none [pt [x, y], .int 2, .int 0] = .ret (.val .non) none := ck
  have fm := flmir_ap (as := [a, b]) (o := o) (p := [x, y]) (k := 300) (hdi (P := Sz 300) (sa.mono (by omega)) (sb.mono (by omega))) (hd2 (P := SF 300) sx sy) cp (so.mono (by omega)) (by omega) (by omega) (show 1 ≤ 2 by decide) (show 2 ≤ 3 by decide) rfl (by rw [sqs2]; omega)
  rw [mir_two] at fm
  have ok : okM "Flat" "mirrored" (flD [a, b] o) = true := rfl
  have i1 := iswp_ap (x := x) (y := y)
  have i2 := iswp_ap (x := m1F a b o x y) (y := m2F a b o x y)
  cases h1 : whP x y with
  | false =>
    rw [h1] at i1
    simp only [defF_ap, lentS, List.map_cons, List.map_nil, List.nil_append, List.append_nil, List.length_cons, List.length_nil, if_true, if_false, Bool.false_eq_true, List.cons_append, Nat.reduceSub, Nat.reduceAdd, Nat.reduceEqDiff, List.replicate, sq_ap, asg_ap, dropS_ap, retS_ap, retN_ap, ifS_ap, ifE_ap, asB_ap, andB_ap, orB_ap, notB_ap, thw_ap, frz_ap, cst_ap, var_ap, move_ap, op1_ap, op2_ap, opN_ap, opV1_ap, opV2_ap, callF_ap, aCons_ap, aNil_ap, tupE_ap, lstE_ap, peek_ap, Option.bind_some, data_val, data_own, data_inp, of_some, bind_ok, stm_ok, seq_nx, seq_rt, skp_ap, fgt_ap, List.foldl_cons, List.foldl_nil, List.set_cons_succ, List.set_cons_zero, List.getElem?_cons_zero, List.getElem?_cons_succ, Bool.not_true, Bool.not_false, finF_rt0, finF_nx0, finF_exc0, finF_rt1, finF_nx1, eqD_i, neD_i, ltD_i, leD_i, gtD_i, geD_i, addD_i, subD_i, negD_i, intD_i, notD_b, lenD_l, lenD_t, tupleD_l, items_l, items_t, isInst_ap, itE_ap, rng1_ap, rng2_ap, tgN_ap, tgT_ap, tgs_nil, tgs_cons, sm1, sm2, sm3, sm4, sm5, bind_exc, stm_exc, seq_exc, decide_true, decide_false, Bool.true_or, Bool.false_or, nn_i, nn_t, nn_n, nn_s, ni_i, ni_t, ni_n, ni_s, makeE_ap, methE_ap, propE_ap, clRes_ret, clRes_exc, prRes_ret, Int.cast_ofNat_Int, Int.natCast_zero, Int.natCast_one, Int.reduceEq, Int.reduceLT, Int.reduceLE, eqD_b, neD_b, truV_ap, truD_b, f_whole_mirrored, m_whole_mirrored, fs, p, ck, ok, fm, i1, Bool.false_and]
  | true =>
    rw [h1] at i1
    cases h2 : whP (m1F a b o x y) (m2F a b o x y) with
    | false =>
      rw [h2] at i2
      simp only [defF_ap, lentS, List.map_cons, List.map_nil, List.nil_append, List.append_nil, List.length_cons, List.length_nil, if_true, if_false, Bool.false_eq_true, List.cons_append, Nat.reduceSub, Nat.reduceAdd, Nat.reduceEqDiff, List.replicate, sq_ap, asg_ap, dropS_ap, retS_ap, retN_ap, ifS_ap, ifE_ap, asB_ap, andB_ap, orB_ap, notB_ap, thw_ap, frz_ap, cst_ap, var_ap, move_ap, op1_ap, op2_ap, opN_ap, opV1_ap, opV2_ap, callF_ap, aCons_ap, aNil_ap, tupE_ap, lstE_ap, peek_ap, Option.bind_some, data_val, data_own, data_inp, of_some, bind_ok, stm_ok, seq_nx, seq_rt, skp_ap, fgt_ap, List.foldl_cons, List.foldl_nil, List.set_cons_succ, List.set_cons_zero, List.getElem?_cons_zero, List.getElem?_cons_succ, Bool.not_true, Bool.not_false, finF_rt0, finF_nx0, finF_exc0, finF_rt1, finF_nx1, eqD_i, neD_i, ltD_i, leD_i, gtD_i, geD_i, addD_i, subD_i, negD_i, intD_i, notD_b, lenD_l, lenD_t, tupleD_l, items_l, items_t, isInst_ap, itE_ap, rng1_ap, rng2_ap, tgN_ap, tgT_ap, tgs_nil, tgs_cons, sm1, sm2, sm3, sm4, sm5, bind_exc, stm_exc, seq_exc, decide_true, decide_false, Bool.true_or, Bool.false_or, nn_i, nn_t, nn_n, nn_s, ni_i, ni_t, ni_n, ni_s, makeE_ap, methE_ap, propE_ap, clRes_ret, clRes_exc, prRes_ret, Int.cast_ofNat_Int, Int.natCast_zero, Int.natCast_one, Int.reduceEq, Int.reduceLT, Int.reduceLE, eqD_b, neD_b, truV_ap, truD_b, f_whole_mirrored, m_whole_mirrored, fs, p, ck, ok, fm, i1, i2, Bool.true_and]
    | true =>
      rw [h2] at i2
      simp only [defF_ap, lentS, List.map_cons, List.map_nil, List.nil_append, List.append_nil, List.length_cons, List.length_nil, if_true, if_false, Bool.false_eq_true, List.cons_append, Nat.reduceSub, Nat.reduceAdd, Nat.reduceEqDiff, List.replicate, sq_ap, asg_ap, dropS_ap, retS_ap, retN_ap, ifS_ap, ifE_ap, asB_ap, andB_ap, orB_ap, notB_ap, thw_ap, frz_ap, cst_ap, var_ap, move_ap, op1_ap, op2_ap, opN_ap, opV1_ap, opV2_ap, callF_ap, aCons_ap, aNil_ap, tupE_ap, lstE_ap, peek_ap, Option.bind_some, data_val, data_own, data_inp, of_some, bind_ok, stm_ok, seq_nx, seq_rt, skp_ap, fgt_ap, List.foldl_cons, List.foldl_nil, List.set_cons_succ, List.set_cons_zero, List.getElem?_cons_zero, List.getElem?_cons_succ, Bool.not_true, Bool.not_false, finF_rt0, finF_nx0, finF_exc0, finF_rt1, finF_nx1, eqD_i, neD_i, ltD_i, leD_i, gtD_i, geD_i, addD_i, subD_i, negD_i, intD_i, notD_b, lenD_l, lenD_t, tupleD_l, items_l, items_t, isInst_ap, itE_ap, rng1_ap, rng2_ap, tgN_ap, tgT_ap, tgs_nil, tgs_cons, sm1, sm2, sm3, sm4, sm5, bind_exc, stm_exc, seq_exc, decide_true, decide_false, Bool.true_or, Bool.false_or, nn_i, nn_t, nn_n, nn_s, ni_i, ni_t, ni_n, ni_s, makeE_ap, methE_ap, propE_ap, clRes_ret, clRes_exc, prRes_ret, Int.cast_ofNat_Int, Int.natCast_zero, Int.natCast_one, Int.reduceEq, Int.reduceLT, Int.reduceLE, eqD_b, neD_b, truV_ap, truD_b, f_whole_mirrored, m_whole_mirrored, fs, p, ck, ok, fm, i1, i2, Bool.true_and]
/-! ### the law's own -/
def flT (a b : Int) (o : Fq) : D := .tup [fr (a, b), fr o]
theorem fl0 : itemD (flT a b o) (.int 0) = some (fr (a, b)) := rfl
theorem fl1 : itemD (flT a b o) (.int 1) = some (fr o) := rfl
theorem ptl : lenD (pt [x, y]) = some (.int 2) := rfl
theorem rg2 : rng1D (.int 2) = some [.int 0, .int 1] := rng1_i (by decide)
def lhF (a b : Int) (o x y : Fq) : Fq := subF (subF o (mulF (a, 1) x)) (mulF (b, 1) y)
theorem lheight_ap (sa : Sz 50 a) (sb : Sz 50 b) (so : SF 150 o) (sx : SF 300 x) (sy : SF 300 y) : f__law_height none [flT a b o, pt [x, y]] = .ret (.val (fr (lhF a b o x y))) none ∧ SF 900 (lhF a b o x y) := by
  have wa : SF 50 (a, 1) := SFw sa (by omega)
  have wb : SF 50 (b, 1) := SFw sb (by omega)
  have t1 := ltimes_ap (a := (a, 1)) (b := x) (wa.mono (by omega)) (sx.mono (by omega))
  have t2 := ltimes_ap (a := (b, 1)) (b := y) (wb.mono (by omega)) (sy.mono (by omega))
  have q1 := mulF_SF wa sx
  have q2 := mulF_SF wb sy
  have u1 := lminus_ap (so.mono (k := 4400) (by omega)) (q1.mono (k := 4400) (by omega))
  have r1 := subF_SF so q1
  have u2 := lminus_ap (r1.mono (k := 4400) (by omega)) (q2.mono (k := 4400) (by omega))
  refine ⟨?_, (subF_SF r1 q2).mono (by omega)⟩
  simp only [defF_ap, lentS, List.map_cons, List.map_nil, List.nil_append, List.append_nil, List.length_cons, List.length_nil, if_true, if_false, Bool.false_eq_true, List.cons_append, Nat.reduceSub, Nat.reduceAdd, Nat.reduceEqDiff, List.replicate, sq_ap, asg_ap, dropS_ap, retS_ap, retN_ap, ifS_ap, ifE_ap, asB_ap, andB_ap, orB_ap, notB_ap, thw_ap, frz_ap, cst_ap, var_ap, move_ap, op1_ap, op2_ap, opN_ap, opV1_ap, opV2_ap, callF_ap, aCons_ap, aNil_ap, tupE_ap, lstE_ap, peek_ap, Option.bind_some, data_val, data_own, data_inp, of_some, bind_ok, stm_ok, seq_nx, seq_rt, skp_ap, fgt_ap, List.foldl_cons, List.foldl_nil, List.set_cons_succ, List.set_cons_zero, List.getElem?_cons_zero, List.getElem?_cons_succ, Bool.not_true, Bool.not_false, finF_rt0, finF_nx0, finF_exc0, finF_rt1, finF_nx1, eqD_i, neD_i, ltD_i, leD_i, gtD_i, geD_i, addD_i, subD_i, negD_i, intD_i, notD_b, lenD_l, lenD_t, tupleD_l, items_l, items_t, isInst_ap, itE_ap, rng1_ap, rng2_ap, tgN_ap, tgT_ap, tgs_nil, tgs_cons, sm1, sm2, sm3, sm4, sm5, bind_exc, stm_exc, seq_exc, decide_true, decide_false, Bool.true_or, Bool.false_or, nn_i, nn_t, nn_n, nn_s, ni_i, ni_t, ni_n, ni_s, makeE_ap, methE_ap, propE_ap, clRes_ret, clRes_exc, prRes_ret, Int.cast_ofNat_Int, Int.natCast_zero, Int.natCast_one, Int.reduceEq, Int.reduceLT, Int.reduceLE, eqD_b, neD_b, truV_ap, truD_b, f__law_height, m__law_height, fl0, fl1, ptl, rg2, forE_ap, forS_cons, forS_nil, p0__law_height, it0, it1, pt0, pt1, frm, t1, t2, u1, u2]
  rfl
end
end HT

set_option Elab.async false
set_option linter.all false
set_option maxRecDepth 100000
set_option maxHeartbeats 4000000
/-! K90Q3: the law's own image; due; points told. -/
namespace HT
open PySem PySem.Spec PyProof.Rows L2 HM
section
variable {a b : Int} {o x y : Fq}
def lsF (a b : Int) (o x y : Fq) : Fq := mulF (lhF a b o x y) (2, 1)
def l1F (a b : Int) (o x y : Fq) : Fq := addF x (nrm ((lsF a b o x y).1 * a) ((lsF a b o x y).2 * (0 + a * a + b * b)))
def l2F (a b : Int) (o x y : Fq) : Fq := addF y (nrm ((lsF a b o x y).1 * b) ((lsF a b o x y).2 * (0 + a * a + b * b)))
theorem l_eq (hn : 0 < a * a + b * b) (ho : 0 < o.2) (hx : 0 < x.2) (hy : 0 < y.2) : l1F a b o x y = m1F a b o x y ∧ l2F a b o x y = m2F a b o x y := by
  have q1 : 0 < (mulF (a, 1) x).2 := (nrm_can (Int.mul_ne_zero (show (1 : Int) ≠ 0 by decide) (by omega))).1
  have q2 : 0 < (mulF (b, 1) y).2 := (nrm_can (Int.mul_ne_zero (show (1 : Int) ≠ 0 by decide) (by omega))).1
  have q3 : 0 < (subF o (mulF (a, 1) x)).2 := (nrm_can (Int.mul_ne_zero (by omega) (by omega))).1
  have q4 : 0 < (lhF a b o x y).2 := (nrm_can (Int.mul_ne_zero (by omega) (by omega))).1
  have q5 : 0 < (lsF a b o x y).2 := (nrm_can (Int.mul_ne_zero (by omega) (show (1 : Int) ≠ 0 by decide))).1
  have o1 : (0 : Int) < ((a, 1) : Fq).2 := show (0 : Int) < 1 by decide
  have o2 : (0 : Int) < ((b, 1) : Fq).2 := show (0 : Int) < 1 by decide
  have o3 : (0 : Int) < ((2, 1) : Fq).2 := show (0 : Int) < 1 by decide
  have v : vq (lsF a b o x y) = 2 * (vq o - ((a : Rat) * vq x + (b : Rat) * vq y)) := by
    unfold lsF
    rw [vq_mul q4 o3]
    unfold lhF
    rw [vq_sub q3 q2, vq_sub ho q1, vq_mul o1 hx, vq_mul o2 hy, vq_one, vq_one, vq_one]
    push_cast
    grind
  have nn := rn_ne hn
  have v2 := rz (show (lsF a b o x y).2 ≠ 0 by omega)
  have n0 : (lsF a b o x y).2 * (0 + a * a + b * b) ≠ 0 := Int.mul_ne_zero (by omega) (by omega)
  have key : ∀ c : Int, vq (nrm ((lsF a b o x y).1 * c) ((lsF a b o x y).2 * (0 + a * a + b * b))) = shR a b o x y * c := fun c => by
    rw [vq_nrm n0]
    unfold shR
    rw [← v]
    unfold vq
    push_cast
    generalize ((lsF a b o x y).1 : Rat) = s1 at *
    generalize ((lsF a b o x y).2 : Rat) = s2 at *
    generalize (a : Rat) = A at *
    generalize (b : Rat) = B at *
    generalize (c : Rat) = C at *
    grind
  obtain ⟨c1, c2⟩ := m_can (a := a) (b := b) hn ho hx hy
  obtain ⟨w1, w2⟩ := m1_val (a := a) (b := b) hn ho hx hy
  have d : ∀ c : Int, 0 < (nrm ((lsF a b o x y).1 * c) ((lsF a b o x y).2 * (0 + a * a + b * b))).2 := fun c => (nrm_can n0).1
  constructor
  · refine vq_inj (nrm_can (Int.mul_ne_zero (by omega) (by have := d a; omega))) c1 ?_
    unfold l1F
    rw [vq_add hx (d a), key, w1]
  · refine vq_inj (nrm_can (Int.mul_ne_zero (by omega) (by have := d b; omega))) c2 ?_
    unfold l2F
    rw [vq_add hy (d b), key, w2]
theorem augS_nx {i : Nat} {gg : D → D → Option D} {f : EV} {ρ ρ1 : Rho} {a d z : D} (h : valAt i ρ = some a) (h1 : f ρ = .ok d ρ1) (h2 : gg a d = some z) : augS i gg f ρ = .nx (ρ1.set i (.val z)) := by
  rw [augS_ap, h, of_some, stm_ok, h1, stm_ok, h2, of_some, stm_ok]
theorem items_fr {a : Fq} : items (fr a) = some [.int a.1, .int a.2] := rfl
theorem lmir_ap (hg : gc a b = 1) (sa : Sz 50 a) (sb : Sz 50 b) (so : SF 150 o) (sx : SF 300 x) (sy : SF 300 y) : f__law_mirrored none [flT a b o, pt [x, y]] = .ret (.val (pt [m1F a b o x y, m2F a b o x y])) none := by
  have hn := n_pos hg
  obtain ⟨h1, h2⟩ := lheight_ap sa sb so sx sy
  have k2 : SF 2 (2, 1) := SFw (by decide : (2 : Int).natAbs < 2 ^ 2) (by omega)
  have t := ltimes_ap (a := lhF a b o x y) (b := (2, 1)) (h2.mono (by omega)) (k2.mono (by omega))
  have et : mulF (lhF a b o x y) (2, 1) = lsF a b o x y := rfl
  rw [et] at t
  have ss : SF 902 (lsF a b o x y) := mulF_SF h2 k2
  have sn : Sz 102 (0 + a * a + b * b) := by
    have := (sa.mul sa).add (sb.mul sb)
    have := this.mono (k := 102) (by omega)
    rw [Int.zero_add]
    exact this
  have m1 := mulD_z (sa.mono (k := 8900) (by omega)) (sa.mono (k := 8900) (by omega))
  have m2 := mulD_z (sb.mono (k := 8900) (by omega)) (sb.mono (k := 8900) (by omega))
  have m3 := mulD_z (ss.2.1.mono (k := 8900) (by omega)) (sa.mono (k := 8900) (by omega))
  have m4 := mulD_z (ss.2.1.mono (k := 8900) (by omega)) (sb.mono (k := 8900) (by omega))
  have m5 := mulD_z (ss.2.2.mono (k := 8900) (by omega)) (sn.mono (k := 8900) (by omega))
  have n0 : (lsF a b o x y).2 * (0 + a * a + b * b) ≠ 0 := Int.mul_ne_zero (by have := ss.1; omega) (by omega)
  have z1 := ss.2.1.mul sa
  have z2 := ss.2.1.mul sb
  have z3 := ss.2.2.mul sn
  have f1 := frac_ap n0 (z1.mono (k := 8900) (by omega)) (z3.mono (k := 8900) (by omega))
  have f2 := frac_ap n0 (z2.mono (k := 8900) (by omega)) (z3.mono (k := 8900) (by omega))
  have p1 := lplus_ap (a := x) (sx.mono (k := 4400) (by omega)) ((nrm_SF n0 (z1.mono (k := 1100) (by omega)) (z3.mono (k := 1100) (by omega))).mono (k := 4400) (by omega))
  have p2 := lplus_ap (a := y) (sy.mono (k := 4400) (by omega)) ((nrm_SF n0 (z2.mono (k := 1100) (by omega)) (z3.mono (k := 1100) (by omega))).mono (k := 4400) (by omega))
  obtain ⟨e1, e2⟩ := l_eq (a := a) (b := b) hn so.1 sx.1 sy.1
  unfold l1F at e1
  unfold l2F at e2
  rw [e1] at p1
  rw [e2] at p2
  have sm0 : small 0 = true := small_of (by omega)
  simp only [defF_ap, lentS, List.map_cons, List.map_nil, List.nil_append, List.append_nil, List.length_cons, List.length_nil, if_true, if_false, Bool.false_eq_true, List.cons_append, Nat.reduceSub, Nat.reduceAdd, Nat.reduceEqDiff, List.replicate, sq_ap, asg_ap, dropS_ap, retS_ap, retN_ap, ifS_ap, ifE_ap, asB_ap, andB_ap, orB_ap, notB_ap, thw_ap, frz_ap, cst_ap, var_ap, move_ap, op1_ap, op2_ap, opN_ap, opV1_ap, opV2_ap, callF_ap, aCons_ap, aNil_ap, tupE_ap, lstE_ap, peek_ap, Option.bind_some, data_val, data_own, data_inp, of_some, bind_ok, stm_ok, seq_nx, seq_rt, skp_ap, fgt_ap, List.foldl_cons, List.foldl_nil, List.set_cons_succ, List.set_cons_zero, List.getElem?_cons_zero, List.getElem?_cons_succ, Bool.not_true, Bool.not_false, finF_rt0, finF_nx0, finF_exc0, finF_rt1, finF_nx1, eqD_i, neD_i, ltD_i, leD_i, gtD_i, geD_i, addD_i, subD_i, negD_i, intD_i, notD_b, lenD_l, lenD_t, tupleD_l, items_l, items_t, isInst_ap, itE_ap, rng1_ap, rng2_ap, tgN_ap, tgT_ap, tgs_nil, tgs_cons, sm1, sm2, sm3, sm4, sm5, bind_exc, stm_exc, seq_exc, decide_true, decide_false, Bool.true_or, Bool.false_or, nn_i, nn_t, nn_n, nn_s, ni_i, ni_t, ni_n, ni_s, makeE_ap, methE_ap, propE_ap, clRes_ret, clRes_exc, prRes_ret, Int.cast_ofNat_Int, Int.natCast_zero, Int.natCast_one, Int.reduceEq, Int.reduceLT, Int.reduceLE, eqD_b, neD_b, truV_ap, truD_b, f__law_mirrored, m__law_mirrored, fl0, items_fr, forE_ap, forS_cons, forS_nil, p0__law_mirrored, augS_ap, valAt_ap, addI_i, m1, m2, h1, frm, t, sm0, ptl, rg2, p1__law_mirrored, appE_ap, lstAt_ap, putAt_ap, mutD_own, put_own, pt0, pt1, it0, it1, m3, m4, m5, f1, f2, p1, p2]
  rfl
/-! ### due -/
theorem two_mul (o : Fq) : mulF (2, 1) o = nrm (2 * o.1) o.2 := by
  have : mulF (2, 1) o = nrm (2 * o.1) (1 * o.2) := rfl
  rw [this, Int.one_mul]
theorem due_ap (sa : Sz 50 a) (sb : Sz 50 b) (so : SF 150 o) (co : Can o) : f__law_due none [flT a b o] = .ret (.val (.bl (goodB [a, b] o))) none := by
  have k2 : SF 2 (2, 1) := SFw (by decide : (2 : Int).natAbs < 2 ^ 2) (by omega)
  have t := ltimes_ap (a := (2, 1)) (b := o) (k2.mono (by omega)) (so.mono (by omega))
  have m1 := mulD_z (sa.mono (k := 8900) (by omega)) (sa.mono (k := 8900) (by omega))
  have m2 := mulD_z (sb.mono (k := 8900) (by omega)) (sb.mono (k := 8900) (by omega))
  cases e : twD o with
  | none =>
    have d : decide ((mulF (2, 1) o).2 = 1) = false := decide_eq_false fun z => by
      have v := nrm_val (p := 2 * o.1) (q := o.2) (by have := so.1; omega)
      rw [← two_mul, z, Int.mul_one] at v
      have := tw_of co (t := (mulF (2, 1) o).1) v.symm
      rw [e] at this
      cases this
    have g : goodB [a, b] o = false := by
      unfold goodB
      rw [e]
    rw [g]
    simp only [defF_ap, lentS, List.map_cons, List.map_nil, List.nil_append, List.append_nil, List.length_cons, List.length_nil, if_true, if_false, Bool.false_eq_true, List.cons_append, Nat.reduceSub, Nat.reduceAdd, Nat.reduceEqDiff, List.replicate, sq_ap, asg_ap, dropS_ap, retS_ap, retN_ap, ifS_ap, ifE_ap, asB_ap, andB_ap, orB_ap, notB_ap, thw_ap, frz_ap, cst_ap, var_ap, move_ap, op1_ap, op2_ap, opN_ap, opV1_ap, opV2_ap, callF_ap, aCons_ap, aNil_ap, tupE_ap, lstE_ap, peek_ap, Option.bind_some, data_val, data_own, data_inp, of_some, bind_ok, stm_ok, seq_nx, seq_rt, skp_ap, fgt_ap, List.foldl_cons, List.foldl_nil, List.set_cons_succ, List.set_cons_zero, List.getElem?_cons_zero, List.getElem?_cons_succ, Bool.not_true, Bool.not_false, finF_rt0, finF_nx0, finF_exc0, finF_rt1, finF_nx1, eqD_i, neD_i, ltD_i, leD_i, gtD_i, geD_i, addD_i, subD_i, negD_i, intD_i, notD_b, lenD_l, lenD_t, tupleD_l, items_l, items_t, isInst_ap, itE_ap, rng1_ap, rng2_ap, tgN_ap, tgT_ap, tgs_nil, tgs_cons, sm1, sm2, sm3, sm4, sm5, bind_exc, stm_exc, seq_exc, decide_true, decide_false, Bool.true_or, Bool.false_or, nn_i, nn_t, nn_n, nn_s, ni_i, ni_t, ni_n, ni_s, makeE_ap, methE_ap, propE_ap, clRes_ret, clRes_exc, prRes_ret, Int.cast_ofNat_Int, Int.natCast_zero, Int.natCast_one, Int.reduceEq, Int.reduceLT, Int.reduceLE, eqD_b, neD_b, truV_ap, truD_b, f__law_due, m__law_due, fl0, fl1, frm, t, it1, d]
  | some u =>
    have h := of_tw e
    have em : mulF (2, 1) o = (u, 1) := by
      rw [two_mul, ← nrm_one u]
      exact nrm_eq (by have := so.1; omega) (by decide) (by rw [Int.mul_one]; exact h)
    rw [em] at t
    have g : goodB [a, b] o = (decide (u.fmod 2 = 0) || decide ((a * a + b * b).fmod 2 = 1)) := by
      unfold goodB
      rw [e, sqs2]
    rw [g]
    by_cases h1 : u.fmod 2 = 0
    · have d1 : decide (u.fmod 2 = 0) = true := decide_eq_true h1
      simp only [defF_ap, lentS, List.map_cons, List.map_nil, List.nil_append, List.append_nil, List.length_cons, List.length_nil, if_true, if_false, Bool.false_eq_true, List.cons_append, Nat.reduceSub, Nat.reduceAdd, Nat.reduceEqDiff, List.replicate, sq_ap, asg_ap, dropS_ap, retS_ap, retN_ap, ifS_ap, ifE_ap, asB_ap, andB_ap, orB_ap, notB_ap, thw_ap, frz_ap, cst_ap, var_ap, move_ap, op1_ap, op2_ap, opN_ap, opV1_ap, opV2_ap, callF_ap, aCons_ap, aNil_ap, tupE_ap, lstE_ap, peek_ap, Option.bind_some, data_val, data_own, data_inp, of_some, bind_ok, stm_ok, seq_nx, seq_rt, skp_ap, fgt_ap, List.foldl_cons, List.foldl_nil, List.set_cons_succ, List.set_cons_zero, List.getElem?_cons_zero, List.getElem?_cons_succ, Bool.not_true, Bool.not_false, finF_rt0, finF_nx0, finF_exc0, finF_rt1, finF_nx1, eqD_i, neD_i, ltD_i, leD_i, gtD_i, geD_i, addD_i, subD_i, negD_i, intD_i, notD_b, lenD_l, lenD_t, tupleD_l, items_l, items_t, isInst_ap, itE_ap, rng1_ap, rng2_ap, tgN_ap, tgT_ap, tgs_nil, tgs_cons, sm1, sm2, sm3, sm4, sm5, bind_exc, stm_exc, seq_exc, decide_true, decide_false, Bool.true_or, Bool.false_or, nn_i, nn_t, nn_n, nn_s, ni_i, ni_t, ni_n, ni_s, makeE_ap, methE_ap, propE_ap, clRes_ret, clRes_exc, prRes_ret, Int.cast_ofNat_Int, Int.natCast_zero, Int.natCast_one, Int.reduceEq, Int.reduceLT, Int.reduceLE, eqD_b, neD_b, truV_ap, truD_b, f__law_due, m__law_due, fl0, fl1, frm, t, it0, it1, m1, m2, orV_ap, md2, d1]
    · have d1 : decide (u.fmod 2 = 0) = false := decide_eq_false h1
      simp only [defF_ap, lentS, List.map_cons, List.map_nil, List.nil_append, List.append_nil, List.length_cons, List.length_nil, if_true, if_false, Bool.false_eq_true, List.cons_append, Nat.reduceSub, Nat.reduceAdd, Nat.reduceEqDiff, List.replicate, sq_ap, asg_ap, dropS_ap, retS_ap, retN_ap, ifS_ap, ifE_ap, asB_ap, andB_ap, orB_ap, notB_ap, thw_ap, frz_ap, cst_ap, var_ap, move_ap, op1_ap, op2_ap, opN_ap, opV1_ap, opV2_ap, callF_ap, aCons_ap, aNil_ap, tupE_ap, lstE_ap, peek_ap, Option.bind_some, data_val, data_own, data_inp, of_some, bind_ok, stm_ok, seq_nx, seq_rt, skp_ap, fgt_ap, List.foldl_cons, List.foldl_nil, List.set_cons_succ, List.set_cons_zero, List.getElem?_cons_zero, List.getElem?_cons_succ, Bool.not_true, Bool.not_false, finF_rt0, finF_nx0, finF_exc0, finF_rt1, finF_nx1, eqD_i, neD_i, ltD_i, leD_i, gtD_i, geD_i, addD_i, subD_i, negD_i, intD_i, notD_b, lenD_l, lenD_t, tupleD_l, items_l, items_t, isInst_ap, itE_ap, rng1_ap, rng2_ap, tgN_ap, tgT_ap, tgs_nil, tgs_cons, sm1, sm2, sm3, sm4, sm5, bind_exc, stm_exc, seq_exc, decide_true, decide_false, Bool.true_or, Bool.false_or, nn_i, nn_t, nn_n, nn_s, ni_i, ni_t, ni_n, ni_s, makeE_ap, methE_ap, propE_ap, clRes_ret, clRes_exc, prRes_ret, Int.cast_ofNat_Int, Int.natCast_zero, Int.natCast_one, Int.reduceEq, Int.reduceLT, Int.reduceLE, eqD_b, neD_b, truV_ap, truD_b, f__law_due, m__law_due, fl0, fl1, frm, t, it0, it1, m1, m2, orV_ap, md2, d1]
/-! ### points told -/
theorem lisfrac_ap {x : Fq} (h : Can x) (sx : SF 8900 x) : f__law_is_frac none [fr x] = .ret (.val (.bl true)) none := by
  have it : isT "tuple" (fr x) = some (.bl true) := is_tuple (fr x) trivial
  have w1 := lwhole_ap (.int x.1) trivial
  have w2 := lwhole_ap (.int x.2) trivial
  have n1 : decide (x.2 < 1) = false := decide_eq_false (by have := h.1; omega)
  have dv := div_ap (a := x.2) (b := x.1) sx.2.1
  rw [gc_comm, h.2] at dv
  simp only [defF_ap, lentS, List.map_cons, List.map_nil, List.nil_append, List.append_nil, List.length_cons, List.length_nil, if_true, if_false, Bool.false_eq_true, List.cons_append, Nat.reduceSub, Nat.reduceAdd, Nat.reduceEqDiff, List.replicate, sq_ap, asg_ap, dropS_ap, retS_ap, retN_ap, ifS_ap, ifE_ap, asB_ap, andB_ap, orB_ap, notB_ap, thw_ap, frz_ap, cst_ap, var_ap, move_ap, op1_ap, op2_ap, opN_ap, opV1_ap, opV2_ap, callF_ap, aCons_ap, aNil_ap, tupE_ap, lstE_ap, peek_ap, Option.bind_some, data_val, data_own, data_inp, of_some, bind_ok, stm_ok, seq_nx, seq_rt, skp_ap, fgt_ap, List.foldl_cons, List.foldl_nil, List.set_cons_succ, List.set_cons_zero, List.getElem?_cons_zero, List.getElem?_cons_succ, Bool.not_true, Bool.not_false, finF_rt0, finF_nx0, finF_exc0, finF_rt1, finF_nx1, eqD_i, neD_i, ltD_i, leD_i, gtD_i, geD_i, addD_i, subD_i, negD_i, intD_i, notD_b, lenD_l, lenD_t, tupleD_l, items_l, items_t, isInst_ap, itE_ap, rng1_ap, rng2_ap, tgN_ap, tgT_ap, tgs_nil, tgs_cons, sm1, sm2, sm3, sm4, sm5, bind_exc, stm_exc, seq_exc, decide_true, decide_false, Bool.true_or, Bool.false_or, nn_i, nn_t, nn_n, nn_s, ni_i, ni_t, ni_n, ni_s, makeE_ap, methE_ap, propE_ap, clRes_ret, clRes_exc, prRes_ret, Int.cast_ofNat_Int, Int.natCast_zero, Int.natCast_one, Int.reduceEq, Int.reduceLT, Int.reduceLE, eqD_b, neD_b, truV_ap, truD_b, f__law_is_frac, m__law_is_frac, it, frac_len, it0, it1, w1, w2, wholeB, n1, dv]
theorem lispt_ap {x y : Fq} (cx : Can x) (cy : Can y) (sx : SF 8900 x) (sy : SF 8900 y) : f__law_is_point none [pt [x, y], .int 2] = .ret (.val (.bl true)) none := by
  have it : isT "tuple" (pt [x, y]) = some (.bl true) := is_tuple (pt [x, y]) trivial
  have i1 := lisfrac_ap cx sx
  have i2 := lisfrac_ap cy sy
  have is : items (pt [x, y]) = some [fr x, fr y] := rfl
  simp only [defF_ap, lentS, List.map_cons, List.map_nil, List.nil_append, List.append_nil, List.length_cons, List.length_nil, if_true, if_false, Bool.false_eq_true, List.cons_append, Nat.reduceSub, Nat.reduceAdd, Nat.reduceEqDiff, List.replicate, sq_ap, asg_ap, dropS_ap, retS_ap, retN_ap, ifS_ap, ifE_ap, asB_ap, andB_ap, orB_ap, notB_ap, thw_ap, frz_ap, cst_ap, var_ap, move_ap, op1_ap, op2_ap, opN_ap, opV1_ap, opV2_ap, callF_ap, aCons_ap, aNil_ap, tupE_ap, lstE_ap, peek_ap, Option.bind_some, data_val, data_own, data_inp, of_some, bind_ok, stm_ok, seq_nx, seq_rt, skp_ap, fgt_ap, List.foldl_cons, List.foldl_nil, List.set_cons_succ, List.set_cons_zero, List.getElem?_cons_zero, List.getElem?_cons_succ, Bool.not_true, Bool.not_false, finF_rt0, finF_nx0, finF_exc0, finF_rt1, finF_nx1, eqD_i, neD_i, ltD_i, leD_i, gtD_i, geD_i, addD_i, subD_i, negD_i, intD_i, notD_b, lenD_l, lenD_t, tupleD_l, items_l, items_t, isInst_ap, itE_ap, rng1_ap, rng2_ap, tgN_ap, tgT_ap, tgs_nil, tgs_cons, sm1, sm2, sm3, sm4, sm5, bind_exc, stm_exc, seq_exc, decide_true, decide_false, Bool.true_or, Bool.false_or, nn_i, nn_t, nn_n, nn_s, ni_i, ni_t, ni_n, ni_s, makeE_ap, methE_ap, propE_ap, clRes_ret, clRes_exc, prRes_ret, Int.cast_ofNat_Int, Int.natCast_zero, Int.natCast_one, Int.reduceEq, Int.reduceLT, Int.reduceLE, eqD_b, neD_b, truV_ap, truD_b, f__law_is_point, m__law_is_point, it, ptl, is, forE_ap, forS_cons, forS_nil, p0__law_is_point, i1, i2]
end
end HT

set_option Elab.async false
set_option linter.all false
set_option maxRecDepth 100000
set_option maxHeartbeats 4000000
/-! K90Q4: a good line's pair; images of whole points; what is told of one line. -/
namespace HT
open PySem PySem.Spec PyProof.Rows L2 HM
theorem bl_bool {b : Bool} : isT "bool" (.bl b) = some (.bl true) := is_bool (.bl b) trivial
theorem tk_nat (is : List Int) {m : Nat} (h : 0 < m) : ∃ k : Nat, k < m ∧ tk is (m : Int) = (k : Int) := by
  have h1 := tk_lo is (m := (m : Int)) (by omega)
  have h2 := tk_hi is (m := (m : Int)) (by omega)
  exact ⟨(tk is (m : Int)).toNat, by omega, by omega⟩
section
variable {a b : Int} {o : Fq}
/-- a line of the law -/
structure Ln (a b : Int) (o : Fq) : Prop where
  g : gc a b = 1
  c : comF [a, b] = 1
  sa : Sz 50 a
  sb : Sz 50 b
  so : SF 150 o
  co : Can o
theorem Ln.make (l : Ln a b o) : f_Flat___init__ (some (.ins "Flat" [] [])) [fr (a, b), fr o] = .ret (.val .non) (some (flD [a, b] o)) :=
  flat_ap (as := [a, b]) (show 1 ≤ 2 by decide) (show 2 ≤ 3 by decide) l.c l.co
theorem Ln.n (l : Ln a b o) : 0 < a * a + b * b := n_pos l.g
theorem Ln.good (l : Ln a b o) : f_is_good none [flD [a, b] o] = .ret (.val (.bl (goodB [a, b] o))) none :=
  good_ap (as := [a, b]) (hdi (P := Sz 4400) (l.sa.mono (by omega)) (l.sb.mono (by omega))) rfl (l.so.mono (by omega))
theorem tw_val {t : Int} (h : 2 * o.1 = t * o.2) (ho : 0 < o.2) : 2 * vq o = (t : Rat) := by
  have h1 : (2 : Rat) * (o.1 : Rat) = (t : Rat) * (o.2 : Rat) := by exact_mod_cast h
  have := rz (show o.2 ≠ 0 by omega)
  unfold vq
  grind
theorem ctw_val {t : Int} (h : 2 * vq o = (t : Rat)) (ho : 0 < o.2) : 2 * o.1 = t * o.2 := by
  have := rz (show o.2 ≠ 0 by omega)
  have h1 : (2 : Rat) * (o.1 : Rat) = (t : Rat) * (o.2 : Rat) := by
    unfold vq at h
    grind
  exact_mod_cast h1
theorem Ln.pair (l : Ln a b o) (hg : goodB [a, b] o = true) : ∃ x y e : Int, f_good_pair none [flD [a, b] o] = .ret (.val (.tup [ipt x y, ipt (x + e * a) (y + e * b)])) none ∧ (e = 1 ∨ e = 2) ∧ Sz 290 x ∧ Sz 290 y ∧
    m1F a b o (x, 1) (y, 1) = (x + e * a, 1) ∧ m2F a b o (x, 1) (y, 1) = (y + e * b, 1) := by
  obtain ⟨x, y, e, t, k1, k2, k3, k4, k5, k6⟩ := pair_ap (l.sa.mono (by omega)) (l.sb.mono (by omega)) l.so l.g hg
  have o1 : ∀ x : Int, (0 : Int) < ((x, 1) : Fq).2 := fun _ => show (0 : Int) < 1 by decide
  have v := tw_val (of_tw k5) l.so.1
  have nn := rn_ne l.n
  rw [sqs2] at k6
  have k7 : (2 : Rat) * ((a : Rat) * x + (b : Rat) * y) = (t : Rat) - (e : Rat) * ((a : Rat) * a + (b : Rat) * b) := by exact_mod_cast k6
  obtain ⟨w1, w2⟩ := m1_val (a := a) (b := b) (x := (x, 1)) (y := (y, 1)) l.n l.so.1 (o1 x) (o1 y)
  obtain ⟨c1, c2⟩ := m_can (a := a) (b := b) (x := (x, 1)) (y := (y, 1)) l.n l.so.1 (o1 x) (o1 y)
  have sh : shR a b o (x, 1) (y, 1) = (e : Rat) := by
    unfold shR
    rw [vq_one, vq_one]
    generalize vq o = O at *
    generalize (a : Rat) = A at *
    generalize (b : Rat) = B at *
    generalize (x : Rat) = X at *
    generalize (y : Rat) = Y at *
    generalize (t : Rat) = T at *
    generalize (e : Rat) = E at *
    grind
  rw [sh, vq_one] at w1 w2
  refine ⟨x, y, e, k1, k2, k3, k4, vq_inj c1 (canw _) ?_, vq_inj c2 (canw _) ?_⟩
  · rw [w1, vq_one]
    push_cast
    rfl
  · rw [w2, vq_one]
    push_cast
    rfl
theorem sz_e {x e a : Int} (he : e = 1 ∨ e = 2) (sx : Sz 290 x) (sa : Sz 50 a) : Sz 300 (x + e * a) := by
  have se : Sz 2 e := by
    rcases he with z | z <;> rw [z]
    · exact (by decide : (1 : Int).natAbs < 2 ^ 2)
    · exact (by decide : (2 : Int).natAbs < 2 ^ 2)
  exact (sx.add ((se.mul sa).mono (by omega))).mono (by omega)
theorem whPw {x y : Int} : whP (x, 1) (y, 1) = true := rfl
theorem fipt {x y : Int} : pt [(x, 1), (y, 1)] = ipt x y := rfl
theorem Ln.pair_right (l : Ln a b o) (hg : goodB [a, b] o = true) : f__law_pair_right none [flT a b o] = .ret (.val (.bl true)) none := by
  obtain ⟨x, y, e, k1, k2, k3, k4, k5, k6⟩ := l.pair hg
  have mk := l.make
  have sx := k3.mono (k := 300) (by omega)
  have sy := k4.mono (k := 300) (by omega)
  have q1 := sz_e k2 k3 l.sa
  have q2 := sz_e k2 k4 l.sb
  have up : ∀ {x : Int}, Sz 300 x → SF 8900 (x, 1) := fun {x} h => (SFw h (by omega)).mono (by omega)
  have i1 := lispt_ap (canw x) (canw y) (up sx) (up sy)
  have i2 := lispt_ap (canw _) (canw _) (up q1) (up q2)
  have j1 := liswp_ap (x := (x, 1)) (y := (y, 1))
  have j2 := liswp_ap (x := (x + e * a, 1)) (y := (y + e * b, 1))
  have lm := lmir_ap (x := (x, 1)) (y := (y, 1)) l.g l.sa l.sb l.so (SFw sx (by omega)) (SFw sy (by omega))
  rw [k5, k6] at lm
  rw [fipt] at i1 i2 j1 j2 lm
  rw [fipt] at lm
  rw [whPw] at j1 j2
  have it : isT "tuple" (.tup [ipt x y, ipt (x + e * a) (y + e * b)]) = some (.bl true) := is_tuple (.tup [ipt x y, ipt (x + e * a) (y + e * b)]) trivial
  have t0 : itemD (.tup [ipt x y, ipt (x + e * a) (y + e * b)]) (.int 0) = some (ipt x y) := rfl
  have t1 : itemD (.tup [ipt x y, ipt (x + e * a) (y + e * b)]) (.int 1) = some (ipt (x + e * a) (y + e * b)) := rfl
  have eq : eqD (ipt (x + e * a) (y + e * b)) (ipt (x + e * a) (y + e * b)) = some (.bl true) := by
    have := eqD_pt [(x + e * a, 1), (y + e * b, 1)] [(x + e * a, 1), (y + e * b, 1)]
    rw [decide_eq_true rfl] at this
    exact this
  have ne : neD (ipt x y) (ipt (x + e * a) (y + e * b)) = some (.bl true) := by
    refine ne_of_eq (b := false) ?_
    have h := eqD_pt [(x, 1), (y, 1)] [(x + e * a, 1), (y + e * b, 1)]
    rw [decide_eq_false (fun z => by
      have z1 : x = x + e * a := by
        have := List.cons.inj z
        exact (Prod.mk.inj this.1).1
      have z2 : y = y + e * b := by
        have := (List.cons.inj (List.cons.inj z).2).1
        exact (Prod.mk.inj this).1
      have y1 : a = 0 := by
        have : e * a = 0 := by omega
        rcases Int.mul_eq_zero.mp this with q | q
        · omega
        · exact q
      have y2 : b = 0 := by
        have : e * b = 0 := by omega
        rcases Int.mul_eq_zero.mp this with q | q
        · omega
        · exact q
      have := l.n
      rw [y1, y2] at this
      omega)] at h
    exact h
  simp only [defF_ap, lentS, List.map_cons, List.map_nil, List.nil_append, List.append_nil, List.length_cons, List.length_nil, if_true, if_false, Bool.false_eq_true, List.cons_append, Nat.reduceSub, Nat.reduceAdd, Nat.reduceEqDiff, List.replicate, sq_ap, asg_ap, dropS_ap, retS_ap, retN_ap, ifS_ap, ifE_ap, asB_ap, andB_ap, orB_ap, notB_ap, thw_ap, frz_ap, cst_ap, var_ap, move_ap, op1_ap, op2_ap, opN_ap, opV1_ap, opV2_ap, callF_ap, aCons_ap, aNil_ap, tupE_ap, lstE_ap, peek_ap, Option.bind_some, data_val, data_own, data_inp, of_some, bind_ok, stm_ok, seq_nx, seq_rt, skp_ap, fgt_ap, List.foldl_cons, List.foldl_nil, List.set_cons_succ, List.set_cons_zero, List.getElem?_cons_zero, List.getElem?_cons_succ, Bool.not_true, Bool.not_false, finF_rt0, finF_nx0, finF_exc0, finF_rt1, finF_nx1, eqD_i, neD_i, ltD_i, leD_i, gtD_i, geD_i, addD_i, subD_i, negD_i, intD_i, notD_b, lenD_l, lenD_t, tupleD_l, items_l, items_t, isInst_ap, itE_ap, rng1_ap, rng2_ap, tgN_ap, tgT_ap, tgs_nil, tgs_cons, sm1, sm2, sm3, sm4, sm5, bind_exc, stm_exc, seq_exc, decide_true, decide_false, Bool.true_or, Bool.false_or, nn_i, nn_t, nn_n, nn_s, ni_i, ni_t, ni_n, ni_s, makeE_ap, methE_ap, propE_ap, clRes_ret, clRes_exc, prRes_ret, Int.cast_ofNat_Int, Int.natCast_zero, Int.natCast_one, Int.reduceEq, Int.reduceLT, Int.reduceLE, eqD_b, neD_b, truV_ap, truD_b, f__law_pair_right, m__law_pair_right, fl0, fl1, mk, mkRes_fl, k1, it, forE_ap, forS_cons, forS_nil, p0__law_pair_right, i1, i2, j1, j2, t0, t1, ne, andV_ap, lm, eq]
theorem Ln.image_right (l : Ln a b o) {x y : Fq} (sx : SF 300 x) (sy : SF 300 y) (cx : Can x) (cy : Can y) : f__law_image_right none [flT a b o, pt [x, y]] = .ret (.val (.bl true)) none := by
  have mk := l.make
  have wm := wm_ap l.g l.sa l.sb l.so sx sy cx cy
  have lm := lmir_ap l.g l.sa l.sb l.so sx sy
  have j1 := liswp_ap (x := x) (y := y)
  have j2 := liswp_ap (x := m1F a b o x y) (y := m2F a b o x y)
  have eq : eqD (pt [m1F a b o x y, m2F a b o x y]) (pt [m1F a b o x y, m2F a b o x y]) = some (.bl true) := by
    have := eqD_pt [m1F a b o x y, m2F a b o x y] [m1F a b o x y, m2F a b o x y]
    rw [decide_eq_true rfl] at this
    exact this
  cases h1 : whP x y with
  | false =>
    rw [h1] at j1 wm
    rw [Bool.false_and, if_neg (by decide)] at wm
    simp only [defF_ap, lentS, List.map_cons, List.map_nil, List.nil_append, List.append_nil, List.length_cons, List.length_nil, if_true, if_false, Bool.false_eq_true, List.cons_append, Nat.reduceSub, Nat.reduceAdd, Nat.reduceEqDiff, List.replicate, sq_ap, asg_ap, dropS_ap, retS_ap, retN_ap, ifS_ap, ifE_ap, asB_ap, andB_ap, orB_ap, notB_ap, thw_ap, frz_ap, cst_ap, var_ap, move_ap, op1_ap, op2_ap, opN_ap, opV1_ap, opV2_ap, callF_ap, aCons_ap, aNil_ap, tupE_ap, lstE_ap, peek_ap, Option.bind_some, data_val, data_own, data_inp, of_some, bind_ok, stm_ok, seq_nx, seq_rt, skp_ap, fgt_ap, List.foldl_cons, List.foldl_nil, List.set_cons_succ, List.set_cons_zero, List.getElem?_cons_zero, List.getElem?_cons_succ, Bool.not_true, Bool.not_false, finF_rt0, finF_nx0, finF_exc0, finF_rt1, finF_nx1, eqD_i, neD_i, ltD_i, leD_i, gtD_i, geD_i, addD_i, subD_i, negD_i, intD_i, notD_b, lenD_l, lenD_t, tupleD_l, items_l, items_t, isInst_ap, itE_ap, rng1_ap, rng2_ap, tgN_ap, tgT_ap, tgs_nil, tgs_cons, sm1, sm2, sm3, sm4, sm5, bind_exc, stm_exc, seq_exc, decide_true, decide_false, Bool.true_or, Bool.false_or, nn_i, nn_t, nn_n, nn_s, ni_i, ni_t, ni_n, ni_s, makeE_ap, methE_ap, propE_ap, clRes_ret, clRes_exc, prRes_ret, Int.cast_ofNat_Int, Int.natCast_zero, Int.natCast_one, Int.reduceEq, Int.reduceLT, Int.reduceLE, eqD_b, neD_b, truV_ap, truD_b, f__law_image_right, m__law_image_right, fl0, fl1, mk, mkRes_fl, wm, lm, j1]
  | true =>
    rw [h1] at j1 wm
    rw [Bool.true_and] at wm
    cases h2 : whP (m1F a b o x y) (m2F a b o x y) with
    | false =>
      rw [h2] at j2 wm
      rw [if_neg (by decide)] at wm
      simp only [defF_ap, lentS, List.map_cons, List.map_nil, List.nil_append, List.append_nil, List.length_cons, List.length_nil, if_true, if_false, Bool.false_eq_true, List.cons_append, Nat.reduceSub, Nat.reduceAdd, Nat.reduceEqDiff, List.replicate, sq_ap, asg_ap, dropS_ap, retS_ap, retN_ap, ifS_ap, ifE_ap, asB_ap, andB_ap, orB_ap, notB_ap, thw_ap, frz_ap, cst_ap, var_ap, move_ap, op1_ap, op2_ap, opN_ap, opV1_ap, opV2_ap, callF_ap, aCons_ap, aNil_ap, tupE_ap, lstE_ap, peek_ap, Option.bind_some, data_val, data_own, data_inp, of_some, bind_ok, stm_ok, seq_nx, seq_rt, skp_ap, fgt_ap, List.foldl_cons, List.foldl_nil, List.set_cons_succ, List.set_cons_zero, List.getElem?_cons_zero, List.getElem?_cons_succ, Bool.not_true, Bool.not_false, finF_rt0, finF_nx0, finF_exc0, finF_rt1, finF_nx1, eqD_i, neD_i, ltD_i, leD_i, gtD_i, geD_i, addD_i, subD_i, negD_i, intD_i, notD_b, lenD_l, lenD_t, tupleD_l, items_l, items_t, isInst_ap, itE_ap, rng1_ap, rng2_ap, tgN_ap, tgT_ap, tgs_nil, tgs_cons, sm1, sm2, sm3, sm4, sm5, bind_exc, stm_exc, seq_exc, decide_true, decide_false, Bool.true_or, Bool.false_or, nn_i, nn_t, nn_n, nn_s, ni_i, ni_t, ni_n, ni_s, makeE_ap, methE_ap, propE_ap, clRes_ret, clRes_exc, prRes_ret, Int.cast_ofNat_Int, Int.natCast_zero, Int.natCast_one, Int.reduceEq, Int.reduceLT, Int.reduceLE, eqD_b, neD_b, truV_ap, truD_b, f__law_image_right, m__law_image_right, fl0, fl1, mk, mkRes_fl, wm, lm, j1, j2]
    | true =>
      rw [h2] at j2 wm
      rw [if_pos rfl] at wm
      simp only [defF_ap, lentS, List.map_cons, List.map_nil, List.nil_append, List.append_nil, List.length_cons, List.length_nil, if_true, if_false, Bool.false_eq_true, List.cons_append, Nat.reduceSub, Nat.reduceAdd, Nat.reduceEqDiff, List.replicate, sq_ap, asg_ap, dropS_ap, retS_ap, retN_ap, ifS_ap, ifE_ap, asB_ap, andB_ap, orB_ap, notB_ap, thw_ap, frz_ap, cst_ap, var_ap, move_ap, op1_ap, op2_ap, opN_ap, opV1_ap, opV2_ap, callF_ap, aCons_ap, aNil_ap, tupE_ap, lstE_ap, peek_ap, Option.bind_some, data_val, data_own, data_inp, of_some, bind_ok, stm_ok, seq_nx, seq_rt, skp_ap, fgt_ap, List.foldl_cons, List.foldl_nil, List.set_cons_succ, List.set_cons_zero, List.getElem?_cons_zero, List.getElem?_cons_succ, Bool.not_true, Bool.not_false, finF_rt0, finF_nx0, finF_exc0, finF_rt1, finF_nx1, eqD_i, neD_i, ltD_i, leD_i, gtD_i, geD_i, addD_i, subD_i, negD_i, intD_i, notD_b, lenD_l, lenD_t, tupleD_l, items_l, items_t, isInst_ap, itE_ap, rng1_ap, rng2_ap, tgN_ap, tgT_ap, tgs_nil, tgs_cons, sm1, sm2, sm3, sm4, sm5, bind_exc, stm_exc, seq_exc, decide_true, decide_false, Bool.true_or, Bool.false_or, nn_i, nn_t, nn_n, nn_s, ni_i, ni_t, ni_n, ni_s, makeE_ap, methE_ap, propE_ap, clRes_ret, clRes_exc, prRes_ret, Int.cast_ofNat_Int, Int.natCast_zero, Int.natCast_one, Int.reduceEq, Int.reduceLT, Int.reduceLE, eqD_b, neD_b, truV_ap, truD_b, f__law_image_right, m__law_image_right, fl0, fl1, mk, mkRes_fl, wm, lm, j1, j2, eq]
/-- no good line: no whole point has a whole image -/
theorem Ln.not_whole (l : Ln a b o) (hg : goodB [a, b] o = false) (x y : Int) : whP (m1F a b o (x, 1) (y, 1)) (m2F a b o (x, 1) (y, 1)) = false := by
  cases h : whP (m1F a b o (x, 1) (y, 1)) (m2F a b o (x, 1) (y, 1)) with
  | false => rfl
  | true =>
    exfalso
    unfold whP at h
    rw [Bool.and_eq_true] at h
    have h1 : (m1F a b o (x, 1) (y, 1)).2 = 1 := of_decide_eq_true h.1
    have h2 : (m2F a b o (x, 1) (y, 1)).2 = 1 := of_decide_eq_true h.2
    have o1 : ∀ x : Int, (0 : Int) < ((x, 1) : Fq).2 := fun _ => show (0 : Int) < 1 by decide
    obtain ⟨w1, w2⟩ := m1_val (a := a) (b := b) (x := (x, 1)) (y := (y, 1)) l.n l.so.1 (o1 x) (o1 y)
    obtain ⟨g, u, v, _, _, e1, e2, _, _⟩ := wh_all (w := 0) l.g (l.sa.mono (by omega)) (l.sb.mono (by omega))
    obtain ⟨p, hp⟩ : ∃ p, (m1F a b o (x, 1) (y, 1)).1 = p := ⟨_, rfl⟩
    obtain ⟨q, hq⟩ : ∃ q, (m2F a b o (x, 1) (y, 1)).1 = q := ⟨_, rfl⟩
    have y1 : vq (m1F a b o (x, 1) (y, 1)) = (p : Rat) := by
      unfold vq
      rw [h1, hp]
      grind
    have y2 : vq (m2F a b o (x, 1) (y, 1)) = (q : Rat) := by
      unfold vq
      rw [h2, hq]
      grind
    rw [y1, vq_one] at w1
    rw [y2, vq_one] at w2
    have g2 : (g : Rat) * g = 1 := by
      have : g * g = 1 := by
        have : g = 1 ∨ g = -1 := by omega
        rcases this with z | z <;> rw [z] <;> rfl
      exact_mod_cast this
    have e3 : (g : Rat) = (u : Rat) * a + (v : Rat) * b := by exact_mod_cast e1
    -- how far is whole
    have es : shR a b o (x, 1) (y, 1) = ((g * (u * (p - x) + v * (q - y)) : Int) : Rat) := by
      push_cast
      generalize shR a b o (x, 1) (y, 1) = S at *
      generalize (a : Rat) = A at *
      generalize (b : Rat) = B at *
      generalize (g : Rat) = G at *
      generalize (u : Rat) = U at *
      generalize (v : Rat) = W at *
      generalize (x : Rat) = X at *
      generalize (y : Rat) = Y at *
      grind
    obtain ⟨s, hs⟩ : ∃ s, g * (u * (p - x) + v * (q - y)) = s := ⟨_, rfl⟩
    rw [hs] at es
    have nn := rn_ne l.n
    have tv : 2 * vq o = ((s * (a * a + b * b) + 2 * (a * x + b * y) : Int) : Rat) := by
      unfold shR at es
      rw [vq_one, vq_one] at es
      push_cast
      generalize vq o = O at *
      generalize (a : Rat) = A at *
      generalize (b : Rat) = B at *
      generalize (x : Rat) = X at *
      generalize (y : Rat) = Y at *
      generalize (s : Rat) = S at *
      grind
    have ct := ctw_val tv l.so.1
    have : goodB [a, b] o = true := (goodB_iff l.co).mpr ⟨_, ct, by
      rw [sqs2]
      generalize a * a + b * b = n
      by_cases z : n % 2 = 0
      · left
        obtain ⟨m, hm⟩ : ∃ m, n = 2 * m := ⟨n / 2, by omega⟩
        have : s * n + 2 * (a * x + b * y) = 2 * (s * m + (a * x + b * y)) := by
          rw [hm]
          grind
        rw [this]
        omega
      · right
        omega⟩
    rw [hg] at this
    cases this
end
end HT

set_option Elab.async false
set_option linter.all false
set_option maxRecDepth 100000
set_option maxHeartbeats 4000000
/-! K90Q5: one line, whole. -/
namespace HT
open PySem PySem.Spec PyProof.Rows L2 HM
theorem drawI {is : List Int} {r : List Sl} {m : Int} (h : 0 < m) : callL f__law_take 0 [] (aCons (cst (.int m)) aNil) (.inp (.lst (L is)) :: r) = .ok (.val (.int (tk is m))) (.inp (.lst (L is.dropLast)) :: r) := by
  have t := take_ap is h
  simp only [defF_ap, lentS, List.map_cons, List.map_nil, List.nil_append, List.append_nil, List.length_cons, List.length_nil, if_true, if_false, Bool.false_eq_true, List.cons_append, Nat.reduceSub, Nat.reduceAdd, Nat.reduceEqDiff, List.replicate, sq_ap, asg_ap, dropS_ap, retS_ap, retN_ap, ifS_ap, ifE_ap, asB_ap, andB_ap, orB_ap, notB_ap, thw_ap, frz_ap, cst_ap, var_ap, move_ap, op1_ap, op2_ap, opN_ap, opV1_ap, opV2_ap, callF_ap, aCons_ap, aNil_ap, tupE_ap, lstE_ap, peek_ap, Option.bind_some, data_val, data_own, data_inp, of_some, bind_ok, stm_ok, seq_nx, seq_rt, skp_ap, fgt_ap, List.foldl_cons, List.foldl_nil, List.set_cons_succ, List.set_cons_zero, List.getElem?_cons_zero, List.getElem?_cons_succ, Bool.not_true, Bool.not_false, finF_rt0, finF_nx0, finF_exc0, finF_rt1, finF_nx1, eqD_i, neD_i, ltD_i, leD_i, gtD_i, geD_i, addD_i, subD_i, negD_i, intD_i, notD_b, lenD_l, lenD_t, tupleD_l, items_l, items_t, isInst_ap, itE_ap, rng1_ap, rng2_ap, tgN_ap, tgT_ap, tgs_nil, tgs_cons, sm1, sm2, sm3, sm4, sm5, bind_exc, stm_exc, seq_exc, decide_true, decide_false, Bool.true_or, Bool.false_or, nn_i, nn_t, nn_n, nn_s, ni_i, ni_t, ni_n, ni_s, makeE_ap, methE_ap, propE_ap, clRes_ret, clRes_exc, prRes_ret, Int.cast_ofNat_Int, Int.natCast_zero, Int.natCast_one, Int.reduceEq, Int.reduceLT, Int.reduceLE, eqD_b, neD_b, truV_ap, truD_b, callL_ap, mutD_inp, t, putAt_ap, put_inp]
theorem drawO {s0 : Sl} {is : List Int} {r : List Sl} {m : Int} (h : 0 < m) : callL f__law_take 1 [] (aCons (cst (.int m)) aNil) (s0 :: .own (.lst (L is)) :: r) = .ok (.val (.int (tk is m))) (s0 :: .own (.lst (L is.dropLast)) :: r) := by
  have t := take_ap is h
  simp only [defF_ap, lentS, List.map_cons, List.map_nil, List.nil_append, List.append_nil, List.length_cons, List.length_nil, if_true, if_false, Bool.false_eq_true, List.cons_append, Nat.reduceSub, Nat.reduceAdd, Nat.reduceEqDiff, List.replicate, sq_ap, asg_ap, dropS_ap, retS_ap, retN_ap, ifS_ap, ifE_ap, asB_ap, andB_ap, orB_ap, notB_ap, thw_ap, frz_ap, cst_ap, var_ap, move_ap, op1_ap, op2_ap, opN_ap, opV1_ap, opV2_ap, callF_ap, aCons_ap, aNil_ap, tupE_ap, lstE_ap, peek_ap, Option.bind_some, data_val, data_own, data_inp, of_some, bind_ok, stm_ok, seq_nx, seq_rt, skp_ap, fgt_ap, List.foldl_cons, List.foldl_nil, List.set_cons_succ, List.set_cons_zero, List.getElem?_cons_zero, List.getElem?_cons_succ, Bool.not_true, Bool.not_false, finF_rt0, finF_nx0, finF_exc0, finF_rt1, finF_nx1, eqD_i, neD_i, ltD_i, leD_i, gtD_i, geD_i, addD_i, subD_i, negD_i, intD_i, notD_b, lenD_l, lenD_t, tupleD_l, items_l, items_t, isInst_ap, itE_ap, rng1_ap, rng2_ap, tgN_ap, tgT_ap, tgs_nil, tgs_cons, sm1, sm2, sm3, sm4, sm5, bind_exc, stm_exc, seq_exc, decide_true, decide_false, Bool.true_or, Bool.false_or, nn_i, nn_t, nn_n, nn_s, ni_i, ni_t, ni_n, ni_s, makeE_ap, methE_ap, propE_ap, clRes_ret, clRes_exc, prRes_ret, Int.cast_ofNat_Int, Int.natCast_zero, Int.natCast_one, Int.reduceEq, Int.reduceLT, Int.reduceLE, eqD_b, neD_b, truV_ap, truD_b, callL_ap, mutD_own, t, putAt_ap, put_own]
theorem lpoint_ap (xs : List Int) (hl : xs.length ≤ 90000) : f__law_point none [.lst (L xs)] = .ret (.val (pt (wh xs))) none := by
  let g : D → D := fun d => match d with
    | .int a => fr (a, 1)
    | _ => .non
  have e : (wh xs).map fr = (L xs).map g := by
    unfold wh L
    rw [List.map_map, List.map_map]
    rfl
  have lc : lcE (itE (var 0)) (tgN 1) yesB (tupE (aCons (var 1) (aCons (cst (.int 1)) aNil))) [1] [.val (.lst (L xs)), .non] = .ok (.own (.lst ((wh xs).map fr))) [.val (.lst (L xs)), .non] := by
    rw [e]
    refine lcE_map (g := g) (ds := L xs) rfl (by rw [L_length]; omega) rfl rfl fun d hd => ?_
    obtain ⟨a, _, ea⟩ := List.mem_map.mp hd
    subst ea
    refine ⟨[.val (.lst (L xs)), .val (.int a)], [.val (.lst (L xs)), .val (.int a)], rfl, ?_, rfl⟩
    simp only [defF_ap, lentS, List.map_cons, List.map_nil, List.nil_append, List.append_nil, List.length_cons, List.length_nil, if_true, if_false, Bool.false_eq_true, List.cons_append, Nat.reduceSub, Nat.reduceAdd, Nat.reduceEqDiff, List.replicate, sq_ap, asg_ap, dropS_ap, retS_ap, retN_ap, ifS_ap, ifE_ap, asB_ap, andB_ap, orB_ap, notB_ap, thw_ap, frz_ap, cst_ap, var_ap, move_ap, op1_ap, op2_ap, opN_ap, opV1_ap, opV2_ap, callF_ap, aCons_ap, aNil_ap, tupE_ap, lstE_ap, peek_ap, Option.bind_some, data_val, data_own, data_inp, of_some, bind_ok, stm_ok, seq_nx, seq_rt, skp_ap, fgt_ap, List.foldl_cons, List.foldl_nil, List.set_cons_succ, List.set_cons_zero, List.getElem?_cons_zero, List.getElem?_cons_succ, Bool.not_true, Bool.not_false, finF_rt0, finF_nx0, finF_exc0, finF_rt1, finF_nx1, eqD_i, neD_i, ltD_i, leD_i, gtD_i, geD_i, addD_i, subD_i, negD_i, intD_i, notD_b, lenD_l, lenD_t, tupleD_l, items_l, items_t, isInst_ap, itE_ap, rng1_ap, rng2_ap, tgN_ap, tgT_ap, tgs_nil, tgs_cons, sm1, sm2, sm3, sm4, sm5, bind_exc, stm_exc, seq_exc, decide_true, decide_false, Bool.true_or, Bool.false_or, nn_i, nn_t, nn_n, nn_s, ni_i, ni_t, ni_n, ni_s, makeE_ap, methE_ap, propE_ap, clRes_ret, clRes_exc, prRes_ret, Int.cast_ofNat_Int, Int.natCast_zero, Int.natCast_one, Int.reduceEq, Int.reduceLT, Int.reduceLE, eqD_b, neD_b, truV_ap, truD_b, frm]
    rfl
  simp only [defF_ap, lentS, List.map_cons, List.map_nil, List.nil_append, List.append_nil, List.length_cons, List.length_nil, if_true, if_false, Bool.false_eq_true, List.cons_append, Nat.reduceSub, Nat.reduceAdd, Nat.reduceEqDiff, List.replicate, sq_ap, asg_ap, dropS_ap, retS_ap, retN_ap, ifS_ap, ifE_ap, asB_ap, andB_ap, orB_ap, notB_ap, thw_ap, frz_ap, cst_ap, var_ap, move_ap, op1_ap, op2_ap, opN_ap, opV1_ap, opV2_ap, callF_ap, aCons_ap, aNil_ap, tupE_ap, lstE_ap, peek_ap, Option.bind_some, data_val, data_own, data_inp, of_some, bind_ok, stm_ok, seq_nx, seq_rt, skp_ap, fgt_ap, List.foldl_cons, List.foldl_nil, List.set_cons_succ, List.set_cons_zero, List.getElem?_cons_zero, List.getElem?_cons_succ, Bool.not_true, Bool.not_false, finF_rt0, finF_nx0, finF_exc0, finF_rt1, finF_nx1, eqD_i, neD_i, ltD_i, leD_i, gtD_i, geD_i, addD_i, subD_i, negD_i, intD_i, notD_b, lenD_l, lenD_t, tupleD_l, items_l, items_t, isInst_ap, itE_ap, rng1_ap, rng2_ap, tgN_ap, tgT_ap, tgs_nil, tgs_cons, sm1, sm2, sm3, sm4, sm5, bind_exc, stm_exc, seq_exc, decide_true, decide_false, Bool.true_or, Bool.false_or, nn_i, nn_t, nn_n, nn_s, ni_i, ni_t, ni_n, ni_s, makeE_ap, methE_ap, propE_ap, clRes_ret, clRes_exc, prRes_ret, Int.cast_ofNat_Int, Int.natCast_zero, Int.natCast_one, Int.reduceEq, Int.reduceLT, Int.reduceLE, eqD_b, neD_b, truV_ap, truD_b, f__law_point, m__law_point, lc]
  rfl
theorem lpoint2 {x y : Int} : f__law_point none [.lst [.int x, .int y]] = .ret (.val (ipt x y)) none := lpoint_ap [x, y] (show 2 ≤ 90000 by decide)
section
variable {a b : Int} {o : Fq}
theorem Ln.turn (l : Ln a b o) {s0 s2 s4 : Sl} {x y : Int} (sx : Sz 10 x) (sy : Sz 10 y) : p0__law_line_right [s0, .val (flT a b o), s2, .val (.bl (goodB [a, b] o)), s4, .val (.int x), .val (.int y), .non, .non, .non] =
    .nx [s0, .val (flT a b o), s2, .val (.bl (goodB [a, b] o)), s4, .val (.int x), .non, .non, .non, .non] := by
  have lp := lpoint2 (x := x) (y := y)
  have lm := lmir_ap (x := (x, 1)) (y := (y, 1)) l.g l.sa l.sb l.so ((SFw sx (by omega)).mono (by omega)) ((SFw sy (by omega)).mono (by omega))
  rw [fipt] at lm
  have j2 := liswp_ap (x := m1F a b o (x, 1) (y, 1)) (y := m2F a b o (x, 1) (y, 1))
  cases h : goodB [a, b] o with
  | true => simp only [defF_ap, lentS, List.map_cons, List.map_nil, List.nil_append, List.append_nil, List.length_cons, List.length_nil, if_true, if_false, Bool.false_eq_true, List.cons_append, Nat.reduceSub, Nat.reduceAdd, Nat.reduceEqDiff, List.replicate, sq_ap, asg_ap, dropS_ap, retS_ap, retN_ap, ifS_ap, ifE_ap, asB_ap, andB_ap, orB_ap, notB_ap, thw_ap, frz_ap, cst_ap, var_ap, move_ap, op1_ap, op2_ap, opN_ap, opV1_ap, opV2_ap, callF_ap, aCons_ap, aNil_ap, tupE_ap, lstE_ap, peek_ap, Option.bind_some, data_val, data_own, data_inp, of_some, bind_ok, stm_ok, seq_nx, seq_rt, skp_ap, fgt_ap, List.foldl_cons, List.foldl_nil, List.set_cons_succ, List.set_cons_zero, List.getElem?_cons_zero, List.getElem?_cons_succ, Bool.not_true, Bool.not_false, finF_rt0, finF_nx0, finF_exc0, finF_rt1, finF_nx1, eqD_i, neD_i, ltD_i, leD_i, gtD_i, geD_i, addD_i, subD_i, negD_i, intD_i, notD_b, lenD_l, lenD_t, tupleD_l, items_l, items_t, isInst_ap, itE_ap, rng1_ap, rng2_ap, tgN_ap, tgT_ap, tgs_nil, tgs_cons, sm1, sm2, sm3, sm4, sm5, bind_exc, stm_exc, seq_exc, decide_true, decide_false, Bool.true_or, Bool.false_or, nn_i, nn_t, nn_n, nn_s, ni_i, ni_t, ni_n, ni_s, makeE_ap, methE_ap, propE_ap, clRes_ret, clRes_exc, prRes_ret, Int.cast_ofNat_Int, Int.natCast_zero, Int.natCast_one, Int.reduceEq, Int.reduceLT, Int.reduceLE, eqD_b, neD_b, truV_ap, truD_b, p0__law_line_right, lp, lm, truV_ap, truD_b]
  | false =>
    rw [l.not_whole h x y] at j2
    simp only [defF_ap, lentS, List.map_cons, List.map_nil, List.nil_append, List.append_nil, List.length_cons, List.length_nil, if_true, if_false, Bool.false_eq_true, List.cons_append, Nat.reduceSub, Nat.reduceAdd, Nat.reduceEqDiff, List.replicate, sq_ap, asg_ap, dropS_ap, retS_ap, retN_ap, ifS_ap, ifE_ap, asB_ap, andB_ap, orB_ap, notB_ap, thw_ap, frz_ap, cst_ap, var_ap, move_ap, op1_ap, op2_ap, opN_ap, opV1_ap, opV2_ap, callF_ap, aCons_ap, aNil_ap, tupE_ap, lstE_ap, peek_ap, Option.bind_some, data_val, data_own, data_inp, of_some, bind_ok, stm_ok, seq_nx, seq_rt, skp_ap, fgt_ap, List.foldl_cons, List.foldl_nil, List.set_cons_succ, List.set_cons_zero, List.getElem?_cons_zero, List.getElem?_cons_succ, Bool.not_true, Bool.not_false, finF_rt0, finF_nx0, finF_exc0, finF_rt1, finF_nx1, eqD_i, neD_i, ltD_i, leD_i, gtD_i, geD_i, addD_i, subD_i, negD_i, intD_i, notD_b, lenD_l, lenD_t, tupleD_l, items_l, items_t, isInst_ap, itE_ap, rng1_ap, rng2_ap, tgN_ap, tgT_ap, tgs_nil, tgs_cons, sm1, sm2, sm3, sm4, sm5, bind_exc, stm_exc, seq_exc, decide_true, decide_false, Bool.true_or, Bool.false_or, nn_i, nn_t, nn_n, nn_s, ni_i, ni_t, ni_n, ni_s, makeE_ap, methE_ap, propE_ap, clRes_ret, clRes_exc, prRes_ret, Int.cast_ofNat_Int, Int.natCast_zero, Int.natCast_one, Int.reduceEq, Int.reduceLT, Int.reduceLE, eqD_b, neD_b, truV_ap, truD_b, p0__law_line_right, lp, lm, truV_ap, truD_b, j2]
theorem sz10 {x : Int} (h1 : -100 ≤ x) (h2 : x ≤ 100) : Sz 10 x := by
  unfold Sz
  have : (2 : Nat) ^ 10 = 1024 := by decide
  omega
theorem Ln.turns (l : Ln a b o) {s0 s4 : Sl} {reach x : Int} (hr : 1 ≤ reach ∧ reach ≤ 5) (hx : -100 ≤ x ∧ x ≤ 100) : p1__law_line_right [s0, .val (flT a b o), .val (.int reach), .val (.bl (goodB [a, b] o)), s4, .val (.int x), .non, .non, .non, .non] =
    .nx [s0, .val (flT a b o), .val (.int reach), .val (.bl (goodB [a, b] o)), s4, .non, .non, .non, .non, .non] := by
  have r := rng2D_i (x := -reach) (y := reach + 1) (by omega) (by omega) (by omega) (by omega)
  have f := forS_const (t := tgN 6) (s := p0__law_line_right) (ds := intsFrom (-reach) (reach + 1 - -reach).toNat) (ρ := [s0, .val (flT a b o), .val (.int reach), .val (.bl (goodB [a, b] o)), s4, .val (.int x), .non, .non, .non, .non]) fun d hd => by
    obtain ⟨i, hi⟩ := List.getElem?_of_mem hd
    obtain ⟨h1, h2⟩ := intsFrom_get hi
    subst h2
    exact ⟨_, rfl, l.turn (sz10 hx.1 hx.2) (sz10 (by omega) (by omega))⟩
  simp only [defF_ap, lentS, List.map_cons, List.map_nil, List.nil_append, List.append_nil, List.length_cons, List.length_nil, if_true, if_false, Bool.false_eq_true, List.cons_append, Nat.reduceSub, Nat.reduceAdd, Nat.reduceEqDiff, List.replicate, sq_ap, asg_ap, dropS_ap, retS_ap, retN_ap, ifS_ap, ifE_ap, asB_ap, andB_ap, orB_ap, notB_ap, thw_ap, frz_ap, cst_ap, var_ap, move_ap, op1_ap, op2_ap, opN_ap, opV1_ap, opV2_ap, callF_ap, aCons_ap, aNil_ap, tupE_ap, lstE_ap, peek_ap, Option.bind_some, data_val, data_own, data_inp, of_some, bind_ok, stm_ok, seq_nx, seq_rt, skp_ap, fgt_ap, List.foldl_cons, List.foldl_nil, List.set_cons_succ, List.set_cons_zero, List.getElem?_cons_zero, List.getElem?_cons_succ, Bool.not_true, Bool.not_false, finF_rt0, finF_nx0, finF_exc0, finF_rt1, finF_nx1, eqD_i, neD_i, ltD_i, leD_i, gtD_i, geD_i, addD_i, subD_i, negD_i, intD_i, notD_b, lenD_l, lenD_t, tupleD_l, items_l, items_t, isInst_ap, itE_ap, rng1_ap, rng2_ap, tgN_ap, tgT_ap, tgs_nil, tgs_cons, sm1, sm2, sm3, sm4, sm5, bind_exc, stm_exc, seq_exc, decide_true, decide_false, Bool.true_or, Bool.false_or, nn_i, nn_t, nn_n, nn_s, ni_i, ni_t, ni_n, ni_s, makeE_ap, methE_ap, propE_ap, clRes_ret, clRes_exc, prRes_ret, Int.cast_ofNat_Int, Int.natCast_zero, Int.natCast_one, Int.reduceEq, Int.reduceLT, Int.reduceLE, eqD_b, neD_b, truV_ap, truD_b, p1__law_line_right, forE_ap, r, f]
theorem Ln.square (l : Ln a b o) {s0 s4 : Sl} {reach : Int} (hr : 1 ≤ reach ∧ reach ≤ 5) : forE (rng2 (op1 negD (var 2)) (op2 addD (var 2) (cst (.int 1)))) (tgN 5) p1__law_line_right [s0, .val (flT a b o), .val (.int reach), .val (.bl (goodB [a, b] o)), s4, .non, .non, .non, .non, .non] =
    .nx [s0, .val (flT a b o), .val (.int reach), .val (.bl (goodB [a, b] o)), s4, .non, .non, .non, .non, .non] := by
  have r := rng2D_i (x := -reach) (y := reach + 1) (by omega) (by omega) (by omega) (by omega)
  have f := forS_const (t := tgN 5) (s := p1__law_line_right) (ds := intsFrom (-reach) (reach + 1 - -reach).toNat) (ρ := [s0, .val (flT a b o), .val (.int reach), .val (.bl (goodB [a, b] o)), s4, .non, .non, .non, .non, .non]) fun d hd => by
    obtain ⟨i, hi⟩ := List.getElem?_of_mem hd
    obtain ⟨h1, h2⟩ := intsFrom_get hi
    subst h2
    exact ⟨_, rfl, l.turns hr (by omega)⟩
  simp only [defF_ap, lentS, List.map_cons, List.map_nil, List.nil_append, List.append_nil, List.length_cons, List.length_nil, if_true, if_false, Bool.false_eq_true, List.cons_append, Nat.reduceSub, Nat.reduceAdd, Nat.reduceEqDiff, List.replicate, sq_ap, asg_ap, dropS_ap, retS_ap, retN_ap, ifS_ap, ifE_ap, asB_ap, andB_ap, orB_ap, notB_ap, thw_ap, frz_ap, cst_ap, var_ap, move_ap, op1_ap, op2_ap, opN_ap, opV1_ap, opV2_ap, callF_ap, aCons_ap, aNil_ap, tupE_ap, lstE_ap, peek_ap, Option.bind_some, data_val, data_own, data_inp, of_some, bind_ok, stm_ok, seq_nx, seq_rt, skp_ap, fgt_ap, List.foldl_cons, List.foldl_nil, List.set_cons_succ, List.set_cons_zero, List.getElem?_cons_zero, List.getElem?_cons_succ, Bool.not_true, Bool.not_false, finF_rt0, finF_nx0, finF_exc0, finF_rt1, finF_nx1, eqD_i, neD_i, ltD_i, leD_i, gtD_i, geD_i, addD_i, subD_i, negD_i, intD_i, notD_b, lenD_l, lenD_t, tupleD_l, items_l, items_t, isInst_ap, itE_ap, rng1_ap, rng2_ap, tgN_ap, tgT_ap, tgs_nil, tgs_cons, sm1, sm2, sm3, sm4, sm5, bind_exc, stm_exc, seq_exc, decide_true, decide_false, Bool.true_or, Bool.false_or, nn_i, nn_t, nn_n, nn_s, ni_i, ni_t, ni_n, ni_s, makeE_ap, methE_ap, propE_ap, clRes_ret, clRes_exc, prRes_ret, Int.cast_ofNat_Int, Int.natCast_zero, Int.natCast_one, Int.reduceEq, Int.reduceLT, Int.reduceLE, eqD_b, neD_b, truV_ap, truD_b, forE_ap, r, f]
/-- a point to be tried -/
def Pok (d : D) : Prop := ∃ x y : Fq, d = pt [x, y] ∧ SF 300 x ∧ SF 300 y ∧ Can x ∧ Can y
theorem Ln.images (l : Ln a b o) {s0 s2 s3 s4 s5 s6 s8 : Sl} {ds : List D} (h : ∀ d ∈ ds, Pok d) : forE (itE (var 9)) (tgN 7) p2__law_line_right [s0, .val (flT a b o), s2, s3, s4, s5, s6, .non, s8, .own (.lst ds)] =
    .nx [s0, .val (flT a b o), s2, s3, s4, s5, s6, .non, s8, .val (.lst ds)] := by
  have f := forS_const (t := tgN 7) (s := p2__law_line_right) (ds := ds) (ρ := [s0, .val (flT a b o), s2, s3, s4, s5, s6, .non, s8, .val (.lst ds)]) fun d hd => by
    obtain ⟨x, y, e, h1, h2, h3, h4⟩ := h d hd
    subst e
    have i := l.image_right h1 h2 h3 h4
    exact ⟨_, rfl, by simp only [defF_ap, lentS, List.map_cons, List.map_nil, List.nil_append, List.append_nil, List.length_cons, List.length_nil, if_true, if_false, Bool.false_eq_true, List.cons_append, Nat.reduceSub, Nat.reduceAdd, Nat.reduceEqDiff, List.replicate, sq_ap, asg_ap, dropS_ap, retS_ap, retN_ap, ifS_ap, ifE_ap, asB_ap, andB_ap, orB_ap, notB_ap, thw_ap, frz_ap, cst_ap, var_ap, move_ap, op1_ap, op2_ap, opN_ap, opV1_ap, opV2_ap, callF_ap, aCons_ap, aNil_ap, tupE_ap, lstE_ap, peek_ap, Option.bind_some, data_val, data_own, data_inp, of_some, bind_ok, stm_ok, seq_nx, seq_rt, skp_ap, fgt_ap, List.foldl_cons, List.foldl_nil, List.set_cons_succ, List.set_cons_zero, List.getElem?_cons_zero, List.getElem?_cons_succ, Bool.not_true, Bool.not_false, finF_rt0, finF_nx0, finF_exc0, finF_rt1, finF_nx1, eqD_i, neD_i, ltD_i, leD_i, gtD_i, geD_i, addD_i, subD_i, negD_i, intD_i, notD_b, lenD_l, lenD_t, tupleD_l, items_l, items_t, isInst_ap, itE_ap, rng1_ap, rng2_ap, tgN_ap, tgT_ap, tgs_nil, tgs_cons, sm1, sm2, sm3, sm4, sm5, bind_exc, stm_exc, seq_exc, decide_true, decide_false, Bool.true_or, Bool.false_or, nn_i, nn_t, nn_n, nn_s, ni_i, ni_t, ni_n, ni_s, makeE_ap, methE_ap, propE_ap, clRes_ret, clRes_exc, prRes_ret, Int.cast_ofNat_Int, Int.natCast_zero, Int.natCast_one, Int.reduceEq, Int.reduceLT, Int.reduceLE, eqD_b, neD_b, truV_ap, truD_b, p2__law_line_right, i]⟩
  simp only [defF_ap, lentS, List.map_cons, List.map_nil, List.nil_append, List.append_nil, List.length_cons, List.length_nil, if_true, if_false, Bool.false_eq_true, List.cons_append, Nat.reduceSub, Nat.reduceAdd, Nat.reduceEqDiff, List.replicate, sq_ap, asg_ap, dropS_ap, retS_ap, retN_ap, ifS_ap, ifE_ap, asB_ap, andB_ap, orB_ap, notB_ap, thw_ap, frz_ap, cst_ap, var_ap, move_ap, op1_ap, op2_ap, opN_ap, opV1_ap, opV2_ap, callF_ap, aCons_ap, aNil_ap, tupE_ap, lstE_ap, peek_ap, Option.bind_some, data_val, data_own, data_inp, of_some, bind_ok, stm_ok, seq_nx, seq_rt, skp_ap, fgt_ap, List.foldl_cons, List.foldl_nil, List.set_cons_succ, List.set_cons_zero, List.getElem?_cons_zero, List.getElem?_cons_succ, Bool.not_true, Bool.not_false, finF_rt0, finF_nx0, finF_exc0, finF_rt1, finF_nx1, eqD_i, neD_i, ltD_i, leD_i, gtD_i, geD_i, addD_i, subD_i, negD_i, intD_i, notD_b, lenD_l, lenD_t, tupleD_l, items_l, items_t, isInst_ap, itE_ap, rng1_ap, rng2_ap, tgN_ap, tgT_ap, tgs_nil, tgs_cons, sm1, sm2, sm3, sm4, sm5, bind_exc, stm_exc, seq_exc, decide_true, decide_false, Bool.true_or, Bool.false_or, nn_i, nn_t, nn_n, nn_s, ni_i, ni_t, ni_n, ni_s, makeE_ap, methE_ap, propE_ap, clRes_ret, clRes_exc, prRes_ret, Int.cast_ofNat_Int, Int.natCast_zero, Int.natCast_one, Int.reduceEq, Int.reduceLT, Int.reduceLE, eqD_b, neD_b, truV_ap, truD_b, forE_ap, f]
theorem pok_i {x y : Int} (sx : Sz 300 x) (sy : Sz 300 y) : Pok (ipt x y) := ⟨(x, 1), (y, 1), rfl, SFw sx (by omega), SFw sy (by omega), canw _, canw _⟩
theorem pok_f {p q r s : Int} (hq : 0 < q) (hs : 0 < s) (k1 : Sz 10 p) (k2 : Sz 10 q) (k3 : Sz 10 r) (k4 : Sz 10 s) : Pok (.tup [fr (nrm p q), fr (nrm r s)]) :=
  ⟨nrm p q, nrm r s, rfl, (nrm_SF (by omega) k1 k2).mono (by omega), (nrm_SF (by omega) k3 k4).mono (by omega), nrm_can (by omega), nrm_can (by omega)⟩
theorem Ln.line_right (l : Ln a b o) {reach : Int} (hr : 1 ≤ reach ∧ reach ≤ 5) (is : List Int) : ∃ is', f__law_line_right (some (.lst (L is))) [flT a b o, .int reach] = .ret (.val (.bl true)) (some (.lst (L is'))) := by
  have mk := l.make
  have gd := l.good
  have du := due_ap l.sa l.sb l.so l.co
  have sq := fun s0 s4 => l.square (s0 := s0) (s4 := s4) hr
  obtain ⟨v1, b1, e1⟩ := tk_nat is (show 0 < 41 by decide)
  obtain ⟨v2, b2, e2⟩ := tk_nat is.dropLast (show 0 < 41 by decide)
  obtain ⟨v3, b3, e3⟩ := tk_nat is.dropLast.dropLast (show 0 < 9 by decide)
  obtain ⟨v4, b4, e4⟩ := tk_nat is.dropLast.dropLast.dropLast (show 0 < 9 by decide)
  obtain ⟨v5, b5, e5⟩ := tk_nat is.dropLast.dropLast.dropLast.dropLast (show 0 < 2 by decide)
  have e1 : tk is 41 = (v1 : Int) := e1
  have e2 : tk is.dropLast 41 = (v2 : Int) := e2
  have e3 : tk is.dropLast.dropLast 9 = (v3 : Int) := e3
  have e4 : tk is.dropLast.dropLast.dropLast 9 = (v4 : Int) := e4
  have e5 : tk is.dropLast.dropLast.dropLast.dropLast 2 = (v5 : Int) := e5
  have lp := lpoint2 (x := (v1 : Int) - 20) (y := (v2 : Int) - 20)
  have f1 := frac_ap (p := (v3 : Int)) (q := 2) (by decide) ((sz10 (by omega) (by omega)).mono (by omega)) ((sz10 (by omega) (by omega)).mono (by omega))
  have f2 := frac_ap (p := (v4 : Int) - 4) (q := 1 + (v5 : Int)) (by omega) ((sz10 (by omega) (by omega)).mono (by omega)) ((sz10 (by omega) (by omega)).mono (by omega))
  have p1 : Pok (ipt ((v1 : Int) - 20) ((v2 : Int) - 20)) := pok_i ((sz10 (by omega) (by omega)).mono (by omega)) ((sz10 (by omega) (by omega)).mono (by omega))
  have p2 : Pok (.tup [fr (nrm (v3 : Int) 2), fr (nrm ((v4 : Int) - 4) (1 + (v5 : Int)))]) := pok_f (by omega) (by omega) (sz10 (by omega) (by omega)) (sz10 (by omega) (by omega)) (sz10 (by omega) (by omega)) (sz10 (by omega) (by omega))
  have dA := fun is r => drawI (is := is) (r := r) (show (0 : Int) < 41 by decide)
  have dB := fun is r => drawI (is := is) (r := r) (show (0 : Int) < 9 by decide)
  have dC := fun is r => drawI (is := is) (r := r) (show (0 : Int) < 2 by decide)
  refine ⟨is.dropLast.dropLast.dropLast.dropLast.dropLast, ?_⟩
  cases h : goodB [a, b] o with
  | true =>
    rw [h] at gd du sq
    have pr := l.pair_right h
    obtain ⟨x, y, e, k1, k2, k3, k4, _, _⟩ := l.pair h
    have t1 : itemD (.tup [ipt x y, ipt (x + e * a) (y + e * b)]) (.int 1) = some (ipt (x + e * a) (y + e * b)) := rfl
    have p3 : Pok (ipt (x + e * a) (y + e * b)) := pok_i (sz_e k2 k3 l.sa) (sz_e k2 k4 l.sb)
    have im := fun s0 s2 s3 s4 s5 s6 s8 => l.images (s0 := s0) (s2 := s2) (s3 := s3) (s4 := s4) (s5 := s5) (s6 := s6) (s8 := s8) (ds := [ipt ((v1 : Int) - 20) ((v2 : Int) - 20), .tup [fr (nrm (v3 : Int) 2), fr (nrm ((v4 : Int) - 4) (1 + (v5 : Int)))], ipt (x + e * a) (y + e * b)]) fun d hd => by
      rcases List.mem_cons.mp hd with z | hd
      · rw [z]
        exact p1
      · rcases List.mem_cons.mp hd with z | hd
        · rw [z]
          exact p2
        · rw [List.mem_singleton.mp hd]
          exact p3
    simp only [defF_ap, lentS, List.map_cons, List.map_nil, List.nil_append, List.append_nil, List.length_cons, List.length_nil, if_true, if_false, Bool.false_eq_true, List.cons_append, Nat.reduceSub, Nat.reduceAdd, Nat.reduceEqDiff, List.replicate, sq_ap, asg_ap, dropS_ap, retS_ap, retN_ap, ifS_ap, ifE_ap, asB_ap, andB_ap, orB_ap, notB_ap, thw_ap, frz_ap, cst_ap, var_ap, move_ap, op1_ap, op2_ap, opN_ap, opV1_ap, opV2_ap, callF_ap, aCons_ap, aNil_ap, tupE_ap, lstE_ap, peek_ap, Option.bind_some, data_val, data_own, data_inp, of_some, bind_ok, stm_ok, seq_nx, seq_rt, skp_ap, fgt_ap, List.foldl_cons, List.foldl_nil, List.set_cons_succ, List.set_cons_zero, List.getElem?_cons_zero, List.getElem?_cons_succ, Bool.not_true, Bool.not_false, finF_rt0, finF_nx0, finF_exc0, finF_rt1, finF_nx1, eqD_i, neD_i, ltD_i, leD_i, gtD_i, geD_i, addD_i, subD_i, negD_i, intD_i, notD_b, lenD_l, lenD_t, tupleD_l, items_l, items_t, isInst_ap, itE_ap, rng1_ap, rng2_ap, tgN_ap, tgT_ap, tgs_nil, tgs_cons, sm1, sm2, sm3, sm4, sm5, bind_exc, stm_exc, seq_exc, decide_true, decide_false, Bool.true_or, Bool.false_or, nn_i, nn_t, nn_n, nn_s, ni_i, ni_t, ni_n, ni_s, makeE_ap, methE_ap, propE_ap, clRes_ret, clRes_exc, prRes_ret, Int.cast_ofNat_Int, Int.natCast_zero, Int.natCast_one, Int.reduceEq, Int.reduceLT, Int.reduceLE, eqD_b, neD_b, truV_ap, truD_b, f__law_line_right, m__law_line_right, du, fl0, fl1, mk, mkRes_fl, gd, bl_bool, truV_ap, truD_b, pr, sq, dA, e1, dB, e2, dC, e3, e4, e5, lp, f1, f2, appE_ap, lstAt_ap, putAt_ap, mutD_own, put_own, k1, t1, im]
  | false =>
    rw [h] at gd du sq
    have pn := pair_non (as := [a, b]) (o := o) (hdi (P := Sz 4400) (l.sa.mono (by omega)) (l.sb.mono (by omega))) rfl (l.so.mono (by omega)) h
    have im := fun s0 s2 s3 s4 s5 s6 s8 => l.images (s0 := s0) (s2 := s2) (s3 := s3) (s4 := s4) (s5 := s5) (s6 := s6) (s8 := s8) (ds := [ipt ((v1 : Int) - 20) ((v2 : Int) - 20), .tup [fr (nrm (v3 : Int) 2), fr (nrm ((v4 : Int) - 4) (1 + (v5 : Int)))]]) fun d hd => by
      rcases List.mem_cons.mp hd with z | hd
      · rw [z]
        exact p1
      · rw [List.mem_singleton.mp hd]
        exact p2
    simp only [defF_ap, lentS, List.map_cons, List.map_nil, List.nil_append, List.append_nil, List.length_cons, List.length_nil, if_true, if_false, Bool.false_eq_true, List.cons_append, Nat.reduceSub, Nat.reduceAdd, Nat.reduceEqDiff, List.replicate, sq_ap, asg_ap, dropS_ap, retS_ap, retN_ap, ifS_ap, ifE_ap, asB_ap, andB_ap, orB_ap, notB_ap, thw_ap, frz_ap, cst_ap, var_ap, move_ap, op1_ap, op2_ap, opN_ap, opV1_ap, opV2_ap, callF_ap, aCons_ap, aNil_ap, tupE_ap, lstE_ap, peek_ap, Option.bind_some, data_val, data_own, data_inp, of_some, bind_ok, stm_ok, seq_nx, seq_rt, skp_ap, fgt_ap, List.foldl_cons, List.foldl_nil, List.set_cons_succ, List.set_cons_zero, List.getElem?_cons_zero, List.getElem?_cons_succ, Bool.not_true, Bool.not_false, finF_rt0, finF_nx0, finF_exc0, finF_rt1, finF_nx1, eqD_i, neD_i, ltD_i, leD_i, gtD_i, geD_i, addD_i, subD_i, negD_i, intD_i, notD_b, lenD_l, lenD_t, tupleD_l, items_l, items_t, isInst_ap, itE_ap, rng1_ap, rng2_ap, tgN_ap, tgT_ap, tgs_nil, tgs_cons, sm1, sm2, sm3, sm4, sm5, bind_exc, stm_exc, seq_exc, decide_true, decide_false, Bool.true_or, Bool.false_or, nn_i, nn_t, nn_n, nn_s, ni_i, ni_t, ni_n, ni_s, makeE_ap, methE_ap, propE_ap, clRes_ret, clRes_exc, prRes_ret, Int.cast_ofNat_Int, Int.natCast_zero, Int.natCast_one, Int.reduceEq, Int.reduceLT, Int.reduceLE, eqD_b, neD_b, truV_ap, truD_b, f__law_line_right, m__law_line_right, du, fl0, fl1, mk, mkRes_fl, gd, bl_bool, truV_ap, truD_b, sq, dA, e1, dB, e2, dC, e3, e4, e5, lp, f1, f2, appE_ap, lstAt_ap, putAt_ap, mutD_own, put_own, pn, isN2_n, im]
end
end HT

set_option Elab.async false
set_option linter.all false
set_option maxRecDepth 100000
set_option maxHeartbeats 4000000
/-! K90Q6: a direction drawn; a line between two whole points. -/
namespace HT
open PySem PySem.Spec PyProof.Rows L2 HM
theorem sz40 {x : Int} (h1 : -1000000000001 ≤ x) (h2 : x ≤ 1000000000001) : Sz 40 x := by
  unfold Sz
  have : (2 : Nat) ^ 40 = 1099511627776 := by decide
  omega
theorem dir_ap {w : Int} (hw : 1 ≤ w ∧ w ≤ 1000000000000) (is : List Int) : ∃ (is' : List Int) (a b : Int), f__law_direction (some (.lst (L is))) [.int w] = .ret (.val (fr (a, b))) (some (.lst (L is'))) ∧ gc a b = 1 ∧ comF [a, b] = 1 ∧ Sz 50 a ∧ Sz 50 b := by
  have t1 := take_ap is (m := w) (by omega)
  have m1 := mulD_z (x := 2) (y := w) ((sz40 (by decide) (by decide)).mono (by omega)) ((sz40 (by omega) (by omega)).mono (by omega))
  have t2 := take_ap is.dropLast (m := 2 * w + 1) (by omega)
  have t3 := take_ap is.dropLast.dropLast (m := 6) (by decide)
  have b1 := tk_lo is (m := w) (by omega)
  have b2 := tk_hi is (m := w) (by omega)
  have b3 := tk_lo is.dropLast (m := 2 * w + 1) (by omega)
  have b4 := tk_hi is.dropLast (m := 2 * w + 1) (by omega)
  generalize tk is w = v1 at *
  generalize tk is.dropLast (2 * w + 1) = v2 at *
  generalize tk is.dropLast.dropLast 6 = v3 at *
  have s1 := sz40 (x := v1 + 1) (by omega) (by omega)
  have s2 := sz40 (x := v2 - w) (by omega) (by omega)
  have dv := div_ap (a := v1 + 1) (b := v2 - w) (s2.mono (by omega))
  have gp : 0 < gc (v1 + 1) (v2 - w) := by
    rw [gc_comm]
    exact gc_pos (by omega)
  have gs : Sz 40 (gc (v1 + 1) (v2 - w)) := by
    rw [gc_comm]
    exact gc_sz (by omega) s1
  have f1 := fdivD_z (x := v1 + 1) (show gc (v1 + 1) (v2 - w) ≠ 0 by omega) (gs.mono (by omega))
  have f2 := fdivD_z (x := v2 - w) (show gc (v1 + 1) (v2 - w) ≠ 0 by omega) (gs.mono (by omega))
  refine ⟨is.dropLast.dropLast.dropLast, ?_⟩
  by_cases h1 : v3 = 1
  · refine ⟨0, 1, ?_, rfl, rfl, (sz10 (by decide) (by decide)).mono (by omega), (sz10 (by decide) (by decide)).mono (by omega)⟩
    simp only [defF_ap, lentS, List.map_cons, List.map_nil, List.nil_append, List.append_nil, List.length_cons, List.length_nil, if_true, if_false, Bool.false_eq_true, List.cons_append, Nat.reduceSub, Nat.reduceAdd, Nat.reduceEqDiff, List.replicate, sq_ap, asg_ap, dropS_ap, retS_ap, retN_ap, ifS_ap, ifE_ap, asB_ap, andB_ap, orB_ap, notB_ap, thw_ap, frz_ap, cst_ap, var_ap, move_ap, op1_ap, op2_ap, opN_ap, opV1_ap, opV2_ap, callF_ap, aCons_ap, aNil_ap, tupE_ap, lstE_ap, peek_ap, Option.bind_some, data_val, data_own, data_inp, of_some, bind_ok, stm_ok, seq_nx, seq_rt, skp_ap, fgt_ap, List.foldl_cons, List.foldl_nil, List.set_cons_succ, List.set_cons_zero, List.getElem?_cons_zero, List.getElem?_cons_succ, Bool.not_true, Bool.not_false, finF_rt0, finF_nx0, finF_exc0, finF_rt1, finF_nx1, eqD_i, neD_i, ltD_i, leD_i, gtD_i, geD_i, addD_i, subD_i, negD_i, intD_i, notD_b, lenD_l, lenD_t, tupleD_l, items_l, items_t, isInst_ap, itE_ap, rng1_ap, rng2_ap, tgN_ap, tgT_ap, tgs_nil, tgs_cons, sm1, sm2, sm3, sm4, sm5, bind_exc, stm_exc, seq_exc, decide_true, decide_false, Bool.true_or, Bool.false_or, nn_i, nn_t, nn_n, nn_s, ni_i, ni_t, ni_n, ni_s, makeE_ap, methE_ap, propE_ap, clRes_ret, clRes_exc, prRes_ret, Int.cast_ofNat_Int, Int.natCast_zero, Int.natCast_one, Int.reduceEq, Int.reduceLT, Int.reduceLE, eqD_b, neD_b, truV_ap, truD_b, f__law_direction, m__law_direction, callL_ap, mutD_inp, putAt_ap, put_inp, t1, m1, t2, t3, dv, h1]
    rfl
  · by_cases h2 : v3 = 2
    · refine ⟨1, 0, ?_, rfl, rfl, (sz10 (by decide) (by decide)).mono (by omega), (sz10 (by decide) (by decide)).mono (by omega)⟩
      simp only [defF_ap, lentS, List.map_cons, List.map_nil, List.nil_append, List.append_nil, List.length_cons, List.length_nil, if_true, if_false, Bool.false_eq_true, List.cons_append, Nat.reduceSub, Nat.reduceAdd, Nat.reduceEqDiff, List.replicate, sq_ap, asg_ap, dropS_ap, retS_ap, retN_ap, ifS_ap, ifE_ap, asB_ap, andB_ap, orB_ap, notB_ap, thw_ap, frz_ap, cst_ap, var_ap, move_ap, op1_ap, op2_ap, opN_ap, opV1_ap, opV2_ap, callF_ap, aCons_ap, aNil_ap, tupE_ap, lstE_ap, peek_ap, Option.bind_some, data_val, data_own, data_inp, of_some, bind_ok, stm_ok, seq_nx, seq_rt, skp_ap, fgt_ap, List.foldl_cons, List.foldl_nil, List.set_cons_succ, List.set_cons_zero, List.getElem?_cons_zero, List.getElem?_cons_succ, Bool.not_true, Bool.not_false, finF_rt0, finF_nx0, finF_exc0, finF_rt1, finF_nx1, eqD_i, neD_i, ltD_i, leD_i, gtD_i, geD_i, addD_i, subD_i, negD_i, intD_i, notD_b, lenD_l, lenD_t, tupleD_l, items_l, items_t, isInst_ap, itE_ap, rng1_ap, rng2_ap, tgN_ap, tgT_ap, tgs_nil, tgs_cons, sm1, sm2, sm3, sm4, sm5, bind_exc, stm_exc, seq_exc, decide_true, decide_false, Bool.true_or, Bool.false_or, nn_i, nn_t, nn_n, nn_s, ni_i, ni_t, ni_n, ni_s, makeE_ap, methE_ap, propE_ap, clRes_ret, clRes_exc, prRes_ret, Int.cast_ofNat_Int, Int.natCast_zero, Int.natCast_one, Int.reduceEq, Int.reduceLT, Int.reduceLE, eqD_b, neD_b, truV_ap, truD_b, f__law_direction, m__law_direction, callL_ap, mutD_inp, putAt_ap, put_inp, t1, m1, t2, t3, dv, h2]
      rfl
    · have d1 : decide (v3 = 1) = false := decide_eq_false h1
      have d2 : decide (v3 = 2) = false := decide_eq_false h2
      obtain ⟨a, ha⟩ := gc_dvd_left (v1 + 1) (v2 - w)
      obtain ⟨b, hb⟩ := gc_dvd_right (v1 + 1) (v2 - w)
      have ea : (v1 + 1).fdiv (gc (v1 + 1) (v2 - w)) = a := by
        have := Int.mul_fdiv_cancel_left (a := gc (v1 + 1) (v2 - w)) a (by omega)
        rw [← ha] at this
        exact this
      have eb : (v2 - w).fdiv (gc (v1 + 1) (v2 - w)) = b := by
        have := Int.mul_fdiv_cancel_left (a := gc (v1 + 1) (v2 - w)) b (by omega)
        rw [← hb] at this
        exact this
      have sz1 : Sz 40 a := by
        rw [← ea]
        exact fdiv_sz gp (gc_dvd_left _ _) s1
      have sz2 : Sz 40 b := by
        rw [← eb]
        exact fdiv_sz gp (gc_dvd_right _ _) s2
      have g1 : gc a b = 1 := by
        have := gc_mul (a := a) (b := b) gp
        rw [← ha, ← hb] at this
        have k : gc (v1 + 1) (v2 - w) * 1 = gc (v1 + 1) (v2 - w) * gc a b := by rw [Int.mul_one]; exact this
        exact (Int.eq_of_mul_eq_mul_left (by omega) k).symm
      have pa : 0 < a := by
        rcases Int.lt_or_le 0 a with z | z
        · exact z
        · have := Int.mul_nonneg (show 0 ≤ gc (v1 + 1) (v2 - w) by omega) (show 0 ≤ -a by omega)
          rw [Int.mul_neg, ← ha] at this
          omega
      refine ⟨a, b, ?_, g1, comF_one g1 (.inl pa), sz1.mono (by omega), sz2.mono (by omega)⟩
      simp only [defF_ap, lentS, List.map_cons, List.map_nil, List.nil_append, List.append_nil, List.length_cons, List.length_nil, if_true, if_false, Bool.false_eq_true, List.cons_append, Nat.reduceSub, Nat.reduceAdd, Nat.reduceEqDiff, List.replicate, sq_ap, asg_ap, dropS_ap, retS_ap, retN_ap, ifS_ap, ifE_ap, asB_ap, andB_ap, orB_ap, notB_ap, thw_ap, frz_ap, cst_ap, var_ap, move_ap, op1_ap, op2_ap, opN_ap, opV1_ap, opV2_ap, callF_ap, aCons_ap, aNil_ap, tupE_ap, lstE_ap, peek_ap, Option.bind_some, data_val, data_own, data_inp, of_some, bind_ok, stm_ok, seq_nx, seq_rt, skp_ap, fgt_ap, List.foldl_cons, List.foldl_nil, List.set_cons_succ, List.set_cons_zero, List.getElem?_cons_zero, List.getElem?_cons_succ, Bool.not_true, Bool.not_false, finF_rt0, finF_nx0, finF_exc0, finF_rt1, finF_nx1, eqD_i, neD_i, ltD_i, leD_i, gtD_i, geD_i, addD_i, subD_i, negD_i, intD_i, notD_b, lenD_l, lenD_t, tupleD_l, items_l, items_t, isInst_ap, itE_ap, rng1_ap, rng2_ap, tgN_ap, tgT_ap, tgs_nil, tgs_cons, sm1, sm2, sm3, sm4, sm5, bind_exc, stm_exc, seq_exc, decide_true, decide_false, Bool.true_or, Bool.false_or, nn_i, nn_t, nn_n, nn_s, ni_i, ni_t, ni_n, ni_s, makeE_ap, methE_ap, propE_ap, clRes_ret, clRes_exc, prRes_ret, Int.cast_ofNat_Int, Int.natCast_zero, Int.natCast_one, Int.reduceEq, Int.reduceLT, Int.reduceLE, eqD_b, neD_b, truV_ap, truD_b, f__law_direction, m__law_direction, callL_ap, mutD_inp, putAt_ap, put_inp, t1, m1, t2, t3, dv, d1, d2, f1, f2, ea, eb]
      rfl
theorem fdir2 {a b : Int} {o : Fq} : fldD ["Flat"] "direction" (flD [a, b] o) = some (fr (a, b)) := fld_dir
/-- the flat between: good, its image -/
theorem betw_facts {x y z w d1 d2 c : Int} {o : Fq} (l : Ln d1 d2 o) (e1 : x - z = c * d1) (e2 : y - w = c * d2) (hc : c ≠ 0) (hv : vq o * (c : Rat) * 2 = ((x * x + y * y - (z * z + w * w) : Int) : Rat)) :
    goodB [d1, d2] o = true ∧ m1F d1 d2 o (x, 1) (y, 1) = (z, 1) ∧ m2F d1 d2 o (x, 1) (y, 1) = (w, 1) := by
  have hcr := rz hc
  have tv : 2 * vq o = ((d1 * (x + z) + d2 * (y + w) : Int) : Rat) := by
    have r1 : (x : Rat) - z = c * d1 := by exact_mod_cast e1
    have r2 : (y : Rat) - w = c * d2 := by exact_mod_cast e2
    push_cast at hv ⊢
    generalize vq o = O at *
    generalize (x : Rat) = X at *
    generalize (y : Rat) = Y at *
    generalize (z : Rat) = Z at *
    generalize (w : Rat) = W at *
    generalize (d1 : Rat) = A at *
    generalize (d2 : Rat) = B at *
    generalize (c : Rat) = C at *
    have e3 : X = Z + C * A := by grind
    have e4 : Y = W + C * B := by grind
    subst e3 e4
    have : C * (2 * O - (A * (Z + C * A + Z) + B * (W + C * B + W))) = 0 := by grind
    rcases Rat.mul_eq_zero.mp this with q | q
    · exact absurd q hcr
    · grind
  have o1 : ∀ x : Int, (0 : Int) < ((x, 1) : Fq).2 := fun _ => show (0 : Int) < 1 by decide
  obtain ⟨w1, w2⟩ := m1_val (a := d1) (b := d2) (x := (x, 1)) (y := (y, 1)) l.n l.so.1 (o1 x) (o1 y)
  obtain ⟨c1, c2⟩ := m_can (a := d1) (b := d2) (x := (x, 1)) (y := (y, 1)) l.n l.so.1 (o1 x) (o1 y)
  have nn := rn_ne l.n
  have sh : shR d1 d2 o (x, 1) (y, 1) = -(c : Rat) := by
    have r1 : (x : Rat) - z = c * d1 := by exact_mod_cast e1
    have r2 : (y : Rat) - w = c * d2 := by exact_mod_cast e2
    unfold shR
    rw [vq_one, vq_one]
    push_cast at tv
    generalize vq o = O at *
    generalize (x : Rat) = X at *
    generalize (y : Rat) = Y at *
    generalize (z : Rat) = Z at *
    generalize (w : Rat) = W at *
    generalize (d1 : Rat) = A at *
    generalize (d2 : Rat) = B at *
    generalize (c : Rat) = C at *
    have e3 : Z = X - C * A := by grind
    have e4 : W = Y - C * B := by grind
    subst e3 e4
    grind
  rw [sh, vq_one] at w1 w2
  refine ⟨(goodB_iff l.co).mpr ⟨_, ctw_val tv l.so.1, ?_⟩, vq_inj c1 (canw _) ?_, vq_inj c2 (canw _) ?_⟩
  · rw [sqs2]
    obtain ⟨n, hn⟩ : ∃ n, d1 * d1 + d2 * d2 = n := ⟨_, rfl⟩
    have : d1 * (x + z) + d2 * (y + w) = 2 * (d1 * z + d2 * w) + c * n := by
      have e3 : x = z + c * d1 := by omega
      have e4 : y = w + c * d2 := by omega
      rw [e3, e4, ← hn]
      grind
    rw [this, hn]
    by_cases q : n % 2 = 0
    · left
      obtain ⟨m, hm⟩ : ∃ m, n = 2 * m := ⟨n / 2, by omega⟩
      have : 2 * (d1 * z + d2 * w) + c * n = 2 * (d1 * z + d2 * w + c * m) := by
        rw [hm]
        grind
      rw [this]
      omega
    · right
      omega
  · rw [w1, vq_one]
    have r1 : (x : Rat) - z = c * d1 := by exact_mod_cast e1
    grind
  · rw [w2, vq_one]
    have r2 : (y : Rat) - w = c * d2 := by exact_mod_cast e2
    grind
theorem between_right {w : Int} (hw : 1 ≤ w ∧ w ≤ 1000000000000) (is : List Int) : ∃ is', f__law_between_right (some (.lst (L is))) [.int w] = .ret (.val (.bl true)) (some (.lst (L is'))) := by
  have m1 := mulD_z (x := 2) (y := w) ((sz40 (by decide) (by decide)).mono (by omega)) ((sz40 (by omega) (by omega)).mono (by omega))
  have t1 := fun is => take_ap is (m := 2 * w + 1) (by omega)
  have t2 := fun is => take_ap is (m := w) (by omega)
  have t3 := fun is => take_ap is (m := 2) (by decide)
  have t4 := fun is => take_ap is (m := 3) (by decide)
  have k1 := tk_lo is (m := 2 * w + 1) (by omega)
  have k2 := tk_hi is (m := 2 * w + 1) (by omega)
  have k3 := tk_lo is.dropLast (m := 2 * w + 1) (by omega)
  have k4 := tk_hi is.dropLast (m := 2 * w + 1) (by omega)
  have k5 := tk_lo is.dropLast.dropLast (m := 2 * w + 1) (by omega)
  have k6 := tk_hi is.dropLast.dropLast (m := 2 * w + 1) (by omega)
  have k7 := tk_lo is.dropLast.dropLast.dropLast (m := w) (by omega)
  have k8 := tk_hi is.dropLast.dropLast.dropLast (m := w) (by omega)
  have k9 := tk_lo is.dropLast.dropLast.dropLast.dropLast.dropLast (m := 3) (by omega)
  have k10 := tk_hi is.dropLast.dropLast.dropLast.dropLast.dropLast (m := 3) (by omega)
  obtain ⟨x, ex⟩ : ∃ x, tk is (2 * w + 1) - w = x := ⟨_, rfl⟩
  obtain ⟨y, ey⟩ : ∃ x, tk is.dropLast (2 * w + 1) - w = x := ⟨_, rfl⟩
  obtain ⟨s, es⟩ : ∃ x, tk is.dropLast.dropLast (2 * w + 1) - w = x := ⟨_, rfl⟩
  obtain ⟨u, eu⟩ : ∃ x, 1 + tk is.dropLast.dropLast.dropLast w = x := ⟨_, rfl⟩
  obtain ⟨o, eo⟩ : ∃ x, 1 + tk is.dropLast.dropLast.dropLast.dropLast.dropLast 3 = x := ⟨_, rfl⟩
  -- behind the step
  have key : ∀ p q : Int, (-w ≤ p ∧ p ≤ w) → (-w ≤ q ∧ q ≤ w) → (p ≠ 0 ∨ q ≠ 0) → ∃ d1 d2 f, mulD (.int o) (.int p) = some (.int (o * p)) ∧ mulD (.int o) (.int q) = some (.int (o * q)) ∧
      f_between none [ipt x y, ipt (x + o * p) (y + o * q)] = .ret (.own (flD [d1, d2] f)) none ∧ f_is_good none [flD [d1, d2] f] = .ret (.val (.bl true)) none ∧ f__law_due none [flT d1 d2 f] = .ret (.val (.bl true)) none ∧
      f__law_pair_right none [flT d1 d2 f] = .ret (.val (.bl true)) none ∧ f_whole_mirrored none [flD [d1, d2] f, ipt x y] = .ret (.val (ipt (x + o * p) (y + o * q))) none ∧ f__law_mirrored none [flT d1 d2 f, ipt x y] = .ret (.val (ipt (x + o * p) (y + o * q))) none := fun p q hp hq hpq => by
    have ho : o = 1 ∨ o = 2 ∨ o = 3 := by omega
    have so : Sz 10 o := sz10 (by omega) (by omega)
    have sp : Sz 40 p := sz40 (by omega) (by omega)
    have sq : Sz 40 q := sz40 (by omega) (by omega)
    have bp : -3000000000000 ≤ o * p ∧ o * p ≤ 3000000000000 := by rcases ho with z | z | z <;> rw [z] <;> omega
    have bq : -3000000000000 ≤ o * q ∧ o * q ≤ 3000000000000 := by rcases ho with z | z | z <;> rw [z] <;> omega
    have big : ∀ {x : Int}, -4000000000000 ≤ x → x ≤ 4000000000000 → Sz 45 x := fun {x} h1 h2 => by
      unfold Sz
      have : (2 : Nat) ^ 45 = 35184372088832 := by decide
      omega
    have np : o * p ≠ 0 ∨ o * q ≠ 0 := by
      rcases hpq with z | z
      · exact .inl (Int.mul_ne_zero (by omega) z)
      · exact .inr (Int.mul_ne_zero (by omega) z)
    obtain ⟨d1, d2, c, f, j1, j2, j3, j4, j5, j6, j7, j8, j9, j10, j11⟩ := betw_ap (x := x) (y := y) (z := x + o * p) (w := y + o * q) (big (by omega) (by omega)) (big (by omega) (by omega)) (big (by omega) (by omega)) (big (by omega) (by omega)) (by omega)
    have l : Ln d1 d2 f := ⟨j5, j6, j7, j8, j9, j10⟩
    obtain ⟨g1, g2, g3⟩ := betw_facts l j2 j3 j4 j11
    have gd := l.good
    have du := due_ap l.sa l.sb l.so l.co
    rw [g1] at gd du
    have sx : SF 300 (x, 1) := (SFw (big (x := x) (by omega) (by omega)) (by omega)).mono (by omega)
    have sy : SF 300 (y, 1) := (SFw (big (x := y) (by omega) (by omega)) (by omega)).mono (by omega)
    have wm := wm_ap l.g l.sa l.sb l.so sx sy (canw x) (canw y)
    have lm := lmir_ap l.g l.sa l.sb l.so sx sy
    rw [g2, g3, whPw, whPw] at wm
    rw [g2, g3] at lm
    exact ⟨d1, d2, f, mulD_z (so.mono (by omega)) (sp.mono (by omega)), mulD_z (so.mono (by omega)) (sq.mono (by omega)), j1, gd, du, l.pair_right g1, wm, lm⟩
  have r2 := rng1_i (x := 2) (by decide)
  have r2 : rng1D (.int 2) = some [.int 0, .int 1] := r2
  have mir_e : ∀ p q : Int, eqD (ipt p q) (ipt p q) = some (.bl true) := fun p q => by
    have := eqD_pt [(p, 1), (q, 1)] [(p, 1), (q, 1)]
    rw [decide_eq_true rfl] at this
    exact this
  refine ⟨is.dropLast.dropLast.dropLast.dropLast.dropLast.dropLast, ?_⟩
  have lp1 := lpoint2 (x := x) (y := y)
  by_cases h : tk is.dropLast.dropLast.dropLast.dropLast 2 = 1
  · obtain ⟨d1, d2, f, a1, a2, a3, a4, a5, a6, a7, a8⟩ := key u 0 (by omega) (by omega) (by omega)
    have lp2 := lpoint2 (x := x + o * u) (y := y + o * 0)
    have fl : D.tup [fr (d1, d2), fr f] = flT d1 d2 f := rfl
    simp only [defF_ap, lentS, List.map_cons, List.map_nil, List.nil_append, List.append_nil, List.length_cons, List.length_nil, if_true, if_false, Bool.false_eq_true, List.cons_append, Nat.reduceSub, Nat.reduceAdd, Nat.reduceEqDiff, List.replicate, sq_ap, asg_ap, dropS_ap, retS_ap, retN_ap, ifS_ap, ifE_ap, asB_ap, andB_ap, orB_ap, notB_ap, thw_ap, frz_ap, cst_ap, var_ap, move_ap, op1_ap, op2_ap, opN_ap, opV1_ap, opV2_ap, callF_ap, aCons_ap, aNil_ap, tupE_ap, lstE_ap, peek_ap, Option.bind_some, data_val, data_own, data_inp, of_some, bind_ok, stm_ok, seq_nx, seq_rt, skp_ap, fgt_ap, List.foldl_cons, List.foldl_nil, List.set_cons_succ, List.set_cons_zero, List.getElem?_cons_zero, List.getElem?_cons_succ, Bool.not_true, Bool.not_false, finF_rt0, finF_nx0, finF_exc0, finF_rt1, finF_nx1, eqD_i, neD_i, ltD_i, leD_i, gtD_i, geD_i, addD_i, subD_i, negD_i, intD_i, notD_b, lenD_l, lenD_t, tupleD_l, items_l, items_t, isInst_ap, itE_ap, rng1_ap, rng2_ap, tgN_ap, tgT_ap, tgs_nil, tgs_cons, sm1, sm2, sm3, sm4, sm5, bind_exc, stm_exc, seq_exc, decide_true, decide_false, Bool.true_or, Bool.false_or, nn_i, nn_t, nn_n, nn_s, ni_i, ni_t, ni_n, ni_s, makeE_ap, methE_ap, propE_ap, clRes_ret, clRes_exc, prRes_ret, Int.cast_ofNat_Int, Int.natCast_zero, Int.natCast_one, Int.reduceEq, Int.reduceLT, Int.reduceLE, eqD_b, neD_b, truV_ap, truD_b, f__law_between_right, m__law_between_right, callL_ap, mutD_inp, putAt_ap, put_inp, lcE_ap, r2, wipeR_cons, wipeR_nil, lcS_cons, lcS_nil, unwipe_cons, unwipe_nil, keepV_non, m1, t1, t2, t3, t4, h, ex, ey, es, eu, eo, il20, il21, lp1, a1, a2, lp2, a3, fdir2, fld_off, fl, a4, a5, a6, isBD_b, andV_ap, a7, a8, mir_e]
  · have d0 : decide (tk is.dropLast.dropLast.dropLast.dropLast 2 = 1) = false := decide_eq_false h
    obtain ⟨d1, d2, f, a1, a2, a3, a4, a5, a6, a7, a8⟩ := key s u (by omega) (by omega) (by omega)
    have lp2 := lpoint2 (x := x + o * s) (y := y + o * u)
    have fl : D.tup [fr (d1, d2), fr f] = flT d1 d2 f := rfl
    simp only [defF_ap, lentS, List.map_cons, List.map_nil, List.nil_append, List.append_nil, List.length_cons, List.length_nil, if_true, if_false, Bool.false_eq_true, List.cons_append, Nat.reduceSub, Nat.reduceAdd, Nat.reduceEqDiff, List.replicate, sq_ap, asg_ap, dropS_ap, retS_ap, retN_ap, ifS_ap, ifE_ap, asB_ap, andB_ap, orB_ap, notB_ap, thw_ap, frz_ap, cst_ap, var_ap, move_ap, op1_ap, op2_ap, opN_ap, opV1_ap, opV2_ap, callF_ap, aCons_ap, aNil_ap, tupE_ap, lstE_ap, peek_ap, Option.bind_some, data_val, data_own, data_inp, of_some, bind_ok, stm_ok, seq_nx, seq_rt, skp_ap, fgt_ap, List.foldl_cons, List.foldl_nil, List.set_cons_succ, List.set_cons_zero, List.getElem?_cons_zero, List.getElem?_cons_succ, Bool.not_true, Bool.not_false, finF_rt0, finF_nx0, finF_exc0, finF_rt1, finF_nx1, eqD_i, neD_i, ltD_i, leD_i, gtD_i, geD_i, addD_i, subD_i, negD_i, intD_i, notD_b, lenD_l, lenD_t, tupleD_l, items_l, items_t, isInst_ap, itE_ap, rng1_ap, rng2_ap, tgN_ap, tgT_ap, tgs_nil, tgs_cons, sm1, sm2, sm3, sm4, sm5, bind_exc, stm_exc, seq_exc, decide_true, decide_false, Bool.true_or, Bool.false_or, nn_i, nn_t, nn_n, nn_s, ni_i, ni_t, ni_n, ni_s, makeE_ap, methE_ap, propE_ap, clRes_ret, clRes_exc, prRes_ret, Int.cast_ofNat_Int, Int.natCast_zero, Int.natCast_one, Int.reduceEq, Int.reduceLT, Int.reduceLE, eqD_b, neD_b, truV_ap, truD_b, f__law_between_right, m__law_between_right, callL_ap, mutD_inp, putAt_ap, put_inp, lcE_ap, r2, wipeR_cons, wipeR_nil, lcS_cons, lcS_nil, unwipe_cons, unwipe_nil, keepV_non, m1, t1, t2, t3, t4, d0, ex, ey, es, eu, eo, il20, il21, lp1, a1, a2, lp2, a3, fdir2, fld_off, fl, a4, a5, a6, isBD_b, andV_ap, a7, a8, mir_e]
end HT

set_option Elab.async false
set_option linter.all false
set_option maxRecDepth 100000
set_option maxHeartbeats 4000000
/-! K90Q7: what is refused. -/
namespace HT
open PySem PySem.Spec PyProof.Rows L2 HM
theorem mt_so : mtOf mt (.own "OtherSpace") (.own "BadPoint") = some false := by decide +kernel
theorem mt_ss : mtOf mt (.own "OtherSpace") (.own "OtherSpace") = some true := by decide +kernel
theorem mt_pp : mtOf mt (.own "BadPoint") (.own "BadPoint") = some true := by decide +kernel
theorem fld_wanted {ρ : Rho} (h : ρ[3]? = some .pnd) (g w : D) : exFld ["got", "wanted"] [g, w] "wanted" 3 ρ = .ok w ρ := by
  unfold exFld
  rw [h]
  rfl
theorem fld_got {ρ : Rho} (h : ρ[3]? = some .pnd) (g w : D) : exFld ["got", "wanted"] [g, w] "got" 3 ρ = .ok g ρ := by
  unfold exFld
  rw [h]
  rfl
theorem fld_place {ρ : Rho} (h : ρ[3]? = some .pnd) (g : D) : exFld ["place"] [g] "place" 3 ρ = .ok g ρ := by
  unfold exFld
  rw [h]
  rfl
def spc (s : Int) : D := .tup [.str "space", .int 2, .int s]
section
variable {a b : Int} {o : Fq}
/-- flats that are no lines -/
theorem ref_wide {as : List Int} {o : Fq} {d : D} {s : Int} (hs : s ≠ 2) (hl : (as.length : Int) = s) {w : Int} (hw : w = 0 ∨ w = 1 ∨ w = 2) : f__law_refusal none [.int w, .lst [flD as o, d]] = .ret (.val (spc s)) none := by
  have g := good_other (as := as) (o := o) (by omega)
  rw [hl] at g
  have fs := fld_size (as := as) (o := o)
  rw [hl] at fs
  have p := plane_other hs
  have gp : f_good_pair none [flD as o] = .exc (.own "OtherSpace") ["got", "wanted"] [.int s, .int 2] none := by
    simp only [defF_ap, lentS, List.map_cons, List.map_nil, List.nil_append, List.append_nil, List.length_cons, List.length_nil, if_true, if_false, Bool.false_eq_true, List.cons_append, Nat.reduceSub, Nat.reduceAdd, Nat.reduceEqDiff, List.replicate, sq_ap, asg_ap, dropS_ap, retS_ap, retN_ap, ifS_ap, ifE_ap, asB_ap, andB_ap, orB_ap, notB_ap, thw_ap, frz_ap, cst_ap, var_ap, move_ap, op1_ap, op2_ap, opN_ap, opV1_ap, opV2_ap, callF_ap, aCons_ap, aNil_ap, tupE_ap, lstE_ap, peek_ap, Option.bind_some, data_val, data_own, data_inp, of_some, bind_ok, stm_ok, seq_nx, seq_rt, skp_ap, fgt_ap, List.foldl_cons, List.foldl_nil, List.set_cons_succ, List.set_cons_zero, List.getElem?_cons_zero, List.getElem?_cons_succ, Bool.not_true, Bool.not_false, finF_rt0, finF_nx0, finF_exc0, finF_rt1, finF_nx1, eqD_i, neD_i, ltD_i, leD_i, gtD_i, geD_i, addD_i, subD_i, negD_i, intD_i, notD_b, lenD_l, lenD_t, tupleD_l, items_l, items_t, isInst_ap, itE_ap, rng1_ap, rng2_ap, tgN_ap, tgT_ap, tgs_nil, tgs_cons, sm1, sm2, sm3, sm4, sm5, bind_exc, stm_exc, seq_exc, decide_true, decide_false, Bool.true_or, Bool.false_or, nn_i, nn_t, nn_n, nn_s, ni_i, ni_t, ni_n, ni_s, makeE_ap, methE_ap, propE_ap, clRes_ret, clRes_exc, prRes_ret, Int.cast_ofNat_Int, Int.natCast_zero, Int.natCast_one, Int.reduceEq, Int.reduceLT, Int.reduceLE, eqD_b, neD_b, truV_ap, truD_b, f_good_pair, m_good_pair, g]
  have wm : f_whole_mirrored none [flD as o, d] = .exc (.own "OtherSpace") ["got", "wanted"] [.int s, .int 2] none := by
    simp only [defF_ap, lentS, List.map_cons, List.map_nil, List.nil_append, List.append_nil, List.length_cons, List.length_nil, if_true, if_false, Bool.false_eq_true, List.cons_append, Nat.reduceSub, Nat.reduceAdd, Nat.reduceEqDiff, List.replicate, sq_ap, asg_ap, dropS_ap, retS_ap, retN_ap, ifS_ap, ifE_ap, asB_ap, andB_ap, orB_ap, notB_ap, thw_ap, frz_ap, cst_ap, var_ap, move_ap, op1_ap, op2_ap, opN_ap, opV1_ap, opV2_ap, callF_ap, aCons_ap, aNil_ap, tupE_ap, lstE_ap, peek_ap, Option.bind_some, data_val, data_own, data_inp, of_some, bind_ok, stm_ok, seq_nx, seq_rt, skp_ap, fgt_ap, List.foldl_cons, List.foldl_nil, List.set_cons_succ, List.set_cons_zero, List.getElem?_cons_zero, List.getElem?_cons_succ, Bool.not_true, Bool.not_false, finF_rt0, finF_nx0, finF_exc0, finF_rt1, finF_nx1, eqD_i, neD_i, ltD_i, leD_i, gtD_i, geD_i, addD_i, subD_i, negD_i, intD_i, notD_b, lenD_l, lenD_t, tupleD_l, items_l, items_t, isInst_ap, itE_ap, rng1_ap, rng2_ap, tgN_ap, tgT_ap, tgs_nil, tgs_cons, sm1, sm2, sm3, sm4, sm5, bind_exc, stm_exc, seq_exc, decide_true, decide_false, Bool.true_or, Bool.false_or, nn_i, nn_t, nn_n, nn_s, ni_i, ni_t, ni_n, ni_s, makeE_ap, methE_ap, propE_ap, clRes_ret, clRes_exc, prRes_ret, Int.cast_ofNat_Int, Int.natCast_zero, Int.natCast_one, Int.reduceEq, Int.reduceLT, Int.reduceLE, eqD_b, neD_b, truV_ap, truD_b, f_whole_mirrored, m_whole_mirrored, fs, p]
  rcases hw with z | z | z
  · subst z
    simp only [defF_ap, lentS, List.map_cons, List.map_nil, List.nil_append, List.append_nil, List.length_cons, List.length_nil, if_true, if_false, Bool.false_eq_true, List.cons_append, Nat.reduceSub, Nat.reduceAdd, Nat.reduceEqDiff, List.replicate, sq_ap, asg_ap, dropS_ap, retS_ap, retN_ap, ifS_ap, ifE_ap, asB_ap, andB_ap, orB_ap, notB_ap, thw_ap, frz_ap, cst_ap, var_ap, move_ap, op1_ap, op2_ap, opN_ap, opV1_ap, opV2_ap, callF_ap, aCons_ap, aNil_ap, tupE_ap, lstE_ap, peek_ap, Option.bind_some, data_val, data_own, data_inp, of_some, bind_ok, stm_ok, seq_nx, seq_rt, skp_ap, fgt_ap, List.foldl_cons, List.foldl_nil, List.set_cons_succ, List.set_cons_zero, List.getElem?_cons_zero, List.getElem?_cons_succ, Bool.not_true, Bool.not_false, finF_rt0, finF_nx0, finF_exc0, finF_rt1, finF_nx1, eqD_i, neD_i, ltD_i, leD_i, gtD_i, geD_i, addD_i, subD_i, negD_i, intD_i, notD_b, lenD_l, lenD_t, tupleD_l, items_l, items_t, isInst_ap, itE_ap, rng1_ap, rng2_ap, tgN_ap, tgT_ap, tgs_nil, tgs_cons, sm1, sm2, sm3, sm4, sm5, bind_exc, stm_exc, seq_exc, decide_true, decide_false, Bool.true_or, Bool.false_or, nn_i, nn_t, nn_n, nn_s, ni_i, ni_t, ni_n, ni_s, makeE_ap, methE_ap, propE_ap, clRes_ret, clRes_exc, prRes_ret, Int.cast_ofNat_Int, Int.natCast_zero, Int.natCast_one, Int.reduceEq, Int.reduceLT, Int.reduceLE, eqD_b, neD_b, truV_ap, truD_b, f__law_refusal, m__law_refusal, tryS, il20, il21, g, catchS, mt_so, mt_ss, SOut.clean, fld_wanted, fld_got]
    rfl
  · subst z
    simp only [defF_ap, lentS, List.map_cons, List.map_nil, List.nil_append, List.append_nil, List.length_cons, List.length_nil, if_true, if_false, Bool.false_eq_true, List.cons_append, Nat.reduceSub, Nat.reduceAdd, Nat.reduceEqDiff, List.replicate, sq_ap, asg_ap, dropS_ap, retS_ap, retN_ap, ifS_ap, ifE_ap, asB_ap, andB_ap, orB_ap, notB_ap, thw_ap, frz_ap, cst_ap, var_ap, move_ap, op1_ap, op2_ap, opN_ap, opV1_ap, opV2_ap, callF_ap, aCons_ap, aNil_ap, tupE_ap, lstE_ap, peek_ap, Option.bind_some, data_val, data_own, data_inp, of_some, bind_ok, stm_ok, seq_nx, seq_rt, skp_ap, fgt_ap, List.foldl_cons, List.foldl_nil, List.set_cons_succ, List.set_cons_zero, List.getElem?_cons_zero, List.getElem?_cons_succ, Bool.not_true, Bool.not_false, finF_rt0, finF_nx0, finF_exc0, finF_rt1, finF_nx1, eqD_i, neD_i, ltD_i, leD_i, gtD_i, geD_i, addD_i, subD_i, negD_i, intD_i, notD_b, lenD_l, lenD_t, tupleD_l, items_l, items_t, isInst_ap, itE_ap, rng1_ap, rng2_ap, tgN_ap, tgT_ap, tgs_nil, tgs_cons, sm1, sm2, sm3, sm4, sm5, bind_exc, stm_exc, seq_exc, decide_true, decide_false, Bool.true_or, Bool.false_or, nn_i, nn_t, nn_n, nn_s, ni_i, ni_t, ni_n, ni_s, makeE_ap, methE_ap, propE_ap, clRes_ret, clRes_exc, prRes_ret, Int.cast_ofNat_Int, Int.natCast_zero, Int.natCast_one, Int.reduceEq, Int.reduceLT, Int.reduceLE, eqD_b, neD_b, truV_ap, truD_b, f__law_refusal, m__law_refusal, tryS, il20, il21, gp, catchS, mt_so, mt_ss, SOut.clean, fld_wanted, fld_got]
    rfl
  · subst z
    simp only [defF_ap, lentS, List.map_cons, List.map_nil, List.nil_append, List.append_nil, List.length_cons, List.length_nil, if_true, if_false, Bool.false_eq_true, List.cons_append, Nat.reduceSub, Nat.reduceAdd, Nat.reduceEqDiff, List.replicate, sq_ap, asg_ap, dropS_ap, retS_ap, retN_ap, ifS_ap, ifE_ap, asB_ap, andB_ap, orB_ap, notB_ap, thw_ap, frz_ap, cst_ap, var_ap, move_ap, op1_ap, op2_ap, opN_ap, opV1_ap, opV2_ap, callF_ap, aCons_ap, aNil_ap, tupE_ap, lstE_ap, peek_ap, Option.bind_some, data_val, data_own, data_inp, of_some, bind_ok, stm_ok, seq_nx, seq_rt, skp_ap, fgt_ap, List.foldl_cons, List.foldl_nil, List.set_cons_succ, List.set_cons_zero, List.getElem?_cons_zero, List.getElem?_cons_succ, Bool.not_true, Bool.not_false, finF_rt0, finF_nx0, finF_exc0, finF_rt1, finF_nx1, eqD_i, neD_i, ltD_i, leD_i, gtD_i, geD_i, addD_i, subD_i, negD_i, intD_i, notD_b, lenD_l, lenD_t, tupleD_l, items_l, items_t, isInst_ap, itE_ap, rng1_ap, rng2_ap, tgN_ap, tgT_ap, tgs_nil, tgs_cons, sm1, sm2, sm3, sm4, sm5, bind_exc, stm_exc, seq_exc, decide_true, decide_false, Bool.true_or, Bool.false_or, nn_i, nn_t, nn_n, nn_s, ni_i, ni_t, ni_n, ni_s, makeE_ap, methE_ap, propE_ap, clRes_ret, clRes_exc, prRes_ret, Int.cast_ofNat_Int, Int.natCast_zero, Int.natCast_one, Int.reduceEq, Int.reduceLT, Int.reduceLE, eqD_b, neD_b, truV_ap, truD_b, f__law_refusal, m__law_refusal, tryS, il20, il21, wm, catchS, mt_so, mt_ss, SOut.clean, fld_wanted, fld_got]
    rfl
theorem isfrac_int {x : Int} : f_is_fraction none [.int x] = .ret (.val (.bl false)) none := by
  have it : isT "tuple" (.int x) = some (.bl false) := is_tuple (.int x) trivial
  simp only [defF_ap, lentS, List.map_cons, List.map_nil, List.nil_append, List.append_nil, List.length_cons, List.length_nil, if_true, if_false, Bool.false_eq_true, List.cons_append, Nat.reduceSub, Nat.reduceAdd, Nat.reduceEqDiff, List.replicate, sq_ap, asg_ap, dropS_ap, retS_ap, retN_ap, ifS_ap, ifE_ap, asB_ap, andB_ap, orB_ap, notB_ap, thw_ap, frz_ap, cst_ap, var_ap, move_ap, op1_ap, op2_ap, opN_ap, opV1_ap, opV2_ap, callF_ap, aCons_ap, aNil_ap, tupE_ap, lstE_ap, peek_ap, Option.bind_some, data_val, data_own, data_inp, of_some, bind_ok, stm_ok, seq_nx, seq_rt, skp_ap, fgt_ap, List.foldl_cons, List.foldl_nil, List.set_cons_succ, List.set_cons_zero, List.getElem?_cons_zero, List.getElem?_cons_succ, Bool.not_true, Bool.not_false, finF_rt0, finF_nx0, finF_exc0, finF_rt1, finF_nx1, eqD_i, neD_i, ltD_i, leD_i, gtD_i, geD_i, addD_i, subD_i, negD_i, intD_i, notD_b, lenD_l, lenD_t, tupleD_l, items_l, items_t, isInst_ap, itE_ap, rng1_ap, rng2_ap, tgN_ap, tgT_ap, tgs_nil, tgs_cons, sm1, sm2, sm3, sm4, sm5, bind_exc, stm_exc, seq_exc, decide_true, decide_false, Bool.true_or, Bool.false_or, nn_i, nn_t, nn_n, nn_s, ni_i, ni_t, ni_n, ni_s, makeE_ap, methE_ap, propE_ap, clRes_ret, clRes_exc, prRes_ret, Int.cast_ofNat_Int, Int.natCast_zero, Int.natCast_one, Int.reduceEq, Int.reduceLT, Int.reduceLE, eqD_b, neD_b, truV_ap, truD_b, f_is_fraction, m_is_fraction, it]
theorem isfrac_not {p q : Int} (hq : 1 < q) (h : gc p q ≠ 1) : f_is_fraction none [fr (p, q)] = .ret (.val (.bl false)) none := by
  have it : isT "tuple" (fr (p, q)) = some (.bl true) := is_tuple (fr (p, q)) trivial
  have w1 := whole_ap (.int p) trivial
  have w2 := whole_ap (.int q) trivial
  have n1 : decide (q < 1) = false := decide_eq_false (by omega)
  have n2 : decide (q = 1) = false := decide_eq_false (by omega)
  have g : gcdD [.int p, .int q] = some (.int (gc p q)) := rfl
  have n3 : decide (gc p q = 1) = false := decide_eq_false h
  simp only [defF_ap, lentS, List.map_cons, List.map_nil, List.nil_append, List.append_nil, List.length_cons, List.length_nil, if_true, if_false, Bool.false_eq_true, List.cons_append, Nat.reduceSub, Nat.reduceAdd, Nat.reduceEqDiff, List.replicate, sq_ap, asg_ap, dropS_ap, retS_ap, retN_ap, ifS_ap, ifE_ap, asB_ap, andB_ap, orB_ap, notB_ap, thw_ap, frz_ap, cst_ap, var_ap, move_ap, op1_ap, op2_ap, opN_ap, opV1_ap, opV2_ap, callF_ap, aCons_ap, aNil_ap, tupE_ap, lstE_ap, peek_ap, Option.bind_some, data_val, data_own, data_inp, of_some, bind_ok, stm_ok, seq_nx, seq_rt, skp_ap, fgt_ap, List.foldl_cons, List.foldl_nil, List.set_cons_succ, List.set_cons_zero, List.getElem?_cons_zero, List.getElem?_cons_succ, Bool.not_true, Bool.not_false, finF_rt0, finF_nx0, finF_exc0, finF_rt1, finF_nx1, eqD_i, neD_i, ltD_i, leD_i, gtD_i, geD_i, addD_i, subD_i, negD_i, intD_i, notD_b, lenD_l, lenD_t, tupleD_l, items_l, items_t, isInst_ap, itE_ap, rng1_ap, rng2_ap, tgN_ap, tgT_ap, tgs_nil, tgs_cons, sm1, sm2, sm3, sm4, sm5, bind_exc, stm_exc, seq_exc, decide_true, decide_false, Bool.true_or, Bool.false_or, nn_i, nn_t, nn_n, nn_s, ni_i, ni_t, ni_n, ni_s, makeE_ap, methE_ap, propE_ap, clRes_ret, clRes_exc, prRes_ret, Int.cast_ofNat_Int, Int.natCast_zero, Int.natCast_one, Int.reduceEq, Int.reduceLT, Int.reduceLE, eqD_b, neD_b, truV_ap, truD_b, f_is_fraction, m_is_fraction, it, frac_len, it0, it1, w1, w2, wholeB, n1, n2, orV_ap, g, n3]
/-- no points -/
inductive NoPt : D → Prop
  | a : NoPt (.tup [.int 1, .int 2])
  | b : NoPt (.lst [.tup [.int 1, .int 1], .tup [.int 2, .int 1]])
  | c : NoPt (.tup [.tup [.int 2, .int 2], .tup [.int 0, .int 1]])
  | d : NoPt .non
theorem nopt_ap {d : D} (h : NoPt d) : f_is_point none [d, .int 0] = .ret (.val (.bl false)) none := by
  have al : allD (.lst [.bl false, .bl false]) = some (.bl false) := rfl
  have al2 : allD (.lst [.bl false, .bl true]) = some (.bl false) := rfl
  cases h with
  | a =>
    have it : isT "tuple" (.tup [.int 1, .int 2]) = some (.bl true) := is_tuple (.tup [.int 1, .int 2]) trivial
    simp only [defF_ap, lentS, List.map_cons, List.map_nil, List.nil_append, List.append_nil, List.length_cons, List.length_nil, if_true, if_false, Bool.false_eq_true, List.cons_append, Nat.reduceSub, Nat.reduceAdd, Nat.reduceEqDiff, List.replicate, sq_ap, asg_ap, dropS_ap, retS_ap, retN_ap, ifS_ap, ifE_ap, asB_ap, andB_ap, orB_ap, notB_ap, thw_ap, frz_ap, cst_ap, var_ap, move_ap, op1_ap, op2_ap, opN_ap, opV1_ap, opV2_ap, callF_ap, aCons_ap, aNil_ap, tupE_ap, lstE_ap, peek_ap, Option.bind_some, data_val, data_own, data_inp, of_some, bind_ok, stm_ok, seq_nx, seq_rt, skp_ap, fgt_ap, List.foldl_cons, List.foldl_nil, List.set_cons_succ, List.set_cons_zero, List.getElem?_cons_zero, List.getElem?_cons_succ, Bool.not_true, Bool.not_false, finF_rt0, finF_nx0, finF_exc0, finF_rt1, finF_nx1, eqD_i, neD_i, ltD_i, leD_i, gtD_i, geD_i, addD_i, subD_i, negD_i, intD_i, notD_b, lenD_l, lenD_t, tupleD_l, items_l, items_t, isInst_ap, itE_ap, rng1_ap, rng2_ap, tgN_ap, tgT_ap, tgs_nil, tgs_cons, sm1, sm2, sm3, sm4, sm5, bind_exc, stm_exc, seq_exc, decide_true, decide_false, Bool.true_or, Bool.false_or, nn_i, nn_t, nn_n, nn_s, ni_i, ni_t, ni_n, ni_s, makeE_ap, methE_ap, propE_ap, clRes_ret, clRes_exc, prRes_ret, Int.cast_ofNat_Int, Int.natCast_zero, Int.natCast_one, Int.reduceEq, Int.reduceLT, Int.reduceLE, eqD_b, neD_b, truV_ap, truD_b, f_is_point, m_is_point, it, chain_ap, lcE_ap, wipeR_cons, wipeR_nil, lcS_cons, lcS_nil, unwipe_cons, unwipe_nil, keepV_non, isfrac_int, al]
  | b =>
    have it : isT "tuple" (.lst [.tup [.int 1, .int 1], .tup [.int 2, .int 1]]) = some (.bl false) := is_tuple (.lst [.tup [.int 1, .int 1], .tup [.int 2, .int 1]]) trivial
    simp only [defF_ap, lentS, List.map_cons, List.map_nil, List.nil_append, List.append_nil, List.length_cons, List.length_nil, if_true, if_false, Bool.false_eq_true, List.cons_append, Nat.reduceSub, Nat.reduceAdd, Nat.reduceEqDiff, List.replicate, sq_ap, asg_ap, dropS_ap, retS_ap, retN_ap, ifS_ap, ifE_ap, asB_ap, andB_ap, orB_ap, notB_ap, thw_ap, frz_ap, cst_ap, var_ap, move_ap, op1_ap, op2_ap, opN_ap, opV1_ap, opV2_ap, callF_ap, aCons_ap, aNil_ap, tupE_ap, lstE_ap, peek_ap, Option.bind_some, data_val, data_own, data_inp, of_some, bind_ok, stm_ok, seq_nx, seq_rt, skp_ap, fgt_ap, List.foldl_cons, List.foldl_nil, List.set_cons_succ, List.set_cons_zero, List.getElem?_cons_zero, List.getElem?_cons_succ, Bool.not_true, Bool.not_false, finF_rt0, finF_nx0, finF_exc0, finF_rt1, finF_nx1, eqD_i, neD_i, ltD_i, leD_i, gtD_i, geD_i, addD_i, subD_i, negD_i, intD_i, notD_b, lenD_l, lenD_t, tupleD_l, items_l, items_t, isInst_ap, itE_ap, rng1_ap, rng2_ap, tgN_ap, tgT_ap, tgs_nil, tgs_cons, sm1, sm2, sm3, sm4, sm5, bind_exc, stm_exc, seq_exc, decide_true, decide_false, Bool.true_or, Bool.false_or, nn_i, nn_t, nn_n, nn_s, ni_i, ni_t, ni_n, ni_s, makeE_ap, methE_ap, propE_ap, clRes_ret, clRes_exc, prRes_ret, Int.cast_ofNat_Int, Int.natCast_zero, Int.natCast_one, Int.reduceEq, Int.reduceLT, Int.reduceLE, eqD_b, neD_b, truV_ap, truD_b, f_is_point, m_is_point, it]
  | c =>
    have it : isT "tuple" (.tup [fr (2, 2), fr (0, 1)]) = some (.bl true) := is_tuple (.tup [fr (2, 2), fr (0, 1)]) trivial
    have e1 := isfrac_not (p := 2) (q := 2) (by decide) (by decide)
    have e2 := isfrac_ap (canw 0)
    simp only [defF_ap, lentS, List.map_cons, List.map_nil, List.nil_append, List.append_nil, List.length_cons, List.length_nil, if_true, if_false, Bool.false_eq_true, List.cons_append, Nat.reduceSub, Nat.reduceAdd, Nat.reduceEqDiff, List.replicate, sq_ap, asg_ap, dropS_ap, retS_ap, retN_ap, ifS_ap, ifE_ap, asB_ap, andB_ap, orB_ap, notB_ap, thw_ap, frz_ap, cst_ap, var_ap, move_ap, op1_ap, op2_ap, opN_ap, opV1_ap, opV2_ap, callF_ap, aCons_ap, aNil_ap, tupE_ap, lstE_ap, peek_ap, Option.bind_some, data_val, data_own, data_inp, of_some, bind_ok, stm_ok, seq_nx, seq_rt, skp_ap, fgt_ap, List.foldl_cons, List.foldl_nil, List.set_cons_succ, List.set_cons_zero, List.getElem?_cons_zero, List.getElem?_cons_succ, Bool.not_true, Bool.not_false, finF_rt0, finF_nx0, finF_exc0, finF_rt1, finF_nx1, eqD_i, neD_i, ltD_i, leD_i, gtD_i, geD_i, addD_i, subD_i, negD_i, intD_i, notD_b, lenD_l, lenD_t, tupleD_l, items_l, items_t, isInst_ap, itE_ap, rng1_ap, rng2_ap, tgN_ap, tgT_ap, tgs_nil, tgs_cons, sm1, sm2, sm3, sm4, sm5, bind_exc, stm_exc, seq_exc, decide_true, decide_false, Bool.true_or, Bool.false_or, nn_i, nn_t, nn_n, nn_s, ni_i, ni_t, ni_n, ni_s, makeE_ap, methE_ap, propE_ap, clRes_ret, clRes_exc, prRes_ret, Int.cast_ofNat_Int, Int.natCast_zero, Int.natCast_one, Int.reduceEq, Int.reduceLT, Int.reduceLE, eqD_b, neD_b, truV_ap, truD_b, f_is_point, m_is_point, frm, it, chain_ap, lcE_ap, wipeR_cons, wipeR_nil, lcS_cons, lcS_nil, unwipe_cons, unwipe_nil, keepV_non, e1, e2, al2]
  | d =>
    have it : isT "tuple" .non = some (.bl false) := is_tuple .non trivial
    simp only [defF_ap, lentS, List.map_cons, List.map_nil, List.nil_append, List.append_nil, List.length_cons, List.length_nil, if_true, if_false, Bool.false_eq_true, List.cons_append, Nat.reduceSub, Nat.reduceAdd, Nat.reduceEqDiff, List.replicate, sq_ap, asg_ap, dropS_ap, retS_ap, retN_ap, ifS_ap, ifE_ap, asB_ap, andB_ap, orB_ap, notB_ap, thw_ap, frz_ap, cst_ap, var_ap, move_ap, op1_ap, op2_ap, opN_ap, opV1_ap, opV2_ap, callF_ap, aCons_ap, aNil_ap, tupE_ap, lstE_ap, peek_ap, Option.bind_some, data_val, data_own, data_inp, of_some, bind_ok, stm_ok, seq_nx, seq_rt, skp_ap, fgt_ap, List.foldl_cons, List.foldl_nil, List.set_cons_succ, List.set_cons_zero, List.getElem?_cons_zero, List.getElem?_cons_succ, Bool.not_true, Bool.not_false, finF_rt0, finF_nx0, finF_exc0, finF_rt1, finF_nx1, eqD_i, neD_i, ltD_i, leD_i, gtD_i, geD_i, addD_i, subD_i, negD_i, intD_i, notD_b, lenD_l, lenD_t, tupleD_l, items_l, items_t, isInst_ap, itE_ap, rng1_ap, rng2_ap, tgN_ap, tgT_ap, tgs_nil, tgs_cons, sm1, sm2, sm3, sm4, sm5, bind_exc, stm_exc, seq_exc, decide_true, decide_false, Bool.true_or, Bool.false_or, nn_i, nn_t, nn_n, nn_s, ni_i, ni_t, ni_n, ni_s, makeE_ap, methE_ap, propE_ap, clRes_ret, clRes_exc, prRes_ret, Int.cast_ofNat_Int, Int.natCast_zero, Int.natCast_one, Int.reduceEq, Int.reduceLT, Int.reduceLE, eqD_b, neD_b, truV_ap, truD_b, f_is_point, m_is_point, it]
theorem Ln.ref_point (l : Ln a b o) {d : D} (h : NoPt d) : f__law_refusal none [.int 2, .lst [flD [a, b] o, d]] = .ret (.val (.tup [.str "point", .int 0])) none := by
  have ip := nopt_ap h
  have fs : fldD ["Flat"] "size" (flD [a, b] o) = some (.int 2) := fld_size
  have p := plane_ap
  have ck : f_check_point none [d, .int 2, .int 0] = .exc (.own "BadPoint") ["place"] [.int 0] none := by
    simp only [defF_ap, lentS, List.map_cons, List.map_nil, List.nil_append, List.append_nil, List.length_cons, List.length_nil, if_true, if_false, Bool.false_eq_true, List.cons_append, Nat.reduceSub, Nat.reduceAdd, Nat.reduceEqDiff, List.replicate, sq_ap, asg_ap, dropS_ap, retS_ap, retN_ap, ifS_ap, ifE_ap, asB_ap, andB_ap, orB_ap, notB_ap, thw_ap, frz_ap, cst_ap, var_ap, move_ap, op1_ap, op2_ap, opN_ap, opV1_ap, opV2_ap, callF_ap, aCons_ap, aNil_ap, tupE_ap, lstE_ap, peek_ap, Option.bind_some, data_val, data_own, data_inp, of_some, bind_ok, stm_ok, seq_nx, seq_rt, skp_ap, fgt_ap, List.foldl_cons, List.foldl_nil, List.set_cons_succ, List.set_cons_zero, List.getElem?_cons_zero, List.getElem?_cons_succ, Bool.not_true, Bool.not_false, finF_rt0, finF_nx0, finF_exc0, finF_rt1, finF_nx1, eqD_i, neD_i, ltD_i, leD_i, gtD_i, geD_i, addD_i, subD_i, negD_i, intD_i, notD_b, lenD_l, lenD_t, tupleD_l, items_l, items_t, isInst_ap, itE_ap, rng1_ap, rng2_ap, tgN_ap, tgT_ap, tgs_nil, tgs_cons, sm1, sm2, sm3, sm4, sm5, bind_exc, stm_exc, seq_exc, decide_true, decide_false, Bool.true_or, Bool.false_or, nn_i, nn_t, nn_n, nn_s, ni_i, ni_t, ni_n, ni_s, makeE_ap, methE_ap, propE_ap, clRes_ret, clRes_exc, prRes_ret, Int.cast_ofNat_Int, Int.natCast_zero, Int.natCast_one, Int.reduceEq, Int.reduceLT, Int.reduceLE, eqD_b, neD_b, truV_ap, truD_b, f_check_point, m_check_point, ip, raiseS_ap]
    rfl
  have wm : f_whole_mirrored none [flD [a, b] o, d] = .exc (.own "BadPoint") ["place"] [.int 0] none := by
    simp only [defF_ap, lentS, List.map_cons, List.map_nil, List.nil_append, List.append_nil, List.length_cons, List.length_nil, if_true, if_false, Bool.false_eq_true, List.cons_append, Nat.reduceSub, Nat.reduceAdd, Nat.reduceEqDiff, List.replicate, sq_ap, asg_ap, dropS_ap, retS_ap, retN_ap, ifS_ap, ifE_ap, asB_ap, andB_ap, orB_ap, notB_ap, thw_ap, frz_ap, cst_ap, var_ap, move_ap, op1_ap, op2_ap, opN_ap, opV1_ap, opV2_ap, callF_ap, aCons_ap, aNil_ap, tupE_ap, lstE_ap, peek_ap, Option.bind_some, data_val, data_own, data_inp, of_some, bind_ok, stm_ok, seq_nx, seq_rt, skp_ap, fgt_ap, List.foldl_cons, List.foldl_nil, List.set_cons_succ, List.set_cons_zero, List.getElem?_cons_zero, List.getElem?_cons_succ, Bool.not_true, Bool.not_false, finF_rt0, finF_nx0, finF_exc0, finF_rt1, finF_nx1, eqD_i, neD_i, ltD_i, leD_i, gtD_i, geD_i, addD_i, subD_i, negD_i, intD_i, notD_b, lenD_l, lenD_t, tupleD_l, items_l, items_t, isInst_ap, itE_ap, rng1_ap, rng2_ap, tgN_ap, tgT_ap, tgs_nil, tgs_cons, sm1, sm2, sm3, sm4, sm5, bind_exc, stm_exc, seq_exc, decide_true, decide_false, Bool.true_or, Bool.false_or, nn_i, nn_t, nn_n, nn_s, ni_i, ni_t, ni_n, ni_s, makeE_ap, methE_ap, propE_ap, clRes_ret, clRes_exc, prRes_ret, Int.cast_ofNat_Int, Int.natCast_zero, Int.natCast_one, Int.reduceEq, Int.reduceLT, Int.reduceLE, eqD_b, neD_b, truV_ap, truD_b, f_whole_mirrored, m_whole_mirrored, fs, p, ck]
  simp only [defF_ap, lentS, List.map_cons, List.map_nil, List.nil_append, List.append_nil, List.length_cons, List.length_nil, if_true, if_false, Bool.false_eq_true, List.cons_append, Nat.reduceSub, Nat.reduceAdd, Nat.reduceEqDiff, List.replicate, sq_ap, asg_ap, dropS_ap, retS_ap, retN_ap, ifS_ap, ifE_ap, asB_ap, andB_ap, orB_ap, notB_ap, thw_ap, frz_ap, cst_ap, var_ap, move_ap, op1_ap, op2_ap, opN_ap, opV1_ap, opV2_ap, callF_ap, aCons_ap, aNil_ap, tupE_ap, lstE_ap, peek_ap, Option.bind_some, data_val, data_own, data_inp, of_some, bind_ok, stm_ok, seq_nx, seq_rt, skp_ap, fgt_ap, List.foldl_cons, List.foldl_nil, List.set_cons_succ, List.set_cons_zero, List.getElem?_cons_zero, List.getElem?_cons_succ, Bool.not_true, Bool.not_false, finF_rt0, finF_nx0, finF_exc0, finF_rt1, finF_nx1, eqD_i, neD_i, ltD_i, leD_i, gtD_i, geD_i, addD_i, subD_i, negD_i, intD_i, notD_b, lenD_l, lenD_t, tupleD_l, items_l, items_t, isInst_ap, itE_ap, rng1_ap, rng2_ap, tgN_ap, tgT_ap, tgs_nil, tgs_cons, sm1, sm2, sm3, sm4, sm5, bind_exc, stm_exc, seq_exc, decide_true, decide_false, Bool.true_or, Bool.false_or, nn_i, nn_t, nn_n, nn_s, ni_i, ni_t, ni_n, ni_s, makeE_ap, methE_ap, propE_ap, clRes_ret, clRes_exc, prRes_ret, Int.cast_ofNat_Int, Int.natCast_zero, Int.natCast_one, Int.reduceEq, Int.reduceLT, Int.reduceLE, eqD_b, neD_b, truV_ap, truD_b, f__law_refusal, m__law_refusal, tryS, il20, il21, wm, catchS, mt_pp, SOut.clean, fld_place]
theorem Ln.ref_space (l : Ln a b o) {xs : List Int} {s : Int} (h1 : 1 ≤ xs.length) (h3 : xs.length ≤ 3) (hs : s ≠ 2) (hl : (xs.length : Int) = s) : f__law_refusal none [.int 2, .lst [flD [a, b] o, pt (wh xs)]] = .ret (.val (spc s)) none := by
  have fs : fldD ["Flat"] "size" (flD [a, b] o) = some (.int 2) := fld_size
  have p := plane_ap
  have len : (wh xs).length = xs.length := by
    unfold wh
    rw [List.length_map]
  have ck := check_other (p := wh xs) (s := 2) (w := 0) (fun z hz => by
    obtain ⟨x, _, e⟩ := List.mem_map.mp hz
    subst e
    exact canw x) (by omega) (by omega) (by omega)
  rw [len, hl] at ck
  have wm : f_whole_mirrored none [flD [a, b] o, pt (wh xs)] = .exc (.own "OtherSpace") ["got", "wanted"] [.int s, .int 2] none := by
    simp only [defF_ap, lentS, List.map_cons, List.map_nil, List.nil_append, List.append_nil, List.length_cons, List.length_nil, if_true, if_false, Bool.false_eq_true, List.cons_append, Nat.reduceSub, Nat.reduceAdd, Nat.reduceEqDiff, List.replicate, sq_ap, asg_ap, dropS_ap, retS_ap, retN_ap, ifS_ap, ifE_ap, asB_ap, andB_ap, orB_ap, notB_ap, thw_ap, frz_ap, cst_ap, var_ap, move_ap, op1_ap, op2_ap, opN_ap, opV1_ap, opV2_ap, callF_ap, aCons_ap, aNil_ap, tupE_ap, lstE_ap, peek_ap, Option.bind_some, data_val, data_own, data_inp, of_some, bind_ok, stm_ok, seq_nx, seq_rt, skp_ap, fgt_ap, List.foldl_cons, List.foldl_nil, List.set_cons_succ, List.set_cons_zero, List.getElem?_cons_zero, List.getElem?_cons_succ, Bool.not_true, Bool.not_false, finF_rt0, finF_nx0, finF_exc0, finF_rt1, finF_nx1, eqD_i, neD_i, ltD_i, leD_i, gtD_i, geD_i, addD_i, subD_i, negD_i, intD_i, notD_b, lenD_l, lenD_t, tupleD_l, items_l, items_t, isInst_ap, itE_ap, rng1_ap, rng2_ap, tgN_ap, tgT_ap, tgs_nil, tgs_cons, sm1, sm2, sm3, sm4, sm5, bind_exc, stm_exc, seq_exc, decide_true, decide_false, Bool.true_or, Bool.false_or, nn_i, nn_t, nn_n, nn_s, ni_i, ni_t, ni_n, ni_s, makeE_ap, methE_ap, propE_ap, clRes_ret, clRes_exc, prRes_ret, Int.cast_ofNat_Int, Int.natCast_zero, Int.natCast_one, Int.reduceEq, Int.reduceLT, Int.reduceLE, eqD_b, neD_b, truV_ap, truD_b, f_whole_mirrored, m_whole_mirrored, fs, p, ck]
  simp only [defF_ap, lentS, List.map_cons, List.map_nil, List.nil_append, List.append_nil, List.length_cons, List.length_nil, if_true, if_false, Bool.false_eq_true, List.cons_append, Nat.reduceSub, Nat.reduceAdd, Nat.reduceEqDiff, List.replicate, sq_ap, asg_ap, dropS_ap, retS_ap, retN_ap, ifS_ap, ifE_ap, asB_ap, andB_ap, orB_ap, notB_ap, thw_ap, frz_ap, cst_ap, var_ap, move_ap, op1_ap, op2_ap, opN_ap, opV1_ap, opV2_ap, callF_ap, aCons_ap, aNil_ap, tupE_ap, lstE_ap, peek_ap, Option.bind_some, data_val, data_own, data_inp, of_some, bind_ok, stm_ok, seq_nx, seq_rt, skp_ap, fgt_ap, List.foldl_cons, List.foldl_nil, List.set_cons_succ, List.set_cons_zero, List.getElem?_cons_zero, List.getElem?_cons_succ, Bool.not_true, Bool.not_false, finF_rt0, finF_nx0, finF_exc0, finF_rt1, finF_nx1, eqD_i, neD_i, ltD_i, leD_i, gtD_i, geD_i, addD_i, subD_i, negD_i, intD_i, notD_b, lenD_l, lenD_t, tupleD_l, items_l, items_t, isInst_ap, itE_ap, rng1_ap, rng2_ap, tgN_ap, tgT_ap, tgs_nil, tgs_cons, sm1, sm2, sm3, sm4, sm5, bind_exc, stm_exc, seq_exc, decide_true, decide_false, Bool.true_or, Bool.false_or, nn_i, nn_t, nn_n, nn_s, ni_i, ni_t, ni_n, ni_s, makeE_ap, methE_ap, propE_ap, clRes_ret, clRes_exc, prRes_ret, Int.cast_ofNat_Int, Int.natCast_zero, Int.natCast_one, Int.reduceEq, Int.reduceLT, Int.reduceLE, eqD_b, neD_b, truV_ap, truD_b, f__law_refusal, m__law_refusal, tryS, il20, il21, wm, catchS, mt_so, mt_ss, SOut.clean, fld_wanted, fld_got]
  rfl
theorem eq_spc1 : eqD (spc 1) (spc 1) = some (.bl true) := by kernel_rfl
theorem eq_spc3 : eqD (spc 3) (spc 3) = some (.bl true) := by kernel_rfl
theorem eq_plc : eqD (.tup [.str "point", .int 0]) (.tup [.str "point", .int 0]) = some (.bl true) := by kernel_rfl
theorem fspc {s : Int} : D.tup [.str "space", .int 2, .int s] = spc s := id rfl
theorem Ln.refuses (l : Ln a b (1, 2)) (is : List Int) : ∃ is', f__law_refuses (some (.lst (L is))) [flT a b (1, 2)] = .ret (.val (.bl true)) (some (.lst (L is'))) := by
  have mk := l.make
  obtain ⟨v1, b1, e1⟩ := tk_nat is (show 0 < 2 by decide)
  obtain ⟨v2, b2, e2⟩ := tk_nat is.dropLast (show 0 < 4 by decide)
  have e1 : tk is 2 = (v1 : Int) := e1
  have e2 : tk is.dropLast 4 = (v2 : Int) := e2
  have dA := fun is r => drawI (is := is) (r := r) (show (0 : Int) < 2 by decide)
  have dB := fun is r => drawI (is := is) (r := r) (show (0 : Int) < 4 by decide)
  obtain ⟨d, hd, ed⟩ : ∃ d, NoPt d ∧ itemD (.lst [.tup [.int 1, .int 2], .lst [.tup [.int 1, .int 1], .tup [.int 2, .int 1]], .tup [.tup [.int 2, .int 2], .tup [.int 0, .int 1]], .non]) (.int (v2 : Int)) = some d := by
    match v2, b2 with
    | 0, _ => exact ⟨_, .a, rfl⟩
    | 1, _ => exact ⟨_, .b, rfl⟩
    | 2, _ => exact ⟨_, .c, rfl⟩
    | 3, _ => exact ⟨_, .d, rfl⟩
  have r3 : rng1D (.int 3) = some [.int 0, .int 1, .int 2] := rng1_i (by decide)
  have ch : Can (1, 2) := ⟨(by decide : (0 : Int) < 2), rfl⟩
  have rp := l.ref_point hd
  refine ⟨is.dropLast.dropLast, ?_⟩
  have m2 : ∀ v : Int, (v = 0 ∨ v = 1) → mulD (.int 2) (.int v) = some (.int (2 * v)) := fun v hv => mulD_z ((sz10 (by decide) (by decide)).mono (by omega)) ((sz10 (by omega) (by omega)).mono (by omega))
  have hv : v1 = 0 ∨ v1 = 1 := by omega
  rcases hv with z | z
  · subst z
    have m2 : mulD (.int 2) (.int 0) = some (.int 0) := m2 0 (.inl rfl)
    have rep : repD (.lst [.int 1]) (.int 1) = some (.lst (L [1])) := rfl
    have mk1 : f_Flat___init__ (some (.ins "Flat" [] [])) [.tup (L [1]), fr (1, 2)] = .ret (.val .non) (some (flD [1] (1, 2))) := flat_ap (as := [1]) (show 1 ≤ 1 by decide) (show 1 ≤ 3 by decide) rfl ch
    have rw := fun w hw => ref_wide (as := [1]) (o := (1, 2)) (d := d) (s := 1) (by decide) rfl (w := w) hw
    have rw0 := rw 0 (.inl rfl)
    have rw1 := rw 1 (.inr (.inl rfl))
    have rw2 := rw 2 (.inr (.inr rfl))
    have lp := lpoint_ap [1] (show 1 ≤ 90000 by decide)
    have rs := l.ref_space (xs := [1]) (s := 1) (show 1 ≤ 1 by decide) (show 1 ≤ 3 by decide) (by decide) rfl
    have a1 : (1 : Int) + 0 = 1 := rfl
    have ne1 := ne_of_eq eq_spc1
    have ne2 := ne_of_eq eq_plc
    simp only [defF_ap, lentS, List.map_cons, List.map_nil, List.nil_append, List.append_nil, List.length_cons, List.length_nil, if_true, if_false, Bool.false_eq_true, List.cons_append, Nat.reduceSub, Nat.reduceAdd, Nat.reduceEqDiff, List.replicate, sq_ap, asg_ap, dropS_ap, retS_ap, retN_ap, ifS_ap, ifE_ap, asB_ap, andB_ap, orB_ap, notB_ap, thw_ap, frz_ap, cst_ap, var_ap, move_ap, op1_ap, op2_ap, opN_ap, opV1_ap, opV2_ap, callF_ap, aCons_ap, aNil_ap, tupE_ap, lstE_ap, peek_ap, Option.bind_some, data_val, data_own, data_inp, of_some, bind_ok, stm_ok, seq_nx, seq_rt, skp_ap, fgt_ap, List.foldl_cons, List.foldl_nil, List.set_cons_succ, List.set_cons_zero, List.getElem?_cons_zero, List.getElem?_cons_succ, Bool.not_true, Bool.not_false, finF_rt0, finF_nx0, finF_exc0, finF_rt1, finF_nx1, eqD_i, neD_i, ltD_i, leD_i, gtD_i, geD_i, addD_i, subD_i, negD_i, intD_i, notD_b, lenD_l, lenD_t, tupleD_l, items_l, items_t, isInst_ap, itE_ap, rng1_ap, rng2_ap, tgN_ap, tgT_ap, tgs_nil, tgs_cons, sm1, sm2, sm3, sm4, sm5, bind_exc, stm_exc, seq_exc, decide_true, decide_false, Bool.true_or, Bool.false_or, nn_i, nn_t, nn_n, nn_s, ni_i, ni_t, ni_n, ni_s, makeE_ap, methE_ap, propE_ap, clRes_ret, clRes_exc, prRes_ret, Int.cast_ofNat_Int, Int.natCast_zero, Int.natCast_one, Int.reduceEq, Int.reduceLT, Int.reduceLE, eqD_b, neD_b, truV_ap, truD_b, f__law_refuses, m__law_refuses, dA, e1, m2, a1, rep, fl0, fl1, mk1, mkRes_fl, dB, e2, ed, mk, forE_ap, r3, forS_cons, forS_nil, p0__law_refuses, rw0, rw1, rw2, fspc, ne1, rp, ne2, lp, rs, eq_spc1]
  · subst z
    have m2 : mulD (.int 2) (.int 1) = some (.int 2) := m2 1 (.inr rfl)
    have rep : repD (.lst [.int 1]) (.int 3) = some (.lst (L [1, 1, 1])) := rfl
    have mk1 : f_Flat___init__ (some (.ins "Flat" [] [])) [.tup (L [1, 1, 1]), fr (1, 2)] = .ret (.val .non) (some (flD [1, 1, 1] (1, 2))) := flat_ap (as := [1, 1, 1]) (show 1 ≤ 3 by decide) (show 3 ≤ 3 by decide) rfl ch
    have rw := fun w hw => ref_wide (as := [1, 1, 1]) (o := (1, 2)) (d := d) (s := 3) (by decide) rfl (w := w) hw
    have rw0 := rw 0 (.inl rfl)
    have rw1 := rw 1 (.inr (.inl rfl))
    have rw2 := rw 2 (.inr (.inr rfl))
    have lp := lpoint_ap [1, 1, 1] (show 3 ≤ 90000 by decide)
    have rs := l.ref_space (xs := [1, 1, 1]) (s := 3) (show 1 ≤ 3 by decide) (show 3 ≤ 3 by decide) (by decide) rfl
    have a1 : (1 : Int) + 2 = 3 := rfl
    have ne1 := ne_of_eq eq_spc3
    have ne2 := ne_of_eq eq_plc
    simp only [defF_ap, lentS, List.map_cons, List.map_nil, List.nil_append, List.append_nil, List.length_cons, List.length_nil, if_true, if_false, Bool.false_eq_true, List.cons_append, Nat.reduceSub, Nat.reduceAdd, Nat.reduceEqDiff, List.replicate, sq_ap, asg_ap, dropS_ap, retS_ap, retN_ap, ifS_ap, ifE_ap, asB_ap, andB_ap, orB_ap, notB_ap, thw_ap, frz_ap, cst_ap, var_ap, move_ap, op1_ap, op2_ap, opN_ap, opV1_ap, opV2_ap, callF_ap, aCons_ap, aNil_ap, tupE_ap, lstE_ap, peek_ap, Option.bind_some, data_val, data_own, data_inp, of_some, bind_ok, stm_ok, seq_nx, seq_rt, skp_ap, fgt_ap, List.foldl_cons, List.foldl_nil, List.set_cons_succ, List.set_cons_zero, List.getElem?_cons_zero, List.getElem?_cons_succ, Bool.not_true, Bool.not_false, finF_rt0, finF_nx0, finF_exc0, finF_rt1, finF_nx1, eqD_i, neD_i, ltD_i, leD_i, gtD_i, geD_i, addD_i, subD_i, negD_i, intD_i, notD_b, lenD_l, lenD_t, tupleD_l, items_l, items_t, isInst_ap, itE_ap, rng1_ap, rng2_ap, tgN_ap, tgT_ap, tgs_nil, tgs_cons, sm1, sm2, sm3, sm4, sm5, bind_exc, stm_exc, seq_exc, decide_true, decide_false, Bool.true_or, Bool.false_or, nn_i, nn_t, nn_n, nn_s, ni_i, ni_t, ni_n, ni_s, makeE_ap, methE_ap, propE_ap, clRes_ret, clRes_exc, prRes_ret, Int.cast_ofNat_Int, Int.natCast_zero, Int.natCast_one, Int.reduceEq, Int.reduceLT, Int.reduceLE, eqD_b, neD_b, truV_ap, truD_b, f__law_refuses, m__law_refuses, dA, e1, m2, a1, rep, fl0, fl1, mk1, mkRes_fl, dB, e2, ed, mk, forE_ap, r3, forS_cons, forS_nil, p0__law_refuses, rw0, rw1, rw2, fspc, ne1, rp, ne2, lp, rs, eq_spc3]
end
end HT

set_option Elab.async false
set_option linter.all false
set_option maxRecDepth 100000
set_option maxHeartbeats 4000000
/-! K90Q8: the law. -/
namespace HT
open PySem PySem.Spec PyProof.Rows L2 HM
theorem pow_lit {k v : Int} (hk : 0 ≤ k ∧ k ≤ 1000000) (hv : (10 : Int) ^ k.toNat = v) : powD (.int 10) (.int k) = some (.int v) := by
  show (if 0 ≤ k ∧ k ≤ 1000000 ∧ (10 : Int).natAbs < 2 ^ 64 then some (D.int ((10 : Int) ^ k.toNat)) else none) = _
  rw [if_pos ⟨hk.1, hk.2, by decide⟩, hv]
theorem p12 : powD (.int 10) (.int 12) = some (.int 1000000000000) := pow_lit (by decide) (by decide)
theorem ln_of {a b p q : Int} (g : gc a b = 1) (c : comF [a, b] = 1) (sa : Sz 50 a) (sb : Sz 50 b) (hq : 0 < q) (sp : Sz 50 p) (sq : Sz 50 q) : Ln a b (nrm p q) :=
  ⟨g, c, sa, sb, (nrm_SF (by omega) sp sq).mono (by omega), nrm_can (by omega)⟩
abbrev lwR (s0 : Sl) (is : List Int) (w r : Int) (a b : Int) : Rho := [s0, .own (.lst (L is)), .val (.int w), .val (.int r), .val (fr (a, b)), .non, .non, .non]
theorem law_turn {s0 : Sl} {is : List Int} {w r a b t : Int} (hw : 1 ≤ w ∧ w ≤ 1000000000000) (hr : 1 ≤ r ∧ r ≤ 5) (g : gc a b = 1) (c : comF [a, b] = 1) (sa : Sz 50 a) (sb : Sz 50 b) :
    ∃ is' a' b', p0_law [s0, .own (.lst (L is)), .val (.int w), .val (.int r), .val (fr (a, b)), .val (.int t), .non, .non] = .nx (lwR s0 is' w r a' b') ∧ gc a' b' = 1 ∧ comF [a', b'] = 1 ∧ Sz 50 a' ∧ Sz 50 b' := by
  have m1 := mulD_z (x := 2) (y := w) ((sz40 (by decide) (by decide)).mono (by omega)) ((sz40 (by omega) (by omega)).mono (by omega))
  have t1 := fun is => take_ap is (m := 2 * w + 1) (by omega)
  have t2 := fun is => take_ap is (m := 12) (by decide)
  have t3 := fun is => take_ap is (m := 5) (by decide)
  obtain ⟨v1, b1, e1⟩ := tk_nat is (show 0 < 12 by decide)
  have e1 : tk is 12 = (v1 : Int) := e1
  obtain ⟨v2, b2, e2⟩ := tk_nat is.dropLast (show 0 < 5 by decide)
  have e2 : tk is.dropLast 5 = (v2 : Int) := e2
  obtain ⟨q, hq, eq⟩ : ∃ q : Int, (1 ≤ q ∧ q ≤ 12) ∧ itemD (.lst [.int 2, .int 1, .int 3, .int 4, .int (1 + (v1 : Int))]) (.int (v2 : Int)) = some (.int q) := by
    match v2, b2 with
    | 0, _ => exact ⟨2, by omega, rfl⟩
    | 1, _ => exact ⟨1, by omega, rfl⟩
    | 2, _ => exact ⟨3, by omega, rfl⟩
    | 3, _ => exact ⟨4, by omega, rfl⟩
    | 4, _ => exact ⟨1 + (v1 : Int), by omega, rfl⟩
  have k1 := tk_lo is.dropLast.dropLast (m := 2 * w + 1) (by omega)
  have k2 := tk_hi is.dropLast.dropLast (m := 2 * w + 1) (by omega)
  obtain ⟨p, ep⟩ : ∃ p, tk is.dropLast.dropLast (2 * w + 1) - w = p := ⟨_, rfl⟩
  have sp := sz40 (x := p) (by omega) (by omega)
  have sq := sz40 (x := q) (by omega) (by omega)
  have f1 := frac_ap (p := p) (q := q) (by omega) (sp.mono (by omega)) (sq.mono (by omega))
  have l := ln_of (p := p) (q := q) g c sa sb (by omega) (sp.mono (by omega)) (sq.mono (by omega))
  obtain ⟨is1, lr⟩ := l.line_right hr is.dropLast.dropLast.dropLast
  obtain ⟨is2, a', b', dr, h1, h2, h3, h4⟩ := dir_ap hw is1
  have fl : D.tup [fr (a, b), fr (nrm p q)] = flT a b (nrm p q) := rfl
  refine ⟨is2, a', b', ?_, h1, h2, h3, h4⟩
  simp only [defF_ap, lentS, List.map_cons, List.map_nil, List.nil_append, List.append_nil, List.length_cons, List.length_nil, if_true, if_false, Bool.false_eq_true, List.cons_append, Nat.reduceSub, Nat.reduceAdd, Nat.reduceEqDiff, List.replicate, sq_ap, asg_ap, dropS_ap, retS_ap, retN_ap, ifS_ap, ifE_ap, asB_ap, andB_ap, orB_ap, notB_ap, thw_ap, frz_ap, cst_ap, var_ap, move_ap, op1_ap, op2_ap, opN_ap, opV1_ap, opV2_ap, callF_ap, aCons_ap, aNil_ap, tupE_ap, lstE_ap, peek_ap, Option.bind_some, data_val, data_own, data_inp, of_some, bind_ok, stm_ok, seq_nx, seq_rt, skp_ap, fgt_ap, List.foldl_cons, List.foldl_nil, List.set_cons_succ, List.set_cons_zero, List.getElem?_cons_zero, List.getElem?_cons_succ, Bool.not_true, Bool.not_false, finF_rt0, finF_nx0, finF_exc0, finF_rt1, finF_nx1, eqD_i, neD_i, ltD_i, leD_i, gtD_i, geD_i, addD_i, subD_i, negD_i, intD_i, notD_b, lenD_l, lenD_t, tupleD_l, items_l, items_t, isInst_ap, itE_ap, rng1_ap, rng2_ap, tgN_ap, tgT_ap, tgs_nil, tgs_cons, sm1, sm2, sm3, sm4, sm5, bind_exc, stm_exc, seq_exc, decide_true, decide_false, Bool.true_or, Bool.false_or, nn_i, nn_t, nn_n, nn_s, ni_i, ni_t, ni_n, ni_s, makeE_ap, methE_ap, propE_ap, clRes_ret, clRes_exc, prRes_ret, Int.cast_ofNat_Int, Int.natCast_zero, Int.natCast_one, Int.reduceEq, Int.reduceLT, Int.reduceLE, eqD_b, neD_b, truV_ap, truD_b, p0_law, callL_ap, mutD_own, putAt_ap, put_own, t2, e1, t3, e2, eq, m1, t1, ep, f1, fl, lr, dr]
theorem law_loop {s0 : Sl} {is : List Int} {w r a b : Int} (hw : 1 ≤ w ∧ w ≤ 1000000000000) (hr : 1 ≤ r ∧ r ≤ 5) (g : gc a b = 1) (c : comF [a, b] = 1) (sa : Sz 50 a) (sb : Sz 50 b) :
    ∃ is' a' b', p6_law (lwR s0 is w r a b) = .nx (lwR s0 is' w r a' b') ∧ gc a' b' = 1 ∧ comF [a', b'] = 1 ∧ Sz 50 a' ∧ Sz 50 b' := by
  have r3 : rng1D (.int 3) = some [.int 0, .int 1, .int 2] := rng1_i (by decide)
  obtain ⟨i1, a1, b1, e1, g1, c1, x1, y1⟩ := law_turn (s0 := s0) (is := is) (t := 0) hw hr g c sa sb
  obtain ⟨i2, a2, b2, e2, g2, c2, x2, y2⟩ := law_turn (s0 := s0) (is := i1) (t := 1) hw hr g1 c1 x1 y1
  obtain ⟨i3, a3, b3, e3, g3, c3, x3, y3⟩ := law_turn (s0 := s0) (is := i2) (t := 2) hw hr g2 c2 x2 y2
  unfold lwR at *
  refine ⟨i3, a3, b3, ?_, g3, c3, x3, y3⟩
  simp only [defF_ap, lentS, List.map_cons, List.map_nil, List.nil_append, List.append_nil, List.length_cons, List.length_nil, if_true, if_false, Bool.false_eq_true, List.cons_append, Nat.reduceSub, Nat.reduceAdd, Nat.reduceEqDiff, List.replicate, sq_ap, asg_ap, dropS_ap, retS_ap, retN_ap, ifS_ap, ifE_ap, asB_ap, andB_ap, orB_ap, notB_ap, thw_ap, frz_ap, cst_ap, var_ap, move_ap, op1_ap, op2_ap, opN_ap, opV1_ap, opV2_ap, callF_ap, aCons_ap, aNil_ap, tupE_ap, lstE_ap, peek_ap, Option.bind_some, data_val, data_own, data_inp, of_some, bind_ok, stm_ok, seq_nx, seq_rt, skp_ap, fgt_ap, List.foldl_cons, List.foldl_nil, List.set_cons_succ, List.set_cons_zero, List.getElem?_cons_zero, List.getElem?_cons_succ, Bool.not_true, Bool.not_false, finF_rt0, finF_nx0, finF_exc0, finF_rt1, finF_nx1, eqD_i, neD_i, ltD_i, leD_i, gtD_i, geD_i, addD_i, subD_i, negD_i, intD_i, notD_b, lenD_l, lenD_t, tupleD_l, items_l, items_t, isInst_ap, itE_ap, rng1_ap, rng2_ap, tgN_ap, tgT_ap, tgs_nil, tgs_cons, sm1, sm2, sm3, sm4, sm5, bind_exc, stm_exc, seq_exc, decide_true, decide_false, Bool.true_or, Bool.false_or, nn_i, nn_t, nn_n, nn_s, ni_i, ni_t, ni_n, ni_s, makeE_ap, methE_ap, propE_ap, clRes_ret, clRes_exc, prRes_ret, Int.cast_ofNat_Int, Int.natCast_zero, Int.natCast_one, Int.reduceEq, Int.reduceLT, Int.reduceLE, eqD_b, neD_b, truV_ap, truD_b, p6_law, forE_ap, r3, forS_cons, forS_nil, e1, e2, e3]
theorem law_pure (ns : List Int) (hl : ns.length ≤ 63) : f_law none [.scr ns] = .ret (.val (.bl true)) none := by
  obtain ⟨i1, e1⟩ := stream_ap ns hl
  have b2 : p1_law [.val (.scr ns), .non, .non, .non, .non, .non, .non, .non] = .nx [.val (.scr ns), .own (.lst (L i1)), .non, .non, .non, .non, .non, .non] := by
    simp only [defF_ap, lentS, List.map_cons, List.map_nil, List.nil_append, List.append_nil, List.length_cons, List.length_nil, if_true, if_false, Bool.false_eq_true, List.cons_append, Nat.reduceSub, Nat.reduceAdd, Nat.reduceEqDiff, List.replicate, sq_ap, asg_ap, dropS_ap, retS_ap, retN_ap, ifS_ap, ifE_ap, asB_ap, andB_ap, orB_ap, notB_ap, thw_ap, frz_ap, cst_ap, var_ap, move_ap, op1_ap, op2_ap, opN_ap, opV1_ap, opV2_ap, callF_ap, aCons_ap, aNil_ap, tupE_ap, lstE_ap, peek_ap, Option.bind_some, data_val, data_own, data_inp, of_some, bind_ok, stm_ok, seq_nx, seq_rt, skp_ap, fgt_ap, List.foldl_cons, List.foldl_nil, List.set_cons_succ, List.set_cons_zero, List.getElem?_cons_zero, List.getElem?_cons_succ, Bool.not_true, Bool.not_false, finF_rt0, finF_nx0, finF_exc0, finF_rt1, finF_nx1, eqD_i, neD_i, ltD_i, leD_i, gtD_i, geD_i, addD_i, subD_i, negD_i, intD_i, notD_b, lenD_l, lenD_t, tupleD_l, items_l, items_t, isInst_ap, itE_ap, rng1_ap, rng2_ap, tgN_ap, tgT_ap, tgs_nil, tgs_cons, sm1, sm2, sm3, sm4, sm5, bind_exc, stm_exc, seq_exc, decide_true, decide_false, Bool.true_or, Bool.false_or, nn_i, nn_t, nn_n, nn_s, ni_i, ni_t, ni_n, ni_s, makeE_ap, methE_ap, propE_ap, clRes_ret, clRes_exc, prRes_ret, Int.cast_ofNat_Int, Int.natCast_zero, Int.natCast_one, Int.reduceEq, Int.reduceLT, Int.reduceLE, eqD_b, neD_b, truV_ap, truD_b, p1_law, e1]
  have dA := fun s0 is r => drawO (s0 := s0) (is := is) (r := r) (show (0 : Int) < 24 by decide)
  obtain ⟨i2, w, r, hw, hr, b3⟩ : ∃ i2 w r, (1 ≤ w ∧ w ≤ 1000000000000) ∧ (1 ≤ r ∧ r ≤ 5) ∧ ∀ k : SV, ((p2_law [.val (.scr ns), .own (.lst (L i1)), .non, .non, .non, .non, .non, .non]).seq (sq p3_law (sq p4_law k))) = k [.val (.scr ns), .own (.lst (L i2)), .val (.int w), .val (.int r), .non, .non, .non, .non] := by
    by_cases h : tk i1 24 = 23
    · exact ⟨i1.dropLast, 1000000000000, 1, by decide, by decide, fun k => by simp only [defF_ap, lentS, List.map_cons, List.map_nil, List.nil_append, List.append_nil, List.length_cons, List.length_nil, if_true, if_false, Bool.false_eq_true, List.cons_append, Nat.reduceSub, Nat.reduceAdd, Nat.reduceEqDiff, List.replicate, sq_ap, asg_ap, dropS_ap, retS_ap, retN_ap, ifS_ap, ifE_ap, asB_ap, andB_ap, orB_ap, notB_ap, thw_ap, frz_ap, cst_ap, var_ap, move_ap, op1_ap, op2_ap, opN_ap, opV1_ap, opV2_ap, callF_ap, aCons_ap, aNil_ap, tupE_ap, lstE_ap, peek_ap, Option.bind_some, data_val, data_own, data_inp, of_some, bind_ok, stm_ok, seq_nx, seq_rt, skp_ap, fgt_ap, List.foldl_cons, List.foldl_nil, List.set_cons_succ, List.set_cons_zero, List.getElem?_cons_zero, List.getElem?_cons_succ, Bool.not_true, Bool.not_false, finF_rt0, finF_nx0, finF_exc0, finF_rt1, finF_nx1, eqD_i, neD_i, ltD_i, leD_i, gtD_i, geD_i, addD_i, subD_i, negD_i, intD_i, notD_b, lenD_l, lenD_t, tupleD_l, items_l, items_t, isInst_ap, itE_ap, rng1_ap, rng2_ap, tgN_ap, tgT_ap, tgs_nil, tgs_cons, sm1, sm2, sm3, sm4, sm5, bind_exc, stm_exc, seq_exc, decide_true, decide_false, Bool.true_or, Bool.false_or, nn_i, nn_t, nn_n, nn_s, ni_i, ni_t, ni_n, ni_s, makeE_ap, methE_ap, propE_ap, clRes_ret, clRes_exc, prRes_ret, Int.cast_ofNat_Int, Int.natCast_zero, Int.natCast_one, Int.reduceEq, Int.reduceLT, Int.reduceLE, eqD_b, neD_b, truV_ap, truD_b, p2_law, p3_law, p4_law, dA, h, p12]⟩
    · have d0 : decide (tk i1 24 = 23) = false := decide_eq_false h
      exact ⟨i1.dropLast, 9, 2, by decide, by decide, fun k => by simp only [defF_ap, lentS, List.map_cons, List.map_nil, List.nil_append, List.append_nil, List.length_cons, List.length_nil, if_true, if_false, Bool.false_eq_true, List.cons_append, Nat.reduceSub, Nat.reduceAdd, Nat.reduceEqDiff, List.replicate, sq_ap, asg_ap, dropS_ap, retS_ap, retN_ap, ifS_ap, ifE_ap, asB_ap, andB_ap, orB_ap, notB_ap, thw_ap, frz_ap, cst_ap, var_ap, move_ap, op1_ap, op2_ap, opN_ap, opV1_ap, opV2_ap, callF_ap, aCons_ap, aNil_ap, tupE_ap, lstE_ap, peek_ap, Option.bind_some, data_val, data_own, data_inp, of_some, bind_ok, stm_ok, seq_nx, seq_rt, skp_ap, fgt_ap, List.foldl_cons, List.foldl_nil, List.set_cons_succ, List.set_cons_zero, List.getElem?_cons_zero, List.getElem?_cons_succ, Bool.not_true, Bool.not_false, finF_rt0, finF_nx0, finF_exc0, finF_rt1, finF_nx1, eqD_i, neD_i, ltD_i, leD_i, gtD_i, geD_i, addD_i, subD_i, negD_i, intD_i, notD_b, lenD_l, lenD_t, tupleD_l, items_l, items_t, isInst_ap, itE_ap, rng1_ap, rng2_ap, tgN_ap, tgT_ap, tgs_nil, tgs_cons, sm1, sm2, sm3, sm4, sm5, bind_exc, stm_exc, seq_exc, decide_true, decide_false, Bool.true_or, Bool.false_or, nn_i, nn_t, nn_n, nn_s, ni_i, ni_t, ni_n, ni_s, makeE_ap, methE_ap, propE_ap, clRes_ret, clRes_exc, prRes_ret, Int.cast_ofNat_Int, Int.natCast_zero, Int.natCast_one, Int.reduceEq, Int.reduceLT, Int.reduceLE, eqD_b, neD_b, truV_ap, truD_b, p2_law, p3_law, p4_law, dA, d0]⟩
  obtain ⟨i3, a, b, e3, g3, c3, x3, y3⟩ := dir_ap hw i2
  have b5 : p5_law [.val (.scr ns), .own (.lst (L i2)), .val (.int w), .val (.int r), .non, .non, .non, .non] = .nx (lwR (.val (.scr ns)) i3 w r a b) := by
    simp only [defF_ap, lentS, List.map_cons, List.map_nil, List.nil_append, List.append_nil, List.length_cons, List.length_nil, if_true, if_false, Bool.false_eq_true, List.cons_append, Nat.reduceSub, Nat.reduceAdd, Nat.reduceEqDiff, List.replicate, sq_ap, asg_ap, dropS_ap, retS_ap, retN_ap, ifS_ap, ifE_ap, asB_ap, andB_ap, orB_ap, notB_ap, thw_ap, frz_ap, cst_ap, var_ap, move_ap, op1_ap, op2_ap, opN_ap, opV1_ap, opV2_ap, callF_ap, aCons_ap, aNil_ap, tupE_ap, lstE_ap, peek_ap, Option.bind_some, data_val, data_own, data_inp, of_some, bind_ok, stm_ok, seq_nx, seq_rt, skp_ap, fgt_ap, List.foldl_cons, List.foldl_nil, List.set_cons_succ, List.set_cons_zero, List.getElem?_cons_zero, List.getElem?_cons_succ, Bool.not_true, Bool.not_false, finF_rt0, finF_nx0, finF_exc0, finF_rt1, finF_nx1, eqD_i, neD_i, ltD_i, leD_i, gtD_i, geD_i, addD_i, subD_i, negD_i, intD_i, notD_b, lenD_l, lenD_t, tupleD_l, items_l, items_t, isInst_ap, itE_ap, rng1_ap, rng2_ap, tgN_ap, tgT_ap, tgs_nil, tgs_cons, sm1, sm2, sm3, sm4, sm5, bind_exc, stm_exc, seq_exc, decide_true, decide_false, Bool.true_or, Bool.false_or, nn_i, nn_t, nn_n, nn_s, ni_i, ni_t, ni_n, ni_s, makeE_ap, methE_ap, propE_ap, clRes_ret, clRes_exc, prRes_ret, Int.cast_ofNat_Int, Int.natCast_zero, Int.natCast_one, Int.reduceEq, Int.reduceLT, Int.reduceLE, eqD_b, neD_b, truV_ap, truD_b, p5_law, callL_ap, mutD_own, putAt_ap, put_own, e3]
  obtain ⟨i4, a4, b4, e4, g4, c4, x4, y4⟩ := law_loop (s0 := .val (.scr ns)) (is := i3) hw hr g3 c3 x3 y3
  -- the line of the law's own
  obtain ⟨v, bv, ev⟩ := tk_nat i4 (show 0 < 4 by decide)
  have ev : tk i4 4 = (v : Int) := ev
  have tB := fun is => take_ap is (m := 4) (by decide)
  have m2 : mulD (.int 2) (.int (v : Int)) = some (.int (2 * (v : Int))) := mulD_z ((sz10 (by decide) (by decide)).mono (by omega)) ((sz10 (by omega) (by omega)).mono (by omega))
  have ch : Can (3 - 2 * (v : Int), 2) := ⟨(by decide : (0 : Int) < 2), by
    have : v = 0 ∨ v = 1 ∨ v = 2 ∨ v = 3 := by omega
    rcases this with z | z | z | z <;> subst z <;> rfl⟩
  have l1 : Ln 1 1 (3 - 2 * (v : Int), 2) := ⟨rfl, rfl, (sz10 (by decide) (by decide)).mono (by omega), (sz10 (by decide) (by decide)).mono (by omega),
    ⟨(by decide : (0 : Int) < 2), (sz10 (x := 3 - 2 * (v : Int)) (by omega) (by omega)).mono (by omega), (sz10 (x := 2) (by decide) (by decide)).mono (by omega)⟩, ch⟩
  obtain ⟨i5, e5⟩ := l1.line_right (reach := 5) (by decide) i4.dropLast
  have fl : D.tup [fr (1, 1), fr (3 - 2 * (v : Int), 2)] = flT 1 1 (3 - 2 * (v : Int), 2) := rfl
  have b7 : p7_law (lwR (.val (.scr ns)) i4 w r a4 b4) = .nx (lwR (.val (.scr ns)) i5 w r a4 b4) := by
    simp only [defF_ap, lentS, List.map_cons, List.map_nil, List.nil_append, List.append_nil, List.length_cons, List.length_nil, if_true, if_false, Bool.false_eq_true, List.cons_append, Nat.reduceSub, Nat.reduceAdd, Nat.reduceEqDiff, List.replicate, sq_ap, asg_ap, dropS_ap, retS_ap, retN_ap, ifS_ap, ifE_ap, asB_ap, andB_ap, orB_ap, notB_ap, thw_ap, frz_ap, cst_ap, var_ap, move_ap, op1_ap, op2_ap, opN_ap, opV1_ap, opV2_ap, callF_ap, aCons_ap, aNil_ap, tupE_ap, lstE_ap, peek_ap, Option.bind_some, data_val, data_own, data_inp, of_some, bind_ok, stm_ok, seq_nx, seq_rt, skp_ap, fgt_ap, List.foldl_cons, List.foldl_nil, List.set_cons_succ, List.set_cons_zero, List.getElem?_cons_zero, List.getElem?_cons_succ, Bool.not_true, Bool.not_false, finF_rt0, finF_nx0, finF_exc0, finF_rt1, finF_nx1, eqD_i, neD_i, ltD_i, leD_i, gtD_i, geD_i, addD_i, subD_i, negD_i, intD_i, notD_b, lenD_l, lenD_t, tupleD_l, items_l, items_t, isInst_ap, itE_ap, rng1_ap, rng2_ap, tgN_ap, tgT_ap, tgs_nil, tgs_cons, sm1, sm2, sm3, sm4, sm5, bind_exc, stm_exc, seq_exc, decide_true, decide_false, Bool.true_or, Bool.false_or, nn_i, nn_t, nn_n, nn_s, ni_i, ni_t, ni_n, ni_s, makeE_ap, methE_ap, propE_ap, clRes_ret, clRes_exc, prRes_ret, Int.cast_ofNat_Int, Int.natCast_zero, Int.natCast_one, Int.reduceEq, Int.reduceLT, Int.reduceLE, eqD_b, neD_b, truV_ap, truD_b, p7_law, lwR, tB, ev, m2, frm, fl, callL_ap, mutD_own, putAt_ap, put_own, e5]
  obtain ⟨i6, e6⟩ := between_right hw i5
  have b8 : p8_law (lwR (.val (.scr ns)) i5 w r a4 b4) = .nx (lwR (.val (.scr ns)) i6 w r a4 b4) := by
    simp only [defF_ap, lentS, List.map_cons, List.map_nil, List.nil_append, List.append_nil, List.length_cons, List.length_nil, if_true, if_false, Bool.false_eq_true, List.cons_append, Nat.reduceSub, Nat.reduceAdd, Nat.reduceEqDiff, List.replicate, sq_ap, asg_ap, dropS_ap, retS_ap, retN_ap, ifS_ap, ifE_ap, asB_ap, andB_ap, orB_ap, notB_ap, thw_ap, frz_ap, cst_ap, var_ap, move_ap, op1_ap, op2_ap, opN_ap, opV1_ap, opV2_ap, callF_ap, aCons_ap, aNil_ap, tupE_ap, lstE_ap, peek_ap, Option.bind_some, data_val, data_own, data_inp, of_some, bind_ok, stm_ok, seq_nx, seq_rt, skp_ap, fgt_ap, List.foldl_cons, List.foldl_nil, List.set_cons_succ, List.set_cons_zero, List.getElem?_cons_zero, List.getElem?_cons_succ, Bool.not_true, Bool.not_false, finF_rt0, finF_nx0, finF_exc0, finF_rt1, finF_nx1, eqD_i, neD_i, ltD_i, leD_i, gtD_i, geD_i, addD_i, subD_i, negD_i, intD_i, notD_b, lenD_l, lenD_t, tupleD_l, items_l, items_t, isInst_ap, itE_ap, rng1_ap, rng2_ap, tgN_ap, tgT_ap, tgs_nil, tgs_cons, sm1, sm2, sm3, sm4, sm5, bind_exc, stm_exc, seq_exc, decide_true, decide_false, Bool.true_or, Bool.false_or, nn_i, nn_t, nn_n, nn_s, ni_i, ni_t, ni_n, ni_s, makeE_ap, methE_ap, propE_ap, clRes_ret, clRes_exc, prRes_ret, Int.cast_ofNat_Int, Int.natCast_zero, Int.natCast_one, Int.reduceEq, Int.reduceLT, Int.reduceLE, eqD_b, neD_b, truV_ap, truD_b, p8_law, lwR, callL_ap, mutD_own, putAt_ap, put_own, e6]
  have l2 : Ln a4 b4 (1, 2) := ⟨g4, c4, x4, y4, ⟨(by decide : (0 : Int) < 2), (sz10 (x := 1) (by decide) (by decide)).mono (by omega), (sz10 (x := 2) (by decide) (by decide)).mono (by omega)⟩, (by decide : (0 : Int) < 2), rfl⟩
  obtain ⟨i7, e7⟩ := l2.refuses i6
  have fl2 : D.tup [fr (a4, b4), fr (1, 2)] = flT a4 b4 (1, 2) := rfl
  have b9 : p9_law (lwR (.val (.scr ns)) i6 w r a4 b4) = .rt (.val (.bl true)) (lwR (.val (.scr ns)) i7 w r a4 b4) := by
    simp only [defF_ap, lentS, List.map_cons, List.map_nil, List.nil_append, List.append_nil, List.length_cons, List.length_nil, if_true, if_false, Bool.false_eq_true, List.cons_append, Nat.reduceSub, Nat.reduceAdd, Nat.reduceEqDiff, List.replicate, sq_ap, asg_ap, dropS_ap, retS_ap, retN_ap, ifS_ap, ifE_ap, asB_ap, andB_ap, orB_ap, notB_ap, thw_ap, frz_ap, cst_ap, var_ap, move_ap, op1_ap, op2_ap, opN_ap, opV1_ap, opV2_ap, callF_ap, aCons_ap, aNil_ap, tupE_ap, lstE_ap, peek_ap, Option.bind_some, data_val, data_own, data_inp, of_some, bind_ok, stm_ok, seq_nx, seq_rt, skp_ap, fgt_ap, List.foldl_cons, List.foldl_nil, List.set_cons_succ, List.set_cons_zero, List.getElem?_cons_zero, List.getElem?_cons_succ, Bool.not_true, Bool.not_false, finF_rt0, finF_nx0, finF_exc0, finF_rt1, finF_nx1, eqD_i, neD_i, ltD_i, leD_i, gtD_i, geD_i, addD_i, subD_i, negD_i, intD_i, notD_b, lenD_l, lenD_t, tupleD_l, items_l, items_t, isInst_ap, itE_ap, rng1_ap, rng2_ap, tgN_ap, tgT_ap, tgs_nil, tgs_cons, sm1, sm2, sm3, sm4, sm5, bind_exc, stm_exc, seq_exc, decide_true, decide_false, Bool.true_or, Bool.false_or, nn_i, nn_t, nn_n, nn_s, ni_i, ni_t, ni_n, ni_s, makeE_ap, methE_ap, propE_ap, clRes_ret, clRes_exc, prRes_ret, Int.cast_ofNat_Int, Int.natCast_zero, Int.natCast_one, Int.reduceEq, Int.reduceLT, Int.reduceLE, eqD_b, neD_b, truV_ap, truD_b, p9_law, lwR, frm, fl2, callL_ap, mutD_own, putAt_ap, put_own, e7]
  unfold f_law m_law
  simp only [defF_ap, lentS, List.map_cons, List.map_nil, List.nil_append, List.append_nil, List.length_cons, List.length_nil, if_true, if_false, Bool.false_eq_true, List.cons_append, Nat.reduceSub, Nat.reduceAdd, Nat.reduceEqDiff, List.replicate, sq_ap, asg_ap, dropS_ap, retS_ap, retN_ap, ifS_ap, ifE_ap, asB_ap, andB_ap, orB_ap, notB_ap, thw_ap, frz_ap, cst_ap, var_ap, move_ap, op1_ap, op2_ap, opN_ap, opV1_ap, opV2_ap, callF_ap, aCons_ap, aNil_ap, tupE_ap, lstE_ap, peek_ap, Option.bind_some, data_val, data_own, data_inp, of_some, bind_ok, stm_ok, seq_nx, seq_rt, skp_ap, fgt_ap, List.foldl_cons, List.foldl_nil, List.set_cons_succ, List.set_cons_zero, List.getElem?_cons_zero, List.getElem?_cons_succ, Bool.not_true, Bool.not_false, finF_rt0, finF_nx0, finF_exc0, finF_rt1, finF_nx1, eqD_i, neD_i, ltD_i, leD_i, gtD_i, geD_i, addD_i, subD_i, negD_i, intD_i, notD_b, lenD_l, lenD_t, tupleD_l, items_l, items_t, isInst_ap, itE_ap, rng1_ap, rng2_ap, tgN_ap, tgT_ap, tgs_nil, tgs_cons, sm1, sm2, sm3, sm4, sm5, bind_exc, stm_exc, seq_exc, decide_true, decide_false, Bool.true_or, Bool.false_or, nn_i, nn_t, nn_n, nn_s, ni_i, ni_t, ni_n, ni_s, makeE_ap, methE_ap, propE_ap, clRes_ret, clRes_exc, prRes_ret, Int.cast_ofNat_Int, Int.natCast_zero, Int.natCast_one, Int.reduceEq, Int.reduceLT, Int.reduceLE, eqD_b, neD_b, truV_ap, truD_b, b2, b3, b5, e4, b7, b8, b9]
end HT

theorem PySem.Challenge.cw_heardmarks_k90_whole_good_lines_holds : PySem.Challenge.rw_heardmarks_k90_whole_good_lines.Holds :=
  law_of fun ns hl => HT.law_pure ns hl
