import PyProof.Rows.All
import Wide.All
import OpenK.AllK
import Wide.FinOn
import HandS.ForMost
import HandS.Wide
import HandS.EndBits
import HandS.Gcd
import HandS.WideBits
import HandS.IsInst
import HandS.Flt
import HandS.More
import Flt.RightSqrt
import HandS.Style
import HandS.Steps
import PySem.Challenge.RW_armwarrant_k03_place_and_line
set_option Elab.async false
set_option linter.all false
set_option maxRecDepth 100000
set_option maxHeartbeats 4000000
/-! Dl: what a def does, told over data (Dt) and slots (Sl); heaps are dealt with once, here. -/
namespace DL
open PySem L2

/-! ### data -/
inductive Dt where
  | non | bl (b : Bool) | int (i : Int) | str (s : Str)
  | ty (n : String)
  | tup (xs : List Dt) | lst (xs : List Dt) | obj (C : Addr) (fs : List (Str × Dt))

mutual
inductive Rep (K : PySem.W.Frag) (H : Hp) : V → Dt → Prop
  | non : Rep K H .non .non
  | bl (b : Bool) : Rep K H (.bl b) (.bl b)
  | int (i : Int) : Rep K H (.int i) (.int i)
  | str (s : Str) : Rep K H (.str s) (.str s)
  | ty (n : String) : Rep K H (.ty n) (.ty n)
  | tup {a : Addr} {xs : List V} {ds : List Dt} : SqT K H a xs → Reps K H xs ds → Rep K H (.ref a) (.tup ds)
  | lst {a : Addr} {xs : List V} {ds : List Dt} : SqL K H a xs → Reps K H xs ds → Rep K H (.ref a) (.lst ds)
  | obj {a C dx : Addr} {fs : List (Str × V)} {gs : List (Str × Dt)} : H a = some (.ins C dx fs) → RepF K H fs gs → Rep K H (.ref a) (.obj C gs)
inductive Reps (K : PySem.W.Frag) (H : Hp) : List V → List Dt → Prop
  | nil : Reps K H [] []
  | cons {v : V} {d : Dt} {vs : List V} {ds : List Dt} : Rep K H v d → Reps K H vs ds → Reps K H (v :: vs) (d :: ds)
inductive RepF (K : PySem.W.Frag) (H : Hp) : List (Str × V) → List (Str × Dt) → Prop
  | nil : RepF K H [] []
  | cons {f : Str} {v : V} {d : Dt} {vs : List (Str × V)} {ds : List (Str × Dt)} : Rep K H v d → RepF K H vs ds → RepF K H ((f, v) :: vs) ((f, d) :: ds)
end

theorem sqT_mono {K : PySem.W.Frag} {H H' : Hp} {a : Addr} {xs : List V} (e : Same H H') (h : SqT K H a xs) : SqT K H' a xs := by
  rcases h with (h | ⟨o, h⟩) | h
  · exact .inl (.inl (e _ _ h))
  · exact .inl (.inr ⟨o, e _ _ h⟩)
  · exact .inr h

mutual
theorem Rep.mono {K : PySem.W.Frag} {H H' : Hp} (e : Same H H') : ∀ {v : V} {d : Dt}, Rep K H v d → Rep K H' v d
  | _, _, .non => .non
  | _, _, .bl b => .bl b
  | _, _, .int i => .int i
  | _, _, .str s => .str s
  | _, _, .ty n => .ty n
  | _, _, .tup h r => .tup (sqT_mono e h) (Reps.mono e r)
  | _, _, .lst h r => .lst (e.seq h) (Reps.mono e r)
  | _, _, .obj h r => .obj (e _ _ h) (RepF.mono e r)
theorem Reps.mono {K : PySem.W.Frag} {H H' : Hp} (e : Same H H') : ∀ {vs : List V} {ds : List Dt}, Reps K H vs ds → Reps K H' vs ds
  | _, _, .nil => .nil
  | _, _, .cons h r => .cons (Rep.mono e h) (Reps.mono e r)
theorem RepF.mono {K : PySem.W.Frag} {H H' : Hp} (e : Same H H') : ∀ {vs : List (Str × V)} {ds : List (Str × Dt)}, RepF K H vs ds → RepF K H' vs ds
  | _, _, .nil => .nil
  | _, _, .cons h r => .cons (Rep.mono e h) (RepF.mono e r)
end
theorem Reps.length {K : PySem.W.Frag} {H : Hp} : ∀ {vs : List V} {ds : List Dt}, Reps K H vs ds → vs.length = ds.length
  | _, _, .nil => rfl
  | _, _, .cons _ r => congrArg (· + 1) r.length
theorem Reps.get {K : PySem.W.Frag} {H : Hp} : ∀ {vs : List V} {ds : List Dt} {i : Nat} {d : Dt}, Reps K H vs ds → ds[i]? = some d → ∃ v, vs[i]? = some v ∧ Rep K H v d
  | _, _, _, _, .nil, e => by simp at e
  | _, _, 0, _, .cons h r, e => by simp at e; subst e; exact ⟨_, rfl, h⟩
  | _, _, i + 1, _, .cons h r, e => by
    obtain ⟨v, h1, h2⟩ := Reps.get (i := i) r (by simpa using e)
    exact ⟨v, by simpa using h1, h2⟩
theorem Reps.get' {K : PySem.W.Frag} {H : Hp} : ∀ {vs : List V} {ds : List Dt} {i : Nat} {v : V}, Reps K H vs ds → vs[i]? = some v → ∃ d, ds[i]? = some d ∧ Rep K H v d
  | _, _, _, _, .nil, e => by simp at e
  | _, _, 0, _, .cons h r, e => by simp at e; subst e; exact ⟨_, rfl, h⟩
  | _, _, i + 1, _, .cons h r, e => by
    obtain ⟨v, h1, h2⟩ := Reps.get' (i := i) r (by simpa using e)
    exact ⟨v, by simpa using h1, h2⟩
theorem Reps.append {K : PySem.W.Frag} {H : Hp} : ∀ {vs ws : List V} {ds es : List Dt}, Reps K H vs ds → Reps K H ws es → Reps K H (vs ++ ws) (ds ++ es)
  | _, _, _, _, .nil, s => s
  | _, _, _, _, .cons h r, s => .cons h (Reps.append r s)
theorem Reps.set {K : PySem.W.Frag} {H : Hp} {v : V} {d : Dt} (hv : Rep K H v d) : ∀ {vs : List V} {ds : List Dt} (i : Nat), Reps K H vs ds → Reps K H (vs.set i v) (ds.set i d)
  | _, _, _, .nil => .nil
  | _, _, 0, .cons _ r => .cons hv r
  | _, _, i + 1, .cons h r => .cons h (Reps.set hv i r)
theorem Reps.take {K : PySem.W.Frag} {H : Hp} : ∀ {vs : List V} {ds : List Dt} (n : Nat), Reps K H vs ds → Reps K H (vs.take n) (ds.take n)
  | _, _, 0, _ => .nil
  | _, _, _ + 1, .nil => .nil
  | _, _, n + 1, .cons h r => .cons h (Reps.take n r)
theorem Reps.drop {K : PySem.W.Frag} {H : Hp} : ∀ {vs : List V} {ds : List Dt} (n : Nat), Reps K H vs ds → Reps K H (vs.drop n) (ds.drop n)
  | _, _, 0, r => r
  | _, _, _ + 1, .nil => .nil
  | _, _, n + 1, .cons h r => Reps.drop n r
theorem RepF.lookup {K : PySem.W.Frag} {H : Hp} {f : Str} {d : Dt} : ∀ {vs : List (Str × V)} {ds : List (Str × Dt)}, RepF K H vs ds → ds.lookup f = some d → ∃ v, vs.lookup f = some v ∧ Rep K H v d
  | _, _, .nil, e => by cases e
  | _, _, .cons (f := g) h r, e => by
    rw [List.lookup_cons] at e ⊢
    cases q : f == g with
    | true => rw [q] at e; cases e; exact ⟨_, rfl, h⟩
    | false => rw [q] at e; exact RepF.lookup r e
theorem RepF.lookup_none {K : PySem.W.Frag} {H : Hp} {f : Str} : ∀ {vs : List (Str × V)} {ds : List (Str × Dt)}, RepF K H vs ds → ds.lookup f = none → vs.lookup f = none
  | _, _, .nil, e => rfl
  | _, _, .cons (f := g) h r, e => by
    rw [List.lookup_cons] at e ⊢
    cases q : f == g with
    | true => rw [q] at e; cases e
    | false => rw [q] at e; exact RepF.lookup_none r e
def putD (f : Str) (d : Dt) : List (Str × Dt) → List (Str × Dt)
  | [] => [(f, d)]
  | (g, e) :: r => if g = f then (g, d) :: r else (g, e) :: putD f d r
end DL

namespace DL
open PySem L2

/-! ### slots and states -/
inductive Sl where
  | un
  | d (x : Dt)
  | own (p : Option Addr) (xs : List Dt)
  | obo (p : Option Addr) (C : Addr) (fs : List (Str × Dt))

def Sl.isOwn : Sl → Bool
  | .own _ _ => true
  | .obo _ _ _ => true
  | _ => false

def SlOk (K : PySem.W.Frag) (F G H : Hp) (o : Option V) : Sl → Prop
  | .un => True
  | .d x => ∃ v, o = some v ∧ Rep K G v x
  | .own a xs => ∃ p vs, o = some (.ref p) ∧ G p = none ∧ F p = none ∧ H p = some (.lst vs) ∧ Reps K G vs xs ∧ ∀ q, a = some q → q = p
  | .obo a C fs => ∃ p dx vs, o = some (.ref p) ∧ G p = none ∧ F p = none ∧ H p = some (.ins C dx vs) ∧ RepF K G vs fs ∧ ∀ q, a = some q → q = p

/-- F: what is another's, G: what is known and stands, H: the heap -/
structure Stt (K : PySem.W.Frag) (F G H : Hp) (σ : L2.St) (es : List Sl) : Prop where
  f : Same F H
  g : Same G H
  dj : ∀ a o, F a = some o → G a = none
  len : σ.length = es.length
  sl : ∀ (i : Nat) (s : Sl), es[i]? = some s → ∃ o, σ[i]? = some o ∧ SlOk K F G H o s
  ow : ∀ (i j : Nat) (s t : Sl), i ≠ j → es[i]? = some s → es[j]? = some t → s.isOwn = true → t.isOwn = true → σ[i]? ≠ σ[j]?

section
variable {K : PySem.W.Frag} {F G H F' G' H' : Hp} {σ σ' : L2.St} {es : List Sl}

theorem not_some {H : Hp} {a : Addr} (h : ∀ o, H a = some o → False) : H a = none := by
  cases q : H a with
  | none => rfl
  | some o => exact (h o q).elim
theorem Stt.fnone (s : Stt K F G H σ es) {p : Addr} (h : H p = none) : F p = none := not_some fun o q => by
  have := s.f p o q
  rw [h] at this
  cases this
theorem Stt.gnone (s : Stt K F G H σ es) {p : Addr} (h : H p = none) : G p = none := not_some fun o q => by
  have := s.g p o q
  rw [h] at this
  cases this
theorem same_upd {H : Hp} {p : Addr} {o : HO} (h : H p = none) : Same H (upd H p o) := fun a u e => by
  rw [upd_ne (ne_of_none e h)]
  exact e
/-- heaps grow -/
theorem SlOk.grow {o : Option V} {s : Sl} (h : SlOk K F G H o s) (eg : Same G G') (eh : ∀ p u, G p = none → F p = none → H p = some u → H' p = some u) (hn : ∀ p, G p = none → (∃ u, H p = some u) → F p = none → G' p = none ∧ F' p = none) : SlOk K F' G' H' o s := by
  cases s with
  | un => trivial
  | d x =>
    obtain ⟨v, e, r⟩ := h
    exact ⟨v, e, r.mono eg⟩
  | own a xs =>
    obtain ⟨p, vs, e, g, f, hp, r, an⟩ := h
    obtain ⟨g', f'⟩ := hn p g ⟨_, hp⟩ f
    exact ⟨p, vs, e, g', f', eh p _ g f hp, r.mono eg, an⟩
  | obo a C fs =>
    obtain ⟨p, dx, vs, e, g, f, hp, r, an⟩ := h
    obtain ⟨g', f'⟩ := hn p g ⟨_, hp⟩ f
    exact ⟨p, dx, vs, e, g', f', eh p _ g f hp, r.mono eg, an⟩
/-- a new object that is known from now on -/
theorem Stt.new (s : Stt K F G H σ es) {p : Addr} {o : HO} (h : H p = none) : Stt K F (upd G p o) (upd H p o) σ es where
  f := s.f.trans (same_upd h)
  g := fun a u e => by
    by_cases q : a = p
    · subst q
      rw [upd_same] at e ⊢
      exact e
    · rw [upd_ne q] at e ⊢
      exact s.g a u e
  dj := fun a u e => by
    have : a ≠ p := fun q => by
      subst q
      rw [s.fnone h] at e
      cases e
    rw [upd_ne this]
    exact s.dj a u e
  len := s.len
  sl := fun i t e => by
    obtain ⟨x, hx, k⟩ := s.sl i t e
    refine ⟨x, hx, k.grow (same_upd (s.gnone h)) (fun q u _ _ e => by rw [upd_ne (ne_of_none e h)]; exact e) fun q g ⟨u, hu⟩ f => ⟨by rw [upd_ne (ne_of_none hu h)]; exact g, f⟩⟩
  ow := s.ow
/-- a new object that is nobody's -/
theorem Stt.lay (s : Stt K F G H σ es) {p : Addr} {o : HO} (h : H p = none) : Stt K F G (upd H p o) σ es where
  f := s.f.trans (same_upd h)
  g := s.g.trans (same_upd h)
  dj := s.dj
  len := s.len
  sl := fun i t e => by
    obtain ⟨x, hx, k⟩ := s.sl i t e
    exact ⟨x, hx, k.grow (Same.refl _) (fun q u _ _ e => by rw [upd_ne (ne_of_none e h)]; exact e) fun q g _ f => ⟨g, f⟩⟩
  ow := s.ow
/-- what of H is not known -/
def rem (G H : Hp) : Hp := fun a => match G a with
  | none => H a
  | some _ => none
theorem rem_some {G H : Hp} {a : Addr} {o : HO} (h : rem G H a = some o) : H a = some o ∧ G a = none := by
  unfold rem at h
  cases q : G a with
  | none => rw [q] at h; exact ⟨h, rfl⟩
  | some x => rw [q] at h; cases h
theorem rem_of {G H : Hp} {a : Addr} (h : G a = none) : rem G H a = H a := by
  unfold rem
  rw [h]
/-- behind a call: all that was not known stands -/
theorem Stt.after (s : Stt K F G H σ es) (f : Same (rem G H) H') (g : Same G' H') (dj : ∀ a o, rem G H a = some o → G' a = none) (gg : Same G G') : Stt K F G' H' σ es where
  f := fun a o e => f a o (by rw [rem_of (s.dj a o e)]; exact s.f a o e)
  g := g
  dj := fun a o e => dj a o (by rw [rem_of (s.dj a o e)]; exact s.f a o e)
  len := s.len
  sl := fun i t e => by
    obtain ⟨x, hx, k⟩ := s.sl i t e
    exact ⟨x, hx, k.grow gg (fun q u hg _ e => f q u (by rw [rem_of hg]; exact e)) fun q hg ⟨u, hu⟩ hf => ⟨dj q u (by rw [rem_of hg]; exact hu), hf⟩⟩
  ow := s.ow

/-- a slot is set to data -/
theorem Stt.set (s : Stt K F G H σ es) {i : Nat} {v : V} {d : Dt} (r : Rep K G v d) : Stt K F G H (σ.set i (some v)) (es.set i (.d d)) where
  f := s.f
  g := s.g
  dj := s.dj
  len := by rw [List.length_set, List.length_set]; exact s.len
  sl := fun j t e => by
    by_cases q : i = j
    · subst q
      have hj : i < es.length := by
        have := (List.getElem?_eq_some_iff.mp e).1
        rwa [List.length_set] at this
      rw [List.getElem?_set_self hj] at e
      cases e
      exact ⟨some v, List.getElem?_set_self (by rw [s.len]; exact hj), v, rfl, r⟩
    · rw [List.getElem?_set_ne q] at e
      rw [List.getElem?_set_ne q]
      exact s.sl j t e
  ow := fun a b t u ne ea eb ha hb => by
    have na : i ≠ a := fun q => by
      subst q
      have hj : i < es.length := by
        have := (List.getElem?_eq_some_iff.mp ea).1
        rwa [List.length_set] at this
      rw [List.getElem?_set_self hj] at ea
      cases ea
      cases ha
    have nb : i ≠ b := fun q => by
      subst q
      have hj : i < es.length := by
        have := (List.getElem?_eq_some_iff.mp eb).1
        rwa [List.length_set] at this
      rw [List.getElem?_set_self hj] at eb
      cases eb
      cases hb
    rw [List.getElem?_set_ne na] at ea
    rw [List.getElem?_set_ne nb] at eb
    rw [List.getElem?_set_ne na, List.getElem?_set_ne nb]
    exact s.ow a b t u ne ea eb ha hb
/-- a slot is set to an object that is laid just now -/
theorem Stt.setOwn (s : Stt K F G H σ es) {i : Nat} {p : Addr} {t : Sl} {H' : Hp} (hn : H p = none) (eh : ∀ a o, H a = some o → H' a = some o) (ht : t.isOwn = true) (k : SlOk K F G H' (some (.ref p)) t) : Stt K F G H' (σ.set i (some (.ref p))) (es.set i t) where
  f := fun a o e => eh a o (s.f a o e)
  g := fun a o e => eh a o (s.g a o e)
  dj := s.dj
  len := by rw [List.length_set, List.length_set]; exact s.len
  sl := fun j u e => by
    by_cases q : i = j
    · subst q
      have hj : i < es.length := by
        have := (List.getElem?_eq_some_iff.mp e).1
        rwa [List.length_set] at this
      rw [List.getElem?_set_self hj] at e
      cases e
      exact ⟨_, List.getElem?_set_self (by rw [s.len]; exact hj), k⟩
    · rw [List.getElem?_set_ne q] at e
      rw [List.getElem?_set_ne q]
      obtain ⟨x, hx, k⟩ := s.sl j u e
      exact ⟨x, hx, k.grow (Same.refl _) (fun q u _ _ e => eh q u e) fun q g _ f => ⟨g, f⟩⟩
  ow := fun a b u w ne ea eb ha hb => by
    have other : ∀ j z, i ≠ j → (es.set i t)[j]? = some z → z.isOwn = true → σ[j]? ≠ some (some (.ref p)) := fun j z nj ej hz q => by
      rw [List.getElem?_set_ne nj] at ej
      obtain ⟨x, hx, k⟩ := s.sl j z ej
      rw [hx] at q
      cases q
      cases z with
      | un => cases hz
      | d x => cases hz
      | own a xs =>
        obtain ⟨p', vs, e, _, _, hp, _⟩ := k
        cases e
        rw [hn] at hp
        cases hp
      | obo a C fs =>
        obtain ⟨p', dx, vs, e, _, _, hp, _⟩ := k
        cases e
        rw [hn] at hp
        cases hp
    by_cases na : i = a
    · subst na
      have hj : i < es.length := by
        have := (List.getElem?_eq_some_iff.mp ea).1
        rwa [List.length_set] at this
      rw [List.getElem?_set_self (by rw [s.len]; exact hj), List.getElem?_set_ne ne]
      exact fun q => other b w ne eb hb q.symm
    · by_cases nb : i = b
      · subst nb
        have hj : i < es.length := by
          have := (List.getElem?_eq_some_iff.mp eb).1
          rwa [List.length_set] at this
        rw [List.getElem?_set_self (by rw [s.len]; exact hj), List.getElem?_set_ne na]
        exact other a u na ea ha
      · rw [List.getElem?_set_ne na] at ea ⊢
        rw [List.getElem?_set_ne nb] at eb ⊢
        exact s.ow a b u w ne ea eb ha hb
/-- slots forgotten -/
def Wk : List Sl → List Sl → Prop
  | [], [] => True
  | a :: as, b :: bs => (b = .un ∨ a = b) ∧ Wk as bs
  | _, _ => False
theorem Wk.len : ∀ {as bs : List Sl}, Wk as bs → as.length = bs.length
  | [], [], _ => rfl
  | _ :: _, _ :: _, h => congrArg (· + 1) (Wk.len h.2)
  | [], _ :: _, h => h.elim
  | _ :: _, [], h => h.elim
theorem Wk.get : ∀ {as bs : List Sl} {i : Nat} {b : Sl}, Wk as bs → bs[i]? = some b → ∃ a, as[i]? = some a ∧ (b = .un ∨ a = b)
  | [], [], _, _, _, e => by simp at e
  | a :: as, b :: bs, 0, c, h, e => by simp at e; subst e; exact ⟨a, rfl, h.1⟩
  | a :: as, b :: bs, i + 1, c, h, e => by
    obtain ⟨x, h1, h2⟩ := Wk.get (i := i) h.2 (by simpa using e)
    exact ⟨x, by simpa using h1, h2⟩
  | [], _ :: _, _, _, h, _ => h.elim
  | _ :: _, [], _, _, h, _ => h.elim
theorem Wk.refl : ∀ (as : List Sl), Wk as as
  | [] => trivial
  | _ :: as => ⟨.inr rfl, Wk.refl as⟩
theorem Stt.wk (s : Stt K F G H σ es) {fs : List Sl} (w : Wk es fs) : Stt K F G H σ fs where
  f := s.f
  g := s.g
  dj := s.dj
  len := by rw [s.len, w.len]
  sl := fun i t e => by
    obtain ⟨a, ha, q⟩ := w.get e
    obtain ⟨x, hx, k⟩ := s.sl i a ha
    refine ⟨x, hx, ?_⟩
    rcases q with q | q
    · subst q; trivial
    · subst q; exact k
  ow := fun i j t u ne ei ej hi hj => by
    obtain ⟨a, ha, q⟩ := w.get ei
    obtain ⟨b, hb, q'⟩ := w.get ej
    have ea : a = t := by
      rcases q with q | q
      · subst q; cases hi
      · exact q
    have eb : b = u := by
      rcases q' with q | q
      · subst q; cases hj
      · exact q
    subst ea eb
    exact s.ow i j a b ne ha hb hi hj
end

/-! ### what an expression gives -/
def Ev (K : PySem.W.Frag) (te : TE) (es : List Sl) (d : Dt) : Prop := ∀ F G H σ, Stt K F G H σ es → ∀ Q : VK, (∀ v G' H', Stt K F G' H' σ es → Same G G' → Rep K G' v d → Q v H') → te σ H Q
def EvT (K : PySem.W.Frag) (t : TT) (es : List Sl) (b : Bool) : Prop := ∀ F G H σ, Stt K F G H σ es → ∀ Q : Bool → Hp → Prop, (∀ G' H', Stt K F G' H' σ es → Same G G' → Q b H') → t σ H Q
def EvA (K : PySem.W.Frag) (ta : TA) (es : List Sl) (ds : List Dt) : Prop := ∀ F G H σ, Stt K F G H σ es → ∀ Q : List V → Hp → Prop, (∀ vs G' H', Stt K F G' H' σ es → Same G G' → Reps K G' vs ds → Q vs H') → ta σ H Q
def EvO (K : PySem.W.Frag) (t : TO) (es : List Sl) (o : Option Int) : Prop := ∀ F G H σ, Stt K F G H σ es → ∀ Q : Option Int → Hp → Prop, (∀ G' H', Stt K F G' H' σ es → Same G G' → Q o H') → t σ H Q
/-- a two-place operation on data -/
def R2D (K : PySem.W.Frag) (r : R2) (a b c : Dt) : Prop := ∀ F G H σ es x y, Stt K F G H σ es → Rep K G x a → Rep K G y b → ∀ Q : VK, (∀ v G' H', Stt K F G' H' σ es → Same G G' → Rep K G' v c → Q v H') → r x y H Q
def R1D (K : PySem.W.Frag) (r : V → Hp → VK → Prop) (a c : Dt) : Prop := ∀ F G H σ es x, Stt K F G H σ es → Rep K G x a → ∀ Q : VK, (∀ v G' H', Stt K F G' H' σ es → Same G G' → Rep K G' v c → Q v H') → r x H Q
def RLD (K : PySem.W.Frag) (r : List V → Hp → VK → Prop) (as : List Dt) (c : Dt) : Prop := ∀ F G H σ es xs, Stt K F G H σ es → Reps K G xs as → ∀ Q : VK, (∀ v G' H', Stt K F G' H' σ es → Same G G' → Rep K G' v c → Q v H') → r xs H Q

section
variable {K : PySem.W.Frag} {es : List Sl} {ta tb te : TE} {t u : TT} {a b c d : Dt} {r : R2}

theorem ev_is (h : Ev K te es a) (e : a = b) : Ev K te es b := e ▸ h
theorem et_is {x y : Bool} (h : EvT K t es x) (e : x = y) : EvT K t es y := e ▸ h
theorem ev_var {i : Nat} (h : es[i]? = some (.d d)) : Ev K (tVar i) es d := fun F G H σ s Q q => by
  obtain ⟨o, ho, v, e, r⟩ := s.sl i _ h
  subst e
  exact ⟨v, ho, q v G H s (Same.refl _) r⟩
theorem ev_int {i : Int} : Ev K (tC (.int i)) es (.int i) := fun F G H σ s Q q => q _ G H s (Same.refl _) (.int i)
theorem ev_bl {i : Bool} : Ev K (tC (.bl i)) es (.bl i) := fun F G H σ s Q q => q _ G H s (Same.refl _) (.bl i)
theorem ev_str {i : Str} : Ev K (tC (.str i)) es (.str i) := fun F G H σ s Q q => q _ G H s (Same.refl _) (.str i)
theorem ev_non : Ev K (tC .non) es .non := fun F G H σ s Q q => q _ G H s (Same.refl _) .non
theorem ev_op (ha : Ev K ta es a) (hb : Ev K tb es b) (hr : R2D K r a b c) : Ev K (tOp r ta tb) es c := fun F G H σ s Q q =>
  ha F G H σ s _ fun x G1 H1 s1 g1 r1 => hb F G1 H1 σ s1 _ fun y G2 H2 s2 g2 r2 => hr F G2 H2 σ es x y s2 (r1.mono g2) r2 Q fun v G3 H3 s3 g3 r3 => q v G3 H3 s3 (g1.trans (g2.trans g3)) r3
theorem ev_un {r : V → Hp → VK → Prop} (ha : Ev K ta es a) (hr : R1D K r a c) : Ev K (tUn r ta) es c := fun F G H σ s Q q =>
  ha F G H σ s _ fun x G1 H1 s1 g1 r1 => hr F G1 H1 σ es x s1 r1 Q fun v G3 H3 s3 g3 r3 => q v G3 H3 s3 (g1.trans g3) r3
theorem ea_nil : EvA K tNil es [] := fun F G H σ s Q q => q [] G H s (Same.refl _) .nil
theorem ea_cons {tr : TA} {ds : List Dt} (ha : Ev K ta es a) (hr : EvA K tr es ds) : EvA K (tCons ta tr) es (a :: ds) := fun F G H σ s Q q =>
  ha F G H σ s _ fun x G1 H1 s1 g1 r1 => hr F G1 H1 σ s1 _ fun xs G2 H2 s2 g2 r2 => q _ G2 H2 s2 (g1.trans g2) (.cons (r1.mono g2) r2)
theorem ev_tup {t : TA} {ds : List Dt} (h : EvA K t es ds) (hl : ds.length ≤ 100000) : Ev K (tTup t) es (.tup ds) := fun F G H σ s Q q =>
  h F G H σ s _ fun xs G1 H1 s1 g1 r1 => ⟨by rw [r1.length]; exact Nat.le_trans hl (by decide), fun p hp =>
    q _ _ _ (s1.new hp) (g1.trans (same_upd (s1.gnone hp))) (.tup (.inl (.inl upd_same)) (r1.mono (same_upd (s1.gnone hp))))⟩
theorem ev_cb {t : TA} {r : List V → Hp → VK → Prop} {ds : List Dt} (h : EvA K t es ds) (hr : RLD K r ds c) : Ev K (tCB r t) es c := fun F G H σ s Q q =>
  h F G H σ s _ fun xs G1 H1 s1 g1 r1 => hr F G1 H1 σ es xs s1 r1 Q fun v G2 H2 s2 g2 r2 => q v G2 H2 s2 (g1.trans g2) r2

/-! ### operations on ints -/
theorem r2_I0 {g : Int → Int → V} {i j : Int} {c : Dt} (hg : ∀ G, Rep K G (g i j) c) : R2D K (rI0 g) (.int i) (.int j) c := fun F G H σ es x y s rx ry Q q => by
  cases rx
  cases ry
  exact ⟨i, j, rfl, rfl, q _ G H s (Same.refl _) (hg G)⟩
theorem r2_I {C : Int → Int → Prop} {g : Int → Int → V} {i j : Int} {c : Dt} (hc : C i j) (hg : ∀ G, Rep K G (g i j) c) : R2D K (rI C g) (.int i) (.int j) c := fun F G H σ es x y s rx ry Q q => by
  cases rx
  cases ry
  exact ⟨i, j, rfl, rfl, hc, q _ G H s (Same.refl _) (hg G)⟩
theorem r2_int {g : Int → Int → Int} {i j : Int} : R2D K (rI0 fun i j => .int (g i j)) (.int i) (.int j) (.int (g i j)) := r2_I0 fun _ => .int _
theorem r2_bl {g : Int → Int → Bool} {i j : Int} : R2D K (rI0 fun i j => .bl (g i j)) (.int i) (.int j) (.bl (g i j)) := r2_I0 fun _ => .bl _
theorem r2_intC {C : Int → Int → Prop} {g : Int → Int → Int} {i j : Int} (hc : C i j) : R2D K (rI C fun i j => .int (g i j)) (.int i) (.int j) (.int (g i j)) := r2_I hc fun _ => .int _
theorem r1_int {g : Int → Int} {i : Int} : R1D K (rU fun i => .int (g i)) (.int i) (.int (g i)) := fun F G H σ es x s rx Q q => by
  cases rx
  exact ⟨i, rfl, q _ G H s (Same.refl _) (.int _)⟩
theorem r1_neg {i : Int} : R1D K (rU fun i => .int (-i)) (.int i) (.int (-i)) := r1_int

/-! the operations that ask something, as partial functions -/
def mulC (i j : Int) : Option Int := if i.natAbs.log2 + j.natAbs.log2 < 100000000 then some (i * j) else none
def divC (i j : Int) : Option Int := if 0 < j ∧ j.natAbs.log2 < 9000 then some (i / j) else none
def modC (i j : Int) : Option Int := if 0 < j then some (i % j) else none
def powC (i j : Int) : Option Int := if 0 ≤ j ∧ j ≤ 1000000 ∧ i.natAbs < 2 ^ 64 then some (i ^ j.toNat) else none
def shlC (i j : Int) : Option Int := if 0 ≤ j ∧ j ≤ 1000000 ∧ i.natAbs < 2 ^ 64 then some (i * 2 ^ j.toNat) else none
def shrC (i j : Int) : Option Int := if 0 ≤ j then some (i / 2 ^ j.toNat) else none
/-- * of two factors of together less than a hundred million bits -/
def CMulG (i j : Int) : Prop := i.natAbs.log2 + j.natAbs.log2 < 100000000
theorem CMulG.ok {i j : Int} (h : CMulG i j) : IntMulOk i j := by
  have b : ∀ x : Int, Builtin.Int.intBits x ≤ x.natAbs.log2 + 1 := fun x => by
    unfold Builtin.Int.intBits
    split <;> omega
  have h1 := b i
  have h2 := b j
  have h3 : i.natAbs.log2 + j.natAbs.log2 < 100000000 := h
  have e : bitsLine = 134217728 := by decide
  unfold IntMulOk
  intro z
  rw [Bool.and_eq_true] at z
  have z2 := z.2
  unfold Builtin.Int.intTooBig at z2
  have z3 := of_decide_eq_true z2
  rw [e] at z3
  omega
theorem op_mulG {X : Cx} : OpR X (binaryOp .Mult) (rI CMulG fun i j => .int (i * j)) := opI fun _ _ _ _ _ _ _ hc q => PyProof.Rows.mul_int q hc.ok
theorem ite_some {α : Type} {p : Prop} [Decidable p] {x y : α} (h : (if p then some x else none) = some y) : p ∧ x = y := by
  by_cases q : p
  · rw [if_pos q] at h
    exact ⟨q, Option.some.inj h⟩
  · rw [if_neg q] at h
    cases h
theorem ev_mul {i j k : Int} (ha : Ev K ta es (.int i)) (hb : Ev K tb es (.int j)) (h : mulC i j = some k) : Ev K (tOp (rI CMulG fun i j => .int (i * j)) ta tb) es (.int k) := by
  obtain ⟨h1, h2⟩ := ite_some h
  subst h2
  exact ev_op ha hb (r2_intC h1)
theorem ev_div {i j k : Int} (ha : Ev K ta es (.int i)) (hb : Ev K tb es (.int j)) (h : divC i j = some k) : Ev K (tOp (rI CDivW fun i j => .int (i / j)) ta tb) es (.int k) := by
  obtain ⟨h1, h2⟩ := ite_some h
  subst h2
  exact ev_op ha hb (r2_intC h1)
theorem ev_mod {i j k : Int} (ha : Ev K ta es (.int i)) (hb : Ev K tb es (.int j)) (h : modC i j = some k) : Ev K (tOp (rI (fun _ j => 0 < j) fun i j => .int (i % j)) ta tb) es (.int k) := by
  obtain ⟨h1, h2⟩ := ite_some h
  subst h2
  exact ev_op ha hb (r2_I h1 fun _ => .int _)
theorem ev_pow {i j k : Int} (ha : Ev K ta es (.int i)) (hb : Ev K tb es (.int j)) (h : powC i j = some k) : Ev K (tOp (rI CPow fun i j => .int (i ^ j.toNat)) ta tb) es (.int k) := by
  obtain ⟨h1, h2⟩ := ite_some h
  subst h2
  exact ev_op ha hb (r2_intC h1)
theorem ev_shl {i j k : Int} (ha : Ev K ta es (.int i)) (hb : Ev K tb es (.int j)) (h : shlC i j = some k) : Ev K (tOp (rI CPow fun i j => .int (i * 2 ^ j.toNat)) ta tb) es (.int k) := by
  obtain ⟨h1, h2⟩ := ite_some h
  subst h2
  exact ev_op ha hb (r2_intC h1)
theorem ev_shr {i j k : Int} (ha : Ev K ta es (.int i)) (hb : Ev K tb es (.int j)) (h : shrC i j = some k) : Ev K (tOp (rI (fun _ j => 0 ≤ j) fun i j => .int (i / 2 ^ j.toNat)) ta tb) es (.int k) := by
  obtain ⟨h1, h2⟩ := ite_some h
  subst h2
  exact ev_op ha hb (r2_I h1 fun _ => .int _)
theorem ev_add {i j : Int} (ha : Ev K ta es (.int i)) (hb : Ev K tb es (.int j)) : Ev K (tOp (rI0 fun i j => .int (i + j)) ta tb) es (.int (i + j)) := ev_op ha hb r2_int
theorem ev_sub {i j : Int} (ha : Ev K ta es (.int i)) (hb : Ev K tb es (.int j)) : Ev K (tOp (rI0 fun i j => .int (i - j)) ta tb) es (.int (i - j)) := ev_op ha hb r2_int
theorem ev_neg {i : Int} (ha : Ev K ta es (.int i)) : Ev K (tUn (rU fun i => .int (-i)) ta) es (.int (-i)) := ev_un ha r1_neg
theorem ev_lt {i j : Int} (ha : Ev K ta es (.int i)) (hb : Ev K tb es (.int j)) : Ev K (tOp (rI0 fun i j => .bl (decide (i < j))) ta tb) es (.bl (decide (i < j))) := ev_op ha hb r2_bl
theorem ev_le {i j : Int} (ha : Ev K ta es (.int i)) (hb : Ev K tb es (.int j)) : Ev K (tOp (rI0 fun i j => .bl (decide (i ≤ j))) ta tb) es (.bl (decide (i ≤ j))) := ev_op ha hb r2_bl
theorem ev_gt {i j : Int} (ha : Ev K ta es (.int i)) (hb : Ev K tb es (.int j)) : Ev K (tOp (rI0 fun i j => .bl (decide (j < i))) ta tb) es (.bl (decide (j < i))) := ev_op ha hb r2_bl
theorem ev_ge {i j : Int} (ha : Ev K ta es (.int i)) (hb : Ev K tb es (.int j)) : Ev K (tOp (rI0 fun i j => .bl (decide (j ≤ i))) ta tb) es (.bl (decide (j ≤ i))) := ev_op ha hb r2_bl
/-- what is one value without objects -/
def fl : Dt → V
  | .non => .non | .bl b => .bl b | .int i => .int i | .str s => .str s | _ => .ref 0
def isFl : Dt → Bool
  | .non => true | .bl _ => true | .int _ => true | .str _ => true | _ => false
theorem rep_fl {G : Hp} {x : V} {d : Dt} (h : isFl d = true) (r : Rep K G x d) : x = fl d := by
  cases r <;> first | rfl | cases h
theorem r2_eq {a b : Dt} (h : scal (fl a) (fl b) = true) (ha : isFl a = true) (hb : isFl b = true) : R2D K rEq a b (.bl (decide (fl a = fl b))) := fun F G H σ es x y s rx ry Q q => by
  rw [rep_fl ha rx, rep_fl hb ry]
  exact ⟨h, q _ G H s (Same.refl _) (.bl _)⟩
theorem r2_ne {a b : Dt} (h : scal (fl a) (fl b) = true) (ha : isFl a = true) (hb : isFl b = true) : R2D K rNe a b (.bl (!decide (fl a = fl b))) := fun F G H σ es x y s rx ry Q q => by
  rw [rep_fl ha rx, rep_fl hb ry]
  exact ⟨h, q _ G H s (Same.refl _) (.bl _)⟩
theorem dec_congr {p q : Prop} [Decidable p] [Decidable q] (h : p ↔ q) : decide p = decide q := by
  by_cases e : p
  · rw [decide_eq_true e, decide_eq_true (h.mp e)]
  · rw [decide_eq_false e, decide_eq_false fun z => e (h.mpr z)]
theorem ev_eqI {i j : Int} (ha : Ev K ta es (.int i)) (hb : Ev K tb es (.int j)) : Ev K (tOp rEq ta tb) es (.bl (decide (i = j))) := by
  have h : Ev K (tOp rEq ta tb) es (.bl (decide (V.int i = V.int j))) := ev_op ha hb (r2_eq rfl rfl rfl)
  rwa [dec_congr ⟨fun q : V.int i = V.int j => V.int.inj q, fun q => congrArg _ q⟩] at h
theorem ev_neI {i j : Int} (ha : Ev K ta es (.int i)) (hb : Ev K tb es (.int j)) : Ev K (tOp rNe ta tb) es (.bl (!decide (i = j))) := by
  have h : Ev K (tOp rNe ta tb) es (.bl (!decide (V.int i = V.int j))) := ev_op ha hb (r2_ne rfl rfl rfl)
  rwa [dec_congr ⟨fun q : V.int i = V.int j => V.int.inj q, fun q => congrArg _ q⟩] at h
theorem ev_eqB {i j : Bool} (ha : Ev K ta es (.bl i)) (hb : Ev K tb es (.bl j)) : Ev K (tOp rEq ta tb) es (.bl (decide (i = j))) := by
  have h : Ev K (tOp rEq ta tb) es (.bl (decide (V.bl i = V.bl j))) := ev_op ha hb (r2_eq rfl rfl rfl)
  rwa [dec_congr ⟨fun q : V.bl i = V.bl j => V.bl.inj q, fun q => congrArg _ q⟩] at h
theorem ev_neB {i j : Bool} (ha : Ev K ta es (.bl i)) (hb : Ev K tb es (.bl j)) : Ev K (tOp rNe ta tb) es (.bl (!decide (i = j))) := by
  have h : Ev K (tOp rNe ta tb) es (.bl (!decide (V.bl i = V.bl j))) := ev_op ha hb (r2_ne rfl rfl rfl)
  rwa [dec_congr ⟨fun q : V.bl i = V.bl j => V.bl.inj q, fun q => congrArg _ q⟩] at h
theorem ev_eqS {i j : Str} (ha : Ev K ta es (.str i)) (hb : Ev K tb es (.str j)) : Ev K (tOp rEq ta tb) es (.bl (decide (i = j))) := by
  have h : Ev K (tOp rEq ta tb) es (.bl (decide (V.str i = V.str j))) := ev_op ha hb (r2_eq rfl rfl rfl)
  rwa [dec_congr ⟨fun q : V.str i = V.str j => V.str.inj q, fun q => congrArg _ q⟩] at h
theorem ev_neS {i j : Str} (ha : Ev K ta es (.str i)) (hb : Ev K tb es (.str j)) : Ev K (tOp rNe ta tb) es (.bl (!decide (i = j))) := by
  have h : Ev K (tOp rNe ta tb) es (.bl (!decide (V.str i = V.str j))) := ev_op ha hb (r2_ne rfl rfl rfl)
  rwa [dec_congr ⟨fun q : V.str i = V.str j => V.str.inj q, fun q => congrArg _ q⟩] at h

/-! ### tests, and, or, not, if -/
theorem et_test {b : Bool} (h : Ev K te es (.bl b)) : EvT K (tTest te) es b := fun F G H σ s Q q => h F G H σ s _ fun v G1 H1 s1 g1 r1 => by
  cases r1
  exact ⟨b, rfl, q G1 H1 s1 g1⟩
theorem et_B {b : Bool} (h : Ev K te es (.bl b)) : EvT K (tB te) es b := fun F G H σ s Q q => h F G H σ s _ fun v G1 H1 s1 g1 r1 => by
  cases r1
  exact ⟨b, rfl, q G1 H1 s1 g1⟩
theorem et_not {b : Bool} (h : EvT K t es b) : EvT K (tNot t) es (!b) := fun F G H σ s Q q => h F G H σ s _ fun G1 H1 s1 g1 => q G1 H1 s1 g1
theorem et_and {x y : Bool} (h1 : EvT K t es x) (h2 : x = true → EvT K u es y) : EvT K (tAnd t u) es (x && y) := fun F G H σ s Q q => h1 F G H σ s _ fun G1 H1 s1 g1 => by
  cases x with
  | true =>
    show u σ H1 Q
    exact h2 rfl F G1 H1 σ s1 Q fun G2 H2 s2 g2 => q G2 H2 s2 (g1.trans g2)
  | false => exact q G1 H1 s1 g1
theorem et_or {x y : Bool} (h1 : EvT K t es x) (h2 : x = false → EvT K u es y) : EvT K (tOr t u) es (x || y) := fun F G H σ s Q q => h1 F G H σ s _ fun G1 H1 s1 g1 => by
  cases x with
  | false =>
    show u σ H1 Q
    exact h2 rfl F G1 H1 σ s1 Q fun G2 H2 s2 g2 => q G2 H2 s2 (g1.trans g2)
  | true => exact q G1 H1 s1 g1
theorem et_andC {x z : Bool} {m : Option Bool} (h1 : EvT K t es x) (h2 : x = true → ∀ y, m = some y → EvT K u es y) (h : (if x = true then m else some false) = some z) : EvT K (tAnd t u) es z := by
  cases x with
  | true => exact et_is (et_and h1 fun e => h2 e z h) rfl
  | false =>
    have e : false = z := Option.some.inj h
    exact et_is (et_and (y := true) h1 fun e => nomatch e) e
theorem et_orC {x z : Bool} {m : Option Bool} (h1 : EvT K t es x) (h2 : x = false → ∀ y, m = some y → EvT K u es y) (h : (if x = true then some true else m) = some z) : EvT K (tOr t u) es z := by
  cases x with
  | false => exact et_is (et_or h1 fun e => h2 e z h) rfl
  | true =>
    have e : true = z := Option.some.inj h
    exact et_is (et_or (y := true) h1 fun e => nomatch e) e
theorem ev_notV {x : Bool} (h1 : Ev K ta es (.bl x)) : Ev K (tNotV ta) es (.bl (!x)) := fun F G H σ s Q q => h1 F G H σ s _ fun v G1 H1 s1 g1 r1 => by
  cases r1
  exact ⟨x, rfl, q _ G1 H1 s1 g1 (.bl _)⟩
theorem ev_andV {x y : Bool} (h1 : Ev K ta es (.bl x)) (h2 : x = true → Ev K tb es (.bl y)) : Ev K (tAndV ta tb) es (.bl (x && y)) := fun F G H σ s Q q => h1 F G H σ s _ fun v G1 H1 s1 g1 r1 => by
  cases r1
  refine ⟨x, rfl, ?_⟩
  cases x with
  | true =>
    show tb σ H1 Q
    exact h2 rfl F G1 H1 σ s1 Q fun v G2 H2 s2 g2 r2 => q v G2 H2 s2 (g1.trans g2) r2
  | false => exact q _ G1 H1 s1 g1 (.bl _)
theorem ev_orV {x y : Bool} (h1 : Ev K ta es (.bl x)) (h2 : x = false → Ev K tb es (.bl y)) : Ev K (tOrV ta tb) es (.bl (x || y)) := fun F G H σ s Q q => h1 F G H σ s _ fun v G1 H1 s1 g1 r1 => by
  cases r1
  refine ⟨x, rfl, ?_⟩
  cases x with
  | false =>
    show tb σ H1 Q
    exact h2 rfl F G1 H1 σ s1 Q fun v G2 H2 s2 g2 r2 => q v G2 H2 s2 (g1.trans g2) r2
  | true => exact q _ G1 H1 s1 g1 (.bl _)
theorem ev_andVC {x z : Bool} {m : Option Bool} (h1 : Ev K ta es (.bl x)) (h2 : x = true → ∀ y, m = some y → Ev K tb es (.bl y)) (h : (if x = true then m else some false) = some z) : Ev K (tAndV ta tb) es (.bl z) := by
  cases x with
  | true => exact ev_is (ev_andV h1 fun e => h2 e z h) rfl
  | false =>
    have e : false = z := Option.some.inj h
    exact ev_is (ev_andV (y := true) h1 fun e => nomatch e) (congrArg _ e)
theorem ev_orVC {x z : Bool} {m : Option Bool} (h1 : Ev K ta es (.bl x)) (h2 : x = false → ∀ y, m = some y → Ev K tb es (.bl y)) (h : (if x = true then some true else m) = some z) : Ev K (tOrV ta tb) es (.bl z) := by
  cases x with
  | false => exact ev_is (ev_orV h1 fun e => h2 e z h) rfl
  | true =>
    have e : true = z := Option.some.inj h
    exact ev_is (ev_orV (y := true) h1 fun e => nomatch e) (congrArg _ e)
theorem ev_if {x : Bool} (h : EvT K t es x) (h1 : x = true → Ev K ta es d) (h2 : x = false → Ev K tb es d) : Ev K (tIf t ta tb) es d := fun F G H σ s Q q => h F G H σ s _ fun G1 H1 s1 g1 => by
  cases x with
  | true =>
    show ta σ H1 Q
    exact h1 rfl F G1 H1 σ s1 Q fun v G2 H2 s2 g2 r2 => q v G2 H2 s2 (g1.trans g2) r2
  | false =>
    show tb σ H1 Q
    exact h2 rfl F G1 H1 σ s1 Q fun v G2 H2 s2 g2 r2 => q v G2 H2 s2 (g1.trans g2) r2
/-- a if t else b, both without asking -/
theorem ev_ifP {α : Type} {x : Bool} {p q : α} {em : α → Dt} (h : EvT K t es x) (h1 : Ev K ta es (em p)) (h2 : Ev K tb es (em q)) : Ev K (tIf t ta tb) es (em (if x = true then p else q)) := by
  cases x with
  | true => exact ev_if h (fun _ => h1) fun e => nomatch e
  | false => exact ev_if h (fun e => nomatch e) fun _ => h2
theorem ev_ifC {α : Type} {x : Bool} {p q : Option α} {em : α → Dt} {z : α} (h : EvT K t es x) (h1 : x = true → ∀ y, p = some y → Ev K ta es (em y)) (h2 : x = false → ∀ y, q = some y → Ev K tb es (em y)) (e : (if x = true then p else q) = some z) : Ev K (tIf t ta tb) es (em z) := by
  cases x with
  | true => exact ev_if h (fun _ => h1 rfl z e) fun e => nomatch e
  | false => exact ev_if h (fun e => nomatch e) fun _ => h2 rfl z e
/-- a op1 b op2 c -/
theorem ev_chain {r r' : R2} {tc : TE} {x y : Bool} (ha : Ev K ta es a) (hb : Ev K tb es b) (hr : R2D K r a b (.bl x)) (hc : x = true → Ev K tc es c) (hr' : x = true → R2D K r' b c (.bl y)) : Ev K (tChain r r' ta tb tc) es (.bl (x && y)) := fun F G H σ s Q q =>
  ha F G H σ s _ fun v1 G1 H1 s1 g1 r1 => hb F G1 H1 σ s1 _ fun v2 G2 H2 s2 g2 r2 => hr F G2 H2 σ es v1 v2 s2 (r1.mono g2) r2 _ fun z G3 H3 s3 g3 r3 => by
    cases r3
    refine ⟨x, rfl, ?_⟩
    cases x with
    | true =>
      show tc σ H3 fun w' H4 => r' v2 w' H4 Q
      exact hc rfl F G3 H3 σ s3 _ fun v4 G4 H4 s4 g4 r4 => hr' rfl F G4 H4 σ es v2 v4 s4 ((r2.mono g3).mono g4) r4 Q fun v5 G5 H5 s5 g5 r5 => q v5 G5 H5 s5 (g1.trans (g2.trans (g3.trans (g4.trans g5)))) r5
    | false => exact q _ G3 H3 s3 (g1.trans (g2.trans g3)) (.bl _)
theorem ev_chainC {r r' : R2} {tc : TE} {α : Type} {em : α → Dt} {x z : Bool} {m : Option α} {f : α → Bool} (ha : Ev K ta es a) (hb : Ev K tb es b) (hr : R2D K r a b (.bl x)) (hc : x = true → ∀ w, m = some w → Ev K tc es (em w)) (hr' : ∀ w, R2D K r' b (em w) (.bl (f w)))
    (h : (if x = true then m.bind fun w => some (f w) else some false) = some z) : Ev K (tChain r r' ta tb tc) es (.bl z) := by
  cases x with
  | true =>
    cases hm : m with
    | none => rw [hm] at h; cases h
    | some w =>
      rw [hm] at h
      have e : f w = z := Option.some.inj h
      exact ev_is (ev_chain ha hb hr (fun e => hc e w hm) fun _ => hr' w) (congrArg _ e)
  | false =>
    have e : false = z := Option.some.inj h
    exact ev_is (ev_chain (c := .non) (y := true) ha hb hr (fun e => nomatch e) fun e => nomatch e) (congrArg _ e)
theorem c_lt {i j : Int} : R2D K (rI0 fun i j => .bl (decide (i < j))) (.int i) (.int j) (.bl (decide (i < j))) := r2_bl
theorem c_le {i j : Int} : R2D K (rI0 fun i j => .bl (decide (i ≤ j))) (.int i) (.int j) (.bl (decide (i ≤ j))) := r2_bl
theorem c_gt {i j : Int} : R2D K (rI0 fun i j => .bl (decide (j < i))) (.int i) (.int j) (.bl (decide (j < i))) := r2_bl
theorem c_ge {i j : Int} : R2D K (rI0 fun i j => .bl (decide (j ≤ i))) (.int i) (.int j) (.bl (decide (j ≤ i))) := r2_bl
theorem c_eq {i j : Int} : R2D K rEq (.int i) (.int j) (.bl (decide (i = j))) := fun F G H σ es x y s rx ry Q q => by
  cases rx
  cases ry
  refine ⟨rfl, q _ G H s (Same.refl _) ?_⟩
  rw [dec_congr ⟨fun q : V.int i = V.int j => V.int.inj q, fun q => congrArg _ q⟩]
  exact .bl _

/-! ### subscripts, fields -/
def atC {α : Type} (xs : List α) (i : Int) : Option α := atI xs i
theorem atI_map {α β : Type} (f : α → β) (xs : List α) (i : Int) : atI (xs.map f) i = (atI xs i).map f := by
  unfold atI
  rw [List.length_map]
  cases ixN xs.length i with
  | none => rfl
  | some j =>
    show (xs.map f)[j]? = (xs[j]?).map f
    rw [List.getElem?_map]
theorem reps_at {G : Hp} {vs : List V} {ds : List Dt} {i : Int} {d : Dt} (r : Reps K G vs ds) (h : atI ds i = some d) : ∃ v, atI vs i = some v ∧ Rep K G v d := by
  unfold atI at h ⊢
  rw [r.length]
  cases q : ixN ds.length i with
  | none => rw [q] at h; cases h
  | some j =>
    rw [q] at h
    exact r.get h
theorem ev_ixT {ds : List Dt} {i : Int} (ha : Ev K ta es (.tup ds)) (hb : Ev K tb es (.int i)) (h : atI ds i = some d) : Ev K (tOp (rIxT K) ta tb) es d := ev_op ha hb fun F G H σ es x y s rx ry Q q => by
  cases rx with
  | tup hs r =>
    cases ry
    obtain ⟨v, hv, rv⟩ := reps_at r h
    exact ⟨_, _, i, v, rfl, rfl, sqT_mono s.g hs, hv, q v G H s (Same.refl _) rv⟩
theorem ev_ixL {ds : List Dt} {i : Int} (ha : Ev K ta es (.lst ds)) (hb : Ev K tb es (.int i)) (h : atI ds i = some d) : Ev K (tOp (rIxL K) ta tb) es d := ev_op ha hb fun F G H σ es x y s rx ry Q q => by
  cases rx with
  | lst hs r =>
    cases ry
    obtain ⟨v, hv, rv⟩ := reps_at r h
    exact ⟨_, _, i, v, rfl, rfl, s.g.seq hs, hv, q v G H s (Same.refl _) rv⟩
/-- at an index that is not written -/
theorem ev_ixTC {α : Type} {em : α → Dt} {xs : List α} {i : Int} {x : α} (ha : Ev K ta es (.tup (xs.map em))) (hb : Ev K tb es (.int i)) (h : atC xs i = some x) : Ev K (tOp (rIxT K) ta tb) es (em x) :=
  ev_ixT ha hb (by rw [atI_map, show atI xs i = some x from h]; rfl)
theorem ev_ixLC {α : Type} {em : α → Dt} {xs : List α} {i : Int} {x : α} (ha : Ev K ta es (.lst (xs.map em))) (hb : Ev K tb es (.int i)) (h : atC xs i = some x) : Ev K (tOp (rIxL K) ta tb) es (em x) :=
  ev_ixL ha hb (by rw [atI_map, show atI xs i = some x from h]; rfl)
theorem ev_fld {C : Addr} {fs : List (Str × Dt)} {f : Str} (ha : Ev K ta es (.obj C fs)) (hc : Cls K C) (hn : NoAttr K C f) (hl : fs.lookup f = some d) : Ev K (tFld K ta f) es d := fun F G H σ s Q q =>
  ha F G H σ s _ fun x G1 H1 s1 g1 r1 => by
    cases r1 with
    | obj h r =>
      obtain ⟨v, hv, rv⟩ := r.lookup hl
      exact ⟨_, C, _, _, v, rfl, s1.g _ _ h, hc, hn, hv, q v G1 H1 s1 g1 rv⟩
/-- a field of the object one makes -/
theorem ev_fldO {C : Addr} {fs : List (Str × Dt)} {f : Str} {i : Nat} {p : Option Addr} (h : es[i]? = some (.obo p C fs)) (hc : Cls K C) (hn : NoAttr K C f) (hl : fs.lookup f = some d) : Ev K (tFld K (tVar i) f) es d := fun F G H σ s Q q => by
  obtain ⟨o, ho, p, dx, vs, e, g, f, hp, r, _⟩ := s.sl i _ h
  subst e
  obtain ⟨v, hv, rv⟩ := r.lookup hl
  exact ⟨.ref p, ho, p, C, dx, vs, v, rfl, hp, hc, hn, hv, q v G H s (Same.refl _) rv⟩
/-- an item of the list one fills -/
theorem ev_ixO {ds : List Dt} {i : Int} {j : Nat} {p : Option Addr} (h : es[j]? = some (.own p ds)) (hb : Ev K tb es (.int i)) (ha : atI ds i = some d) : Ev K (tOp (rIxL K) (tVar j) tb) es d := fun F G H σ s Q q => by
  obtain ⟨o, ho, _⟩ := s.sl j _ h
  have ho' := ho
  obtain ⟨o2, ho2, p2, vs2, e2, _⟩ := s.sl j _ h
  subst e2
  refine ⟨.ref p2, ho2, hb F G H σ s _ fun y G1 H1 s1 g1 r1 => ?_⟩
  cases r1
  obtain ⟨o, ho, p, vs, e, g, f, hp, r, _⟩ := s1.sl j _ h
  subst e
  rw [ho2] at ho
  cases ho
  obtain ⟨v, hv, rv⟩ := reps_at r ha
  exact ⟨_, vs, i, v, rfl, rfl, .inl (.inl hp), hv, q v G1 H1 s1 g1 rv⟩
theorem ev_ixOC {α : Type} {em : α → Dt} {xs : List α} {i : Int} {j : Nat} {p : Option Addr} {x : α} (h : es[j]? = some (.own p (xs.map em))) (hb : Ev K tb es (.int i)) (ha : atC xs i = some x) : Ev K (tOp (rIxL K) (tVar j) tb) es (em x) :=
  ev_ixO h hb (by rw [atI_map, show atI xs i = some x from ha]; rfl)
end
end DL

namespace DL
open PySem L2

/-! ### statements -/
inductive Res where
  | nx (es : List Sl) | go (es : List Sl) | bk (es : List Sl) | rt (d : Dt) (es : List Sl)
def Good (K : PySem.W.Frag) (F G : Hp) (D : Ends) : Res → Prop
  | .nx es => ∀ G' H' σ', Stt K F G' H' σ' es → Same G G' → D.nx σ' H'
  | .go es => (∀ G' H' σ', Stt K F G' H' σ' es → Same G G' → D.nx σ' H') ∧ ∀ G' H' σ', Stt K F G' H' σ' es → Same G G' → D.ct σ' H'
  | .bk es => ∀ G' H' σ', Stt K F G' H' σ' es → Same G G' → D.bk σ' H'
  | .rt d es => ∀ v G' H' σ', Stt K F G' H' σ' es → Same G G' → Rep K G' v d → D.rt v H'
theorem Good.up {K : PySem.W.Frag} {F G G1 : Hp} {D : Ends} {o : Res} (h : Good K F G D o) (g : Same G G1) : Good K F G1 D o := by
  cases o with
  | nx es => exact fun G' H' σ' s e => h G' H' σ' s (g.trans e)
  | go es => exact ⟨fun G' H' σ' s e => h.1 G' H' σ' s (g.trans e), fun G' H' σ' s e => h.2 G' H' σ' s (g.trans e)⟩
  | bk es => exact fun G' H' σ' s e => h G' H' σ' s (g.trans e)
  | rt d es => exact fun v G' H' σ' s e r => h v G' H' σ' s (g.trans e) r
def SEv (K : PySem.W.Frag) (t : TS) (es : List Sl) (o : Res) : Prop := ∀ F G H σ D, Stt K F G H σ es → Good K F G D o → t D σ H
def SM {ρ : Type} (K : PySem.W.Frag) (t : TS) (es : List Sl) (m : Option ρ) (oc : ρ → Res) : Prop := ∀ r, m = some r → SEv K t es (oc r)
/-- a target -/
def EvG (K : PySem.W.Frag) (g : TG) (vs : List Nat) (es : List Sl) (d : Dt) (es' : List Sl) : Prop := ∀ F G H σ v, Stt K F G H σ es → Rep K G v d → ∀ Q : L2.St → Hp → Prop,
  (∀ σ' G' H', Stt K F G' H' σ' es' → Same G G' → σ'.length = σ.length → (∀ k, k ∉ vs → σ'[k]? = σ[k]?) → Q σ' H') → g v σ H Q
/-- a let -/
def lt {α β : Type} (e : α) (f : α → β) : β := f e

section
variable {K : PySem.W.Frag} {es fs : List Sl} {ρ : Type} {t u tz : TS} {m : Option ρ} {oc : ρ → Res} {te : TE} {d : Dt} {c : TT}
theorem sm_some {r : ρ} (h : SEv K t es (oc r)) : SM K t es (some r) oc := fun r' e => by
  cases e
  exact h
theorem sm_none : SM K t es none oc := fun r' e => by cases e
theorem sm_bind {α : Type} {m1 : Option α} {f : α → Option ρ} (h : ∀ x, m1 = some x → SM K t es (f x) oc) : SM K t es (m1.bind f) oc := fun r e => by
  cases q : m1 with
  | none => rw [q] at e; cases e
  | some x =>
    rw [q] at e
    exact h x q r e
theorem sm_lt {α : Type} {e : α} {f : α → Option ρ} (h : ∀ x, e = x → SM K t es (f x) oc) : SM K t es (lt e f) oc := h e rfl
theorem sm_one (h : SM K (tSeq t tNext) es m oc) : SM K t es m oc := h
theorem sm_as {v : TS} (h : SM K (tSeq t (tSeq u v)) es m oc) : SM K (tSeq (tSeq t u) v) es m oc := h
theorem sm_nil (h : SM K tz es m oc) : SM K (tSeq tNext tz) es m oc := h
theorem sm_wk {gs : List Sl} (w : Wk es gs) (h : SM K t gs m oc) : SM K t es m oc := fun r e F G H σ D s q => h r e F G H σ D (s.wk w) q
theorem sev_nx (w : Wk es fs) : SEv K tNext es (.nx fs) := fun F G H σ D s q => q G H σ (s.wk w) (Same.refl _)
theorem sev_go (w : Wk es fs) : SEv K tNext es (.go fs) := fun F G H σ D s q => q.1 G H σ (s.wk w) (Same.refl _)
theorem sev_ct (w : Wk es fs) : SEv K (tSeq tCont tz) es (.go fs) := fun F G H σ D s q => q.2 G H σ (s.wk w) (Same.refl _)
theorem sev_bk (w : Wk es fs) : SEv K (tSeq tBreak tz) es (.bk fs) := fun F G H σ D s q => q G H σ (s.wk w) (Same.refl _)
theorem sev_rt (h : Ev K te es d) (w : Wk es fs) : SEv K (tSeq (tRet te) tz) es (.rt d fs) := fun F G H σ D s q => h F G H σ s _ fun v G1 H1 s1 g1 r1 => q v G1 H1 σ (s1.wk w) g1 r1
theorem sev_rtN (w : Wk es fs) : SEv K (tSeq tRetN tz) es (.rt .non fs) := fun F G H σ D s q => q .non G H σ (s.wk w) (Same.refl _) .non
theorem sm_asg {i : Nat} (h : Ev K te es d) (k : SM K tz (es.set i (.d d)) m oc) : SM K (tSeq (tAsg te (gName i)) tz) es m oc := fun r e F G H σ D s q =>
  h F G H σ s _ fun v G1 H1 s1 g1 r1 => k r e F G1 H1 _ D (s1.set r1) (q.up g1)
theorem sm_drop (h : Ev K te es d) (k : SM K tz es m oc) : SM K (tSeq (tDrop te) tz) es m oc := fun r e F G H σ D s q =>
  h F G H σ s _ fun v G1 H1 s1 g1 r1 => k r e F G1 H1 _ D s1 (q.up g1)
theorem sm_asgG {g : TG} {vs : List Nat} {es' : List Sl} (h : Ev K te es d) (hg : EvG K g vs es d es') (k : SM K tz es' m oc) : SM K (tSeq (tAsg te g) tz) es m oc := fun r e F G H σ D s q =>
  h F G H σ s _ fun v G1 H1 s1 g1 r1 => hg F G1 H1 σ v s1 r1 _ fun σ' G2 H2 s2 g2 _ _ => k r e F G2 H2 σ' D s2 (q.up (g1.trans g2))
theorem sm_par {i j : Nat} {ta : TA} {d1 d2 : Dt} (h : EvA K ta es [d1, d2]) (k : SM K tz ((es.set i (.d d1)).set j (.d d2)) m oc) : SM K (tSeq (tPar i j ta) tz) es m oc := fun r e F G H σ D s q =>
  h F G H σ s _ fun vs G1 H1 s1 g1 r1 => by
    cases r1 with
    | cons ra rr =>
      cases rr with
      | cons rb rn =>
        cases rn
        exact ⟨_, _, rfl, k r e F G1 H1 _ D ((s1.set ra).set rb) (q.up g1)⟩
theorem sm_if {b : Bool} {p q : Option ρ} (h : EvT K c es b) (h1 : b = true → SM K (tSeq t tz) es p oc) (h2 : b = false → SM K (tSeq u tz) es q oc) : SM K (tSeq (tIfS c t u) tz) es (if b = true then p else q) oc := fun r e F G H σ D s k =>
  h F G H σ s _ fun G1 H1 s1 g1 => by
    cases b with
    | true =>
      show t _ σ H1
      exact h1 rfl r e F G1 H1 σ D s1 (k.up g1)
    | false =>
      show u _ σ H1
      exact h2 rfl r e F G1 H1 σ D s1 (k.up g1)
theorem sm_seq {S : Type} {ms : Option S} {env : S → List Sl} {k : S → Option ρ} (h : SM K t es ms fun s => .nx (env s)) (h2 : ∀ s, ms = some s → SM K u (env s) (k s) oc) : SM K (tSeq t u) es (ms.bind k) oc := fun r e F G H σ D s q => by
  cases hm : ms with
  | none => rw [hm] at e; cases e
  | some x =>
    rw [hm] at e
    exact h x hm F G H σ _ s fun G' H' σ' s' g => h2 x hm r e F G' H' σ' D s' (q.up g)

/-! ### targets -/
theorem eg_name {i : Nat} {vs : List Nat} (hv : i ∈ vs) : EvG K (gName i) vs es d (es.set i (.d d)) := fun F G H σ v s r Q q =>
  q _ G H (s.set r) (Same.refl _) (by rw [List.length_set]) fun k hk => by rw [List.getElem?_set_ne fun e => hk (by rw [← e]; exact hv)]
/-- targets one after another -/
def EvGs (K : PySem.W.Frag) (g : TGs) (vs : List Nat) (es : List Sl) (ds : List Dt) (es' : List Sl) : Prop := ∀ F G H σ xs, Stt K F G H σ es → Reps K G xs ds → ∀ Q : L2.St → Hp → Prop,
  (∀ σ' G' H', Stt K F G' H' σ' es' → Same G G' → σ'.length = σ.length → (∀ k, k ∉ vs → σ'[k]? = σ[k]?) → Q σ' H') → g xs σ H Q
theorem egs_nil {vs : List Nat} : EvGs K gNil vs es [] es := fun F G H σ xs s r Q q => by
  cases r
  exact ⟨rfl, q σ G H s (Same.refl _) rfl fun _ _ => rfl⟩
theorem egs_cons {g : TG} {gr : TGs} {vs : List Nat} {ds : List Dt} {es1 es2 : List Sl} (h : EvG K g vs es d es1) (hr : EvGs K gr vs es1 ds es2) : EvGs K (gCons g gr) vs es (d :: ds) es2 := fun F G H σ xs s r Q q => by
  cases r with
  | cons rv rr =>
    exact ⟨_, _, rfl, h F G H σ _ s rv _ fun σ1 G1 H1 s1 g1 l1 k1 => hr F G1 H1 σ1 _ s1 (rr.mono g1) Q fun σ2 G2 H2 s2 g2 l2 k2 => q σ2 G2 H2 s2 (g1.trans g2) (l2.trans l1) fun k hk => (k2 k hk).trans (k1 k hk)⟩
theorem eg_tup {n : Nat} {g : TGs} {vs : List Nat} {ds : List Dt} {es' : List Sl} (h : EvGs K g vs es ds es') (hn : ds.length = n) : EvG K (gTup K n g) vs es (.tup ds) es' := fun F G H σ v s r Q q => by
  cases r with
  | tup hs rr =>
    exact ⟨_, _, rfl, sqT_mono s.g hs, by rw [rr.length]; exact hn, h F G H σ _ s rr Q q⟩
end

/-! ### what is walked -/
def Yields (K : PySem.W.Frag) (J : It) (G : Hp) (ds : List Dt) : Prop := ∀ i F G1 H1 σ es, Same G G1 → Stt K F G1 H1 σ es →
  (∀ d, ds[i]? = some d → J.go i H1 ∧ ∀ x H2, J.yld i H1 x H2 → ∃ G2, Stt K F G2 H2 σ es ∧ Same G1 G2 ∧ Rep K G2 x d) ∧ (ds.length ≤ i → J.stop i H1)
def EvI (K : PySem.W.Frag) (wi : TI) (es : List Sl) (ds : List Dt) : Prop := ∀ F G H σ, Stt K F G H σ es → ∀ R : It → Hp → Prop, (∀ J G' H', Stt K F G' H' σ es → Same G G' → Yields K J G' ds → R J H') → wi σ H R
section
variable {K : PySem.W.Frag} {es : List Sl} {te : TE}
theorem ei_list {ds : List Dt} (h : Ev K te es (.lst ds)) : EvI K (iList K te) es ds := fun F G H σ s R q => h F G H σ s _ fun v G1 H1 s1 g1 r1 => by
  cases r1 with
  | lst hs r =>
    refine ⟨_, rfl, ⟨_, s1.g.seq hs⟩, q _ G1 H1 s1 g1 fun i F2 G2 H2 σ2 es2 g2 s2 => ⟨fun d e => ?_, fun e => ⟨_, s2.g.seq (g2.seq hs), by rw [r.length]; exact e⟩⟩⟩
    obtain ⟨v, hv, rv⟩ := r.get e
    refine ⟨⟨_, v, s2.g.seq (g2.seq hs), hv⟩, fun x H3 y => ?_⟩
    obtain ⟨e1, y2⟩ := y
    subst e1
    have := (y2 _ (s2.g.seq (g2.seq hs))).symm.trans hv
    cases this
    exact ⟨G2, s2, Same.refl _, rv.mono g2⟩
theorem ei_tup {ds : List Dt} (h : Ev K te es (.tup ds)) : EvI K (iTup K te) es ds := fun F G H σ s R q => h F G H σ s _ fun v G1 H1 s1 g1 r1 => by
  cases r1 with
  | tup hs r =>
    refine ⟨_, rfl, ⟨_, sqT_mono s1.g hs⟩, q _ G1 H1 s1 g1 fun i F2 G2 H2 σ2 es2 g2 s2 => ⟨fun d e => ?_, fun e => ⟨_, sqT_mono s2.g (sqT_mono g2 hs), by rw [r.length]; exact e⟩⟩⟩
    obtain ⟨v, hv, rv⟩ := r.get e
    refine ⟨⟨_, v, sqT_mono s2.g (sqT_mono g2 hs), hv⟩, fun x H3 y => ?_⟩
    obtain ⟨e1, y2⟩ := y
    subst e1
    have := (y2 _ (sqT_mono s2.g (sqT_mono g2 hs))).symm.trans hv
    cases this
    exact ⟨G2, s2, Same.refl _, rv.mono g2⟩
/-- lo, .. below hi -/
def rng (lo hi : Int) : List Int := (List.range (hi - lo).toNat).map fun (i : Nat) => lo + (i : Int)
def rngC (lo hi : Int) : Option (List Int) := if -(2 ^ 62) ≤ lo ∧ lo < 2 ^ 62 ∧ -(2 ^ 62) ≤ hi ∧ hi < 2 ^ 62 then some (rng lo hi) else none
theorem yields_rng {G : Hp} {lo : Int} {n : Nat} : Yields K (Itr lo n) G (((List.range n).map fun (i : Nat) => lo + (i : Int)).map Dt.int) := fun i F G1 H1 σ es g s => by
  refine ⟨fun d e => ?_, fun e => by rw [List.length_map, List.length_map, List.length_range] at e; exact e⟩
  rw [List.getElem?_map, List.getElem?_map] at e
  by_cases hi : i < n
  · rw [List.getElem?_range hi] at e
    cases e
    refine ⟨hi, fun x H2 y => ?_⟩
    obtain ⟨e1, e2⟩ := y
    subst e1 e2
    exact ⟨G1, s, Same.refl _, .int _⟩
  · rw [List.getElem?_eq_none (by simpa using hi)] at e
    cases e
theorem ei_rng1 {ta : TA} {hi : Int} {xs : List Int} (h : EvA K ta es [.int hi]) (e : rngC 0 hi = some xs) : EvI K (iRng1 ta) es (xs.map Dt.int) := fun F G H σ s R q => h F G H σ s _ fun vs G1 H1 s1 g1 r1 => by
  obtain ⟨⟨_, _, h1, h2⟩, e⟩ := ite_some e
  subst e
  cases r1 with
  | cons ra rr =>
    cases ra
    cases rr
    refine ⟨hi, rfl, h1, h2, q _ G1 H1 s1 g1 ?_⟩
    unfold rng
    rw [Int.sub_zero]
    exact yields_rng
theorem ei_rng2 {ta : TA} {lo hi : Int} {xs : List Int} (h : EvA K ta es [.int lo, .int hi]) (e : rngC lo hi = some xs) : EvI K (iRng2 ta) es (xs.map Dt.int) := fun F G H σ s R q => h F G H σ s _ fun vs G1 H1 s1 g1 r1 => by
  obtain ⟨hh, e⟩ := ite_some e
  subst e
  cases r1 with
  | cons ra rr =>
    cases ra
    cases rr with
    | cons rb rr =>
      cases rb
      cases rr
      exact ⟨lo, hi, rfl, hh, q _ G1 H1 s1 g1 yields_rng⟩
end

/-! ### loops -/
inductive Fl (S R : Type) where
  | nx (s : S) | bk (s : S) | rt (r : R)
def Fl.step {S R : Type} (k : S → Option (Fl S R)) : Fl S R → Option (Fl S R)
  | .nx s => k s
  | .bk s => some (.bk s)
  | .rt r => some (.rt r)
def Fl.thn {S R ρ : Type} (k : S → Option ρ) (e : R → ρ) : Fl S R → Option ρ
  | .nx s => k s
  | .bk s => k s
  | .rt r => some (e r)
def forF {α S R : Type} : List α → S → (α → S → Option (Fl S R)) → Option (Fl S R)
  | [], s, _ => some (.nx s)
  | x :: xs, s, f => (f x s).bind (Fl.step fun s' => forF xs s' f)
def forL {α S : Type} : List α → S → (α → S → Option S) → Option S
  | [], s, _ => some s
  | x :: xs, s, f => (f x s).bind fun s' => forL xs s' f
def bodyRes {S R : Type} (env : S → List Sl) (ed : R → Dt) (ee : R → List Sl) : Fl S R → Res
  | .nx s => .go (env s) | .bk s => .bk (env s) | .rt r => .rt (ed r) (ee r)
def loopRes {S R : Type} (env : S → List Sl) (ed : R → Dt) (ee : R → List Sl) : Fl S R → Res
  | .nx s => .nx (env s) | .bk s => .nx (env s) | .rt r => .rt (ed r) (ee r)
/-- behind a loop that may have returned -/
def thenF {S R ρ : Type} (m : Option (Fl S R)) (k : S → Option ρ) (e : R → ρ) : Option ρ := m.bind (Fl.thn k e)
section
variable {K : PySem.W.Frag} {es : List Sl} {α S R ρ : Type} {t u tb : TS} {oc : ρ → Res}
theorem sm_for {xs : List α} {em : α → Dt} {wi : TI} {g : TG} {vs : List Nat} {env : S → List Sl} {en2 : α → S → List Sl} {ed : R → Dt} {ee : R → List Sl} {s0 : S} {f : α → S → Option (Fl S R)}
    (hi : EvI K wi es (xs.map em)) (w : Wk es (env s0)) (hg : ∀ x s, EvG K g vs (env s) (em x) (en2 x s)) (hb : ∀ x s, x ∈ xs → SM K tb (en2 x s) (f x s) (bodyRes env ed ee)) :
    SM K (tFor wi g tb) es (forF xs s0 f) (loopRes env ed ee) := fun r e F G H σ D st q => by
  refine hi F G H σ st _ fun J G1 H1 s1 g1 y => ?_
  refine ⟨fun i m σ' H' => ∃ G' s, Stt K F G' H' σ' (env s) ∧ Same G1 G' ∧ m = xs.length - i ∧ i ≤ xs.length ∧ forF (xs.drop i) s f = some r, ⟨_, G1, s0, s1.wk w, Same.refl _, rfl, Nat.zero_le _, e⟩, ?_⟩
  rintro i m σ' H' ⟨G', s, st', g', rfl, hle, e'⟩
  by_cases hlt : i < xs.length
  · refine .inr ?_
    have hd : xs.drop i = xs[i] :: xs.drop (i + 1) := List.drop_eq_getElem_cons hlt
    rw [hd] at e'
    have hmem : xs[i] ∈ xs := List.getElem_mem hlt
    cases hf : f xs[i] s with
    | none =>
      have : forF (xs[i] :: xs.drop (i + 1)) s f = none := by
        show (f xs[i] s).bind _ = none
        rw [hf]
        rfl
      rw [this] at e'
      cases e'
    | some o =>
      obtain ⟨go, yld⟩ := (y i F G' H' σ' (env s) g' st').1 (em xs[i]) (by rw [List.getElem?_map, List.getElem?_eq_getElem hlt]; rfl)
      refine ⟨go, fun σ2 H2 => ∃ G2 s2, Stt K F G2 H2 σ2 (env s2) ∧ Same G1 G2 ∧ forF (xs.drop (i + 1)) s2 f = some r, fun σ2 H2 ⟨G2, s2, a1, a2, a3⟩ => ⟨xs.length - (i + 1), by omega, G2, s2, a1, a2, rfl, by omega, a3⟩, fun x H2 hy => ?_⟩
      obtain ⟨G2, st2, g2, rx⟩ := yld x H2 hy
      refine hg xs[i] s F G2 H2 σ' x st2 rx _ fun σ3 G3 H3 st3 g3 _ _ => ?_
      refine hb xs[i] s hmem o hf F G3 H3 σ3 _ st3 ?_
      have e2 : Fl.step (fun s' => forF (xs.drop (i + 1)) s' f) o = some r := by
        have : forF (xs[i] :: xs.drop (i + 1)) s f = Fl.step (fun s' => forF (xs.drop (i + 1)) s' f) o := by
          show (f xs[i] s).bind _ = _
          rw [hf]
          rfl
        rw [← this]
        exact e'
      have gg := g1.trans (g'.trans (g2.trans g3))
      cases o with
      | nx s' => exact ⟨fun G4 H4 σ4 st4 g4 => ⟨G4, s', st4, g'.trans (g2.trans (g3.trans g4)), e2⟩, fun G4 H4 σ4 st4 g4 => ⟨G4, s', st4, g'.trans (g2.trans (g3.trans g4)), e2⟩⟩
      | bk s' =>
        cases e2
        exact q.up gg
      | rt r' =>
        cases e2
        exact q.up gg
  · have e3 : i = xs.length := by omega
    subst e3
    refine .inl ⟨(y xs.length F G' H' σ' (env s) g' st').2 (by simp), ?_⟩
    rw [List.drop_length] at e'
    cases e'
    exact q G' H' σ' st' (g1.trans g')
theorem forF_forL {f : α → S → Option S} : ∀ {xs : List α} {s0 : S}, forF (R := Empty) xs s0 (fun x s => (f x s).bind fun s' => some (.nx s')) = (forL xs s0 f).bind fun s => some (.nx s)
  | [], s0 => rfl
  | x :: xs, s0 => by
    show ((f x s0).bind fun s' => some (Fl.nx s')).bind _ = ((f x s0).bind _).bind _
    cases f x s0 with
    | none => rfl
    | some s' => exact forF_forL (f := f) (xs := xs) (s0 := s')
/-- a loop that is left at its end alone -/
theorem sm_forL {xs : List α} {em : α → Dt} {wi : TI} {g : TG} {vs : List Nat} {env : S → List Sl} {en2 : α → S → List Sl} {s0 : S} {f : α → S → Option S}
    (hi : EvI K wi es (xs.map em)) (w : Wk es (env s0)) (hg : ∀ x s, EvG K g vs (env s) (em x) (en2 x s)) (hb : ∀ x s, x ∈ xs → SM K tb (en2 x s) (f x s) fun s' => .go (env s')) :
    SM K (tFor wi g tb) es (forL xs s0 f) fun s => .nx (env s) := fun r e => by
  have h := sm_for (R := Empty) (ed := fun _ => .non) (ee := fun _ => []) (f := fun x s => (f x s).bind fun s' => some (.nx s')) hi w hg fun x s hx => sm_bind fun s' hs => sm_some (hb x s hx s' hs)
  refine h (Fl.nx r) ?_
  rw [forF_forL (f := f), e]
  rfl
theorem sm_thenF {m : Option (Fl S R)} {k : S → Option ρ} {er : R → ρ} {env : S → List Sl} {ed : R → Dt} {ee : R → List Sl} (h : SM K t es m (loopRes env ed ee)) (h2 : ∀ s, SM K u (env s) (k s) oc) (h3 : ∀ r, oc (er r) = .rt (ed r) (ee r)) :
    SM K (tSeq t u) es (thenF m k er) oc := fun r e F G H σ D st q => by
  unfold thenF at e
  cases hm : m with
  | none => rw [hm] at e; cases e
  | some o =>
    rw [hm] at e
    refine h o hm F G H σ _ st ?_
    cases o with
    | nx s => exact fun G' H' σ' s' g => h2 s r e F G' H' σ' D s' (q.up g)
    | bk s => exact fun G' H' σ' s' g => h2 s r e F G' H' σ' D s' (q.up g)
    | rt x =>
      cases e
      have q' : Good K F G D (.rt (ed x) (ee x)) := (h3 x) ▸ q
      exact q'

/-! while -/
def whileF {S R : Type} : Nat → S → (S → Option Bool) → (S → Option (Fl S R)) → Option (Fl S R)
  | 0, _, _, _ => none
  | n + 1, s, c, f => (c s).bind fun b => if b = true then (f s).bind (Fl.step fun s' => whileF n s' c f) else some (.nx s)
theorem sm_while {c : TT} {n : Nat} {env : S → List Sl} {ed : R → Dt} {ee : R → List Sl} {s0 : S} {cf : S → Option Bool} {f : S → Option (Fl S R)} (w : Wk es (env s0))
    (hc : ∀ s b, cf s = some b → EvT K c (env s) b) (hb : ∀ s, SM K tb (env s) (f s) (bodyRes env ed ee)) : SM K (tWhile c tb) es (whileF n s0 cf f) (loopRes env ed ee) := fun r e F G H σ D st q => by
  refine ⟨fun m σ' H' => ∃ G' s, Stt K F G' H' σ' (env s) ∧ Same G G' ∧ whileF m s cf f = some r, ⟨n, G, s0, st.wk w, Same.refl _, e⟩, ?_⟩
  rintro m σ' H' ⟨G', s, st', g', e'⟩
  cases m with
  | zero => cases e'
  | succ m =>
    cases hq : cf s with
    | none =>
      have : whileF (m + 1) s cf f = none := by
        show (cf s).bind _ = none
        rw [hq]
        rfl
      rw [this] at e'
      cases e'
    | some b =>
      have e2 : (if b = true then (f s).bind (Fl.step fun s' => whileF m s' cf f) else some (.nx s)) = some r := by
        rw [← e']
        show _ = (cf s).bind _
        rw [hq]
        rfl
      refine hc s b hq F G' H' σ' st' _ fun G1 H1 s1 g1 => ?_
      cases b with
      | false =>
        cases e2
        exact q G1 H1 σ' s1 (g'.trans g1)
      | true =>
        have e3 : ((f s).bind (Fl.step fun s' => whileF m s' cf f)) = some r := e2
        cases hf : f s with
        | none => rw [hf] at e3; cases e3
        | some o =>
          rw [hf] at e3
          refine ⟨fun σ2 H2 => ∃ G2 s2, Stt K F G2 H2 σ2 (env s2) ∧ Same G G2 ∧ whileF m s2 cf f = some r, fun σ2 H2 ⟨G2, s2, a1, a2, a3⟩ => ⟨m, Nat.lt_succ_self m, G2, s2, a1, a2, a3⟩, ?_⟩
          refine hb s o hf F G1 H1 σ' _ s1 ?_
          have gg := g'.trans g1
          cases o with
          | nx s' => exact ⟨fun G4 H4 σ4 st4 g4 => ⟨G4, s', st4, gg.trans g4, e3⟩, fun G4 H4 σ4 st4 g4 => ⟨G4, s', st4, gg.trans g4, e3⟩⟩
          | bk s' =>
            cases e3
            exact q.up gg
          | rt r' =>
            cases e3
            exact q.up gg
end

/-! ### new lists -/
def EvL (K : PySem.W.Frag) (te : TE) (es : List Sl) (ds : List Dt) : Prop := ∀ F G H σ, Stt K F G H σ es → ∀ Q : VK, (∀ p vs G' H', Stt K (upd F p (.lst vs)) G' H' σ es → F p = none → Same G G' → Reps K G' vs ds → Q (.ref p) H') → te σ H Q
/-! ### comprehensions -/
def consO {β : Type} : Option β → List β → List β
  | none, ys => ys
  | some y, ys => y :: ys
def compO {α β : Type} : List α → (α → Option (Option β)) → Option (List β)
  | [], _ => some []
  | x :: xs, f => (f x).bind fun o => (compO xs f).bind fun ys => some (consO o ys)
def wipeS (es : List Sl) : List Nat → List Sl
  | [] => es
  | v :: vs => (wipeS es vs).set v .un
section
variable {K : PySem.W.Frag} {F G H : Hp} {σ : L2.St} {es : List Sl} {p : Addr} {o o' : HO}
theorem upd_none {H : Hp} {p q : Addr} {o : HO} (h : upd H p o q = none) : q ≠ p ∧ H q = none := by
  by_cases e : q = p
  · subst e
    rw [upd_same] at h
    cases h
  · rw [upd_ne e] at h
    exact ⟨e, h⟩
theorem Stt.prot (s : Stt K F G H σ es) (h : H p = none) : Stt K (upd F p o) G (upd H p o) σ es where
  f := fun a u e => by
    by_cases q : a = p
    · subst q
      rw [upd_same] at e ⊢
      exact e
    · rw [upd_ne q] at e ⊢
      exact s.f a u e
  g := s.g.trans (same_upd h)
  dj := fun a u e => by
    by_cases q : a = p
    · subst q
      exact s.gnone h
    · rw [upd_ne q] at e
      exact s.dj a u e
  len := s.len
  sl := fun i t e => by
    obtain ⟨x, hx, k⟩ := s.sl i t e
    refine ⟨x, hx, k.grow (Same.refl _) (fun q u _ _ e => by rw [upd_ne (ne_of_none e h)]; exact e) fun q g ⟨u, hu⟩ f => ⟨g, ?_⟩⟩
    rw [upd_ne (ne_of_none hu h)]
    exact f
  ow := s.ow
theorem Stt.reprot (s : Stt K (upd F p o) G H σ es) : Stt K (upd F p o') G (upd H p o') σ es := by
  have gp : G p = none := s.dj p o upd_same
  refine ⟨fun a u e => ?_, fun a u e => ?_, fun a u e => ?_, s.len, fun i t e => ?_, s.ow⟩
  · by_cases q : a = p
    · subst q
      rw [upd_same] at e ⊢
      exact e
    · rw [upd_ne q] at e ⊢
      exact s.f a u (by rw [upd_ne q]; exact e)
  · rw [upd_ne fun q => by subst q; rw [gp] at e; cases e]
    exact s.g a u e
  · by_cases q : a = p
    · subst q
      exact gp
    · rw [upd_ne q] at e
      exact s.dj a u (by rw [upd_ne q]; exact e)
  · obtain ⟨x, hx, k⟩ := s.sl i t e
    refine ⟨x, hx, k.grow (Same.refl _) (fun q u _ f e => by rw [upd_ne (upd_none f).1]; exact e) fun q g _ f => ⟨g, ?_⟩⟩
    rw [upd_ne (upd_none f).1]
    exact (upd_none f).2
theorem Stt.give (s : Stt K (upd F p o) G H σ es) (hF : F p = none) : Stt K F (upd G p o) H σ es := by
  have gp : G p = none := s.dj p o upd_same
  refine ⟨fun a u e => s.f a u (by rw [upd_ne (ne_of_none e hF)]; exact e), fun a u e => ?_, fun a u e => ?_, s.len, fun i t e => ?_, s.ow⟩
  · by_cases q : a = p
    · subst q
      exact s.f a u (by rw [upd_same] at e ⊢; exact e)
    · rw [upd_ne q] at e
      exact s.g a u e
  · have ne := ne_of_none e hF
    rw [upd_ne ne]
    exact s.dj a u (by rw [upd_ne ne]; exact e)
  · obtain ⟨x, hx, k⟩ := s.sl i t e
    refine ⟨x, hx, k.grow (same_upd gp) (fun q u _ _ e => e) fun q g _ f => ⟨?_, (upd_none f).2⟩⟩
    rw [upd_ne (upd_none f).1]
    exact g
theorem wipe_get : ∀ {vs : List Nat} {σ : L2.St} {k : Nat}, k ∉ vs → (wipe σ vs)[k]? = σ[k]?
  | [], _, _, _ => rfl
  | v :: vs, σ, k, h => by
    unfold wipe
    rw [List.getElem?_set_ne fun e => h (by rw [e]; exact List.mem_cons_self)]
    exact wipe_get fun e => h (List.mem_cons_of_mem _ e)
theorem wipe_in : ∀ {vs : List Nat} {σ : L2.St} {k : Nat}, k ∈ vs → k < σ.length → (wipe σ vs)[k]? = some none
  | v :: vs, σ, k, h, hl => by
    unfold wipe
    by_cases e : v = k
    · subst e
      exact List.getElem?_set_self (by rw [wipe_length]; exact hl)
    · rw [List.getElem?_set_ne e]
      rcases List.mem_cons.mp h with z | z
      · exact absurd z.symm e
      · exact wipe_in z hl
theorem wipe_ext {vs : List Nat} {σ' : L2.St} (hl : σ'.length = σ.length) (h : ∀ k, k ∉ vs → σ'[k]? = σ[k]?) : wipe σ' vs = wipe σ vs := by
  refine List.ext_getElem? fun k => ?_
  by_cases hk : k ∈ vs
  · by_cases hlt : k < σ.length
    · rw [wipe_in hk hlt, wipe_in hk (by rw [hl]; exact hlt)]
    · rw [List.getElem?_eq_none (by rw [wipe_length]; omega), List.getElem?_eq_none (by rw [wipe_length]; omega)]
  · rw [wipe_get hk, wipe_get hk, h k hk]
theorem wipeS_len : ∀ {vs : List Nat} {es : List Sl}, (wipeS es vs).length = es.length
  | [], _ => rfl
  | v :: vs, es => by
    unfold wipeS
    rw [List.length_set, wipeS_len]
theorem wipeS_get : ∀ {vs : List Nat} {es : List Sl} {k : Nat} {s : Sl}, (wipeS es vs)[k]? = some s → s = .un ∨ (k ∉ vs ∧ es[k]? = some s)
  | [], _, _, _, h => .inr ⟨by simp, h⟩
  | v :: vs, es, k, s, h => by
    unfold wipeS at h
    by_cases e : v = k
    · subst e
      have hj : v < (wipeS es vs).length := by
        have := (List.getElem?_eq_some_iff.mp h).1
        rwa [List.length_set] at this
      rw [List.getElem?_set_self hj] at h
      cases h
      exact .inl rfl
    · rw [List.getElem?_set_ne e] at h
      rcases wipeS_get h with z | ⟨z1, z2⟩
      · exact .inl z
      · refine .inr ⟨fun q => ?_, z2⟩
        rcases List.mem_cons.mp q with q | q
        · exact e q.symm
        · exact z1 q
theorem Stt.wipe (s : Stt K F G H σ es) (vs : List Nat) : Stt K F G H (L2.wipe σ vs) (wipeS es vs) where
  f := s.f
  g := s.g
  dj := s.dj
  len := by rw [wipe_length, wipeS_len]; exact s.len
  sl := fun i t e => by
    rcases wipeS_get e with z | ⟨z1, z2⟩
    · subst z
      have hi : i < (L2.wipe σ vs).length := by
        have := (List.getElem?_eq_some_iff.mp e).1
        rwa [wipeS_len, ← s.len, ← wipe_length σ vs] at this
      exact ⟨_, List.getElem?_eq_getElem hi, trivial⟩
    · rw [wipe_get z1]
      exact s.sl i t z2
  ow := fun i j t u ne ei ej hi hj => by
    rcases wipeS_get ei with z | ⟨z1, z2⟩
    · subst z; cases hi
    · rcases wipeS_get ej with z | ⟨w1, w2⟩
      · subst z; cases hj
      · rw [wipe_get z1, wipe_get w1]
        exact s.ow i j t u ne z2 w2 hi hj
end
section
variable {K : PySem.W.Frag} {es : List Sl} {α β : Type}
theorem compO_len {f : α → Option (Option β)} : ∀ {xs : List α} {ys : List β}, compO xs f = some ys → ys.length ≤ xs.length
  | [], ys, h => by cases h; exact Nat.le_refl _
  | x :: xs, ys, h => by
    unfold compO at h
    cases hx : f x with
    | none => rw [hx] at h; cases h
    | some o =>
      rw [hx] at h
      cases hr : compO xs f with
      | none => rw [hr] at h; cases h
      | some zs =>
        rw [hr] at h
        have ih := compO_len hr
        cases o with
        | none => cases h; exact Nat.le_succ_of_le ih
        | some y => cases h; exact Nat.succ_le_succ ih
/-- behind a block: the frame's slots, all of them data -/
theorem Stt.swap {F G1 H1 G2 H2 : Hp} {σ σ2 : L2.St} {es2 : List Sl} (s : Stt K F G1 H1 σ es) (hd : es.all (fun t => !t.isOwn) = true) (s2 : Stt K F G2 H2 σ2 es2) (g : Same G1 G2) : Stt K F G2 H2 σ es where
  f := s2.f
  g := s2.g
  dj := s2.dj
  len := s.len
  sl := fun i t e => by
    obtain ⟨x, hx, k⟩ := s.sl i t e
    refine ⟨x, hx, ?_⟩
    have := List.all_eq_true.mp hd t (List.mem_of_getElem? e)
    cases t with
    | un => trivial
    | d x =>
      obtain ⟨v, e, r⟩ := k
      exact ⟨v, e, r.mono g⟩
    | own _ _ => cases this
    | obo _ _ _ => cases this
  ow := s.ow
/-- [e for x in xs if ..]: the list's own place is kept aside while the items are made -/
theorem el_comp {wi : TI} {g : TG} {tt : TT} {te : TE} {vs : List Nat} {xs : List α} {em : α → Dt} {em2 : β → Dt} {f : α → Option (Option β)} {ys : List β} {en2 : α → List Sl}
    (hi : EvI K wi es (xs.map em)) (hz : xs.length ≤ 1000000) (hg : ∀ x, EvG K g vs (wipeS es vs) (em x) (en2 x))
    (hb : ∀ x o, x ∈ xs → f x = some o → EvT K tt (en2 x) o.isSome ∧ ∀ y, o = some y → Ev K te (en2 x) (em2 y)) (hd : es.all (fun t => !t.isOwn) = true) (h : compO xs f = some ys) : EvL K (tLc wi g tt te vs) es (ys.map em2) := fun F G H σ st Q q => by
  refine hi F G H σ st _ fun J G1 H1 s1 g1 y => fun Dl hD => ?_
  have hF : F Dl = none := s1.fnone hD
  have sz : (1000000 : Nat) < sizeLine := by decide
  refine ⟨fun i m H' => ∃ (G' : Hp) (acc : List V) (zs rest : List β), Stt K (upd F Dl (.lst acc)) G' H' σ es ∧ Same G1 G' ∧ Reps K G' acc (zs.map em2) ∧ zs.length ≤ i ∧ compO (xs.drop i) f = some rest ∧ zs ++ rest = ys ∧ m = xs.length - i ∧ i ≤ xs.length,
    ⟨_, G1, [], [], ys, s1.prot hD, Same.refl _, .nil, Nat.zero_le _, h, rfl, rfl, Nat.zero_le _⟩, ?_⟩
  rintro i m H' ⟨G', acc, zs, rest, st', g', racc, hzl, hc, hap, rfl, hle⟩
  by_cases hlt : i < xs.length
  · refine .inr ?_
    have hdr : xs.drop i = xs[i] :: xs.drop (i + 1) := List.drop_eq_getElem_cons hlt
    have hmem : xs[i] ∈ xs := List.getElem_mem hlt
    rw [hdr] at hc
    cases hf : f xs[i] with
    | none =>
      have : compO (xs[i] :: xs.drop (i + 1)) f = none := by
        show (f xs[i]).bind _ = none
        rw [hf]
        rfl
      rw [this] at hc
      cases hc
    | some o =>
      cases hr : compO (xs.drop (i + 1)) f with
      | none =>
        have : compO (xs[i] :: xs.drop (i + 1)) f = none := by
          show (f xs[i]).bind _ = none
          rw [hf]
          show (compO (xs.drop (i + 1)) f).bind _ = none
          rw [hr]
          rfl
        rw [this] at hc
        cases hc
      | some rest' =>
        have hc' : rest = consO o rest' := by
          have : compO (xs[i] :: xs.drop (i + 1)) f = some (consO o rest') := by
            show (f xs[i]).bind _ = _
            rw [hf]
            show (compO (xs.drop (i + 1)) f).bind _ = _
            rw [hr]
            rfl
          rw [this] at hc
          exact (Option.some.inj hc).symm
        obtain ⟨go, yld⟩ := (y i _ G' H' σ es g' st').1 (em xs[i]) (by rw [List.getElem?_map, List.getElem?_eq_getElem hlt]; rfl)
        refine ⟨go, fun H2 => ∃ (G2 : Hp) (acc2 : List V) (zs2 rest2 : List β), Stt K (upd F Dl (.lst acc2)) G2 H2 σ es ∧ Same G1 G2 ∧ Reps K G2 acc2 (zs2.map em2) ∧ zs2.length ≤ i + 1 ∧ compO (xs.drop (i + 1)) f = some rest2 ∧ zs2 ++ rest2 = ys,
          fun H2 ⟨G2, acc2, zs2, rest2, a1, a2, a3, a4, a5, a6⟩ => ⟨xs.length - (i + 1), by omega, G2, acc2, zs2, rest2, a1, a2, a3, a4, a5, a6, rfl, by omega⟩, fun x H2 hy => ?_⟩
        obtain ⟨G2, st2, g2, rx⟩ := yld x H2 hy
        obtain ⟨htt, hte⟩ := hb xs[i] o hmem hf
        -- the block: its slots are wiped; the frame comes back by Stt.frame
        refine hg xs[i] (upd F Dl (.lst acc)) G2 H2 (L2.wipe σ vs) x (st2.wipe vs) rx _ fun σ3 G3 H3 st3 g3 l3 k3 => ?_
        refine ⟨by rw [wipe_ext (σ := L2.wipe σ vs) l3 k3]; exact wipe_ext (wipe_length _ _) fun k hk => wipe_get hk, ?_⟩
        refine htt _ G3 H3 σ3 st3 _ fun G4 H4 st4 g4 => ?_
        have gg : Same G' G4 := g2.trans (g3.trans g4)
        cases o with
        | none => exact ⟨G4, acc, zs, rest, st2.swap hd st4 (g3.trans g4), g'.trans gg, racc.mono gg, Nat.le_succ_of_le hzl, by rw [hr, hc']; rfl, hap⟩
        | some yv =>
          show te σ3 H4 _
          refine hte yv rfl _ G4 H4 σ3 st4 _ fun v G5 H5 st5 g5 r5 => ?_
          have hzl2 : acc.length ≤ i := by
            have := racc.length
            rw [List.length_map] at this
            omega
          refine ⟨acc, st5.f Dl _ upd_same, by omega, G5, acc ++ [v], zs ++ [yv], rest', (st2.swap hd st5 (g3.trans (g4.trans g5))).reprot, g'.trans (gg.trans g5), ?_, ?_, hr, ?_⟩
          · rw [List.map_append]
            exact (racc.mono (gg.trans g5)).append (.cons r5 .nil)
          · rw [List.length_append, List.length_singleton]
            omega
          · rw [List.append_assoc]
            have : rest = yv :: rest' := hc'
            rw [this] at hap
            exact hap
  · have e3 : i = xs.length := by omega
    subst e3
    refine .inl ⟨(y xs.length _ G' H' σ es g' st').2 (by simp), ?_⟩
    rw [List.drop_length] at hc
    cases hc
    rw [List.append_nil] at hap
    subst hap
    exact q Dl acc G' H' st' hF (g1.trans g') racc
end
end DL

namespace DL
open PySem L2

/-! ### lists that one fills -/
section
variable {K : PySem.W.Frag} {F G H : Hp} {σ : L2.St} {es : List Sl} {p : Addr} {o o' : HO}
/-- an object kept aside becomes a slot's -/
theorem Stt.take {vs : List V} {ds : List Dt} {i : Nat} (s : Stt K (upd F p (.lst vs)) G H σ es) (hF : F p = none) (r : Reps K G vs ds) : Stt K F G H (σ.set i (some (.ref p))) (es.set i (.own none ds)) := by
  have gp : G p = none := s.dj p _ upd_same
  have hp : H p = some (.lst vs) := s.f p _ upd_same
  have up : ∀ {q : Addr} {u : HO}, F q = some u → upd F p (.lst vs) q = some u := fun {q u} e => by rw [upd_ne (ne_of_none e hF)]; exact e
  refine ⟨fun a u e => s.f a u (up e), s.g, fun a u e => s.dj a u (up e), by rw [List.length_set, List.length_set]; exact s.len, fun j t e => ?_, fun a b t u ne ea eb ha hb => ?_⟩
  · by_cases q : i = j
    · subst q
      have hj : i < es.length := by
        have := (List.getElem?_eq_some_iff.mp e).1
        rwa [List.length_set] at this
      rw [List.getElem?_set_self hj] at e
      cases e
      exact ⟨_, List.getElem?_set_self (by rw [s.len]; exact hj), p, vs, rfl, gp, hF, hp, r, fun q e => nomatch e⟩
    · rw [List.getElem?_set_ne q] at e
      rw [List.getElem?_set_ne q]
      obtain ⟨x, hx, k⟩ := s.sl j t e
      exact ⟨x, hx, k.grow (Same.refl _) (fun q u _ _ e => e) fun q g _ f => ⟨g, (upd_none f).2⟩⟩
  · have other : ∀ j z, i ≠ j → (es.set i (.own none ds))[j]? = some z → z.isOwn = true → σ[j]? ≠ some (some (.ref p)) := fun j z nj ej hz q => by
      rw [List.getElem?_set_ne nj] at ej
      obtain ⟨x, hx, k⟩ := s.sl j z ej
      rw [hx] at q
      cases q
      cases z with
      | un => cases hz
      | d x => cases hz
      | own a xs =>
        obtain ⟨p', vs', e, _, f, _⟩ := k
        cases e
        rw [upd_same] at f
        cases f
      | obo a C fs =>
        obtain ⟨p', dx, vs', e, _, f, _⟩ := k
        cases e
        rw [upd_same] at f
        cases f
    by_cases na : i = a
    · subst na
      have hj : i < es.length := by
        have := (List.getElem?_eq_some_iff.mp ea).1
        rwa [List.length_set] at this
      rw [List.getElem?_set_self (by rw [s.len]; exact hj), List.getElem?_set_ne ne]
      exact fun q => other b u ne eb hb q.symm
    · by_cases nb : i = b
      · subst nb
        have hj : i < es.length := by
          have := (List.getElem?_eq_some_iff.mp eb).1
          rwa [List.length_set] at this
        rw [List.getElem?_set_self (by rw [s.len]; exact hj), List.getElem?_set_ne na]
        exact other a t na ea ha
      · rw [List.getElem?_set_ne na] at ea ⊢
        rw [List.getElem?_set_ne nb] at eb ⊢
        exact s.ow a b t u ne ea eb ha hb
/-- a slot's own object is written -/
theorem Stt.write {i : Nat} {t t' : Sl} (s : Stt K F G H σ es) (e : es[i]? = some t) (ht : t.isOwn = true) (ht' : t'.isOwn = true) (hs : σ[i]? = some (some (.ref p))) (k : SlOk K F G (upd H p o) (some (.ref p)) t') (hg : G p = none) (hf : F p = none) : Stt K F G (upd H p o) σ (es.set i t') where
  f := fun a u e => by
    rw [upd_ne (ne_of_none e hf)]
    exact s.f a u e
  g := fun a u e => by
    rw [upd_ne (ne_of_none e hg)]
    exact s.g a u e
  dj := s.dj
  len := by rw [List.length_set]; exact s.len
  sl := fun j u ej => by
    by_cases q : i = j
    · subst q
      have hj := (List.getElem?_eq_some_iff.mp ej).1
      rw [List.length_set] at hj
      rw [List.getElem?_set_self hj] at ej
      cases ej
      exact ⟨_, hs, k⟩
    · rw [List.getElem?_set_ne q] at ej
      obtain ⟨x, hx, kk⟩ := s.sl j u ej
      refine ⟨x, hx, ?_⟩
      cases u with
      | un => trivial
      | d x => exact kk
      | own a xs =>
        obtain ⟨p', vs', e', g', f', hp', r', a'⟩ := kk
        have ne : p' ≠ p := fun z => by
          subst z
          refine s.ow i j t _ q e ej ht rfl ?_
          rw [hs, hx, e']
        exact ⟨p', vs', e', g', f', by rw [upd_ne ne]; exact hp', r', a'⟩
      | obo a C fs =>
        obtain ⟨p', dx, vs', e', g', f', hp', r', a'⟩ := kk
        have ne : p' ≠ p := fun z => by
          subst z
          refine s.ow i j t _ q e ej ht rfl ?_
          rw [hs, hx, e']
        exact ⟨p', dx, vs', e', g', f', by rw [upd_ne ne]; exact hp', r', a'⟩
  ow := fun a b u w ne ea eb ha hb => by
    have old : ∀ (j : Nat) (z : Sl), (es.set i t')[j]? = some z → z.isOwn = true → ∃ y : Sl, es[j]? = some y ∧ y.isOwn = true := fun j z ej hz => by
      by_cases q : i = j
      · subst q
        exact ⟨t, e, ht⟩
      · rw [List.getElem?_set_ne q] at ej
        exact ⟨z, ej, hz⟩
    obtain ⟨y1, h1, k1⟩ := old a u ea ha
    obtain ⟨y2, h2, k2⟩ := old b w eb hb
    exact s.ow a b y1 y2 ne h1 h2 k1 k2
/-- a slot's own object is data from now on -/
theorem Stt.freeze {i : Nat} {t : Sl} {u : HO} {d : Dt} (s : Stt K F G H σ es) (e : es[i]? = some t) (ht : t.isOwn = true) (hs : σ[i]? = some (some (.ref p))) (hp : H p = some u) (hg : G p = none) (hf : F p = none) (r : Rep K (upd G p u) (.ref p) d) : Stt K F (upd G p u) H σ (es.set i (.d d)) where
  f := s.f
  g := fun a w e => by
    by_cases q : a = p
    · subst q
      rw [upd_same] at e
      cases e
      exact hp
    · rw [upd_ne q] at e
      exact s.g a w e
  dj := fun a w e => by
    rw [upd_ne (ne_of_none e hf)]
    exact s.dj a w e
  len := by rw [List.length_set]; exact s.len
  sl := fun j w ej => by
    by_cases q : i = j
    · subst q
      have hj := (List.getElem?_eq_some_iff.mp ej).1
      rw [List.length_set] at hj
      rw [List.getElem?_set_self hj] at ej
      cases ej
      exact ⟨_, hs, _, rfl, r⟩
    · rw [List.getElem?_set_ne q] at ej
      obtain ⟨x, hx, kk⟩ := s.sl j w ej
      refine ⟨x, hx, ?_⟩
      cases w with
      | un => trivial
      | d x =>
        obtain ⟨v, e', r'⟩ := kk
        exact ⟨v, e', r'.mono (same_upd hg)⟩
      | own a xs =>
        obtain ⟨p', vs', e', g', f', hp', r', a'⟩ := kk
        have ne : p' ≠ p := fun z => by
          subst z
          refine s.ow i j t _ q e ej ht rfl ?_
          rw [hs, hx, e']
        exact ⟨p', vs', e', by rw [upd_ne ne]; exact g', f', hp', r'.mono (same_upd hg), a'⟩
      | obo a C fs =>
        obtain ⟨p', dx, vs', e', g', f', hp', r', a'⟩ := kk
        have ne : p' ≠ p := fun z => by
          subst z
          refine s.ow i j t _ q e ej ht rfl ?_
          rw [hs, hx, e']
        exact ⟨p', dx, vs', e', by rw [upd_ne ne]; exact g', f', hp', r'.mono (same_upd hg), a'⟩
  ow := fun a b u w ne ea eb ha hb => by
    have old : ∀ (j : Nat) (z : Sl), (es.set i (.d d))[j]? = some z → z.isOwn = true → es[j]? = some z := fun j z ej hz => by
      by_cases q : i = j
      · subst q
        have hj := (List.getElem?_eq_some_iff.mp ej).1
        rw [List.length_set] at hj
        rw [List.getElem?_set_self hj] at ej
        cases ej
        cases hz
      · rw [List.getElem?_set_ne q] at ej
        exact ej
    exact s.ow a b u w ne (old a u ea ha) (old b w eb hb) ha hb
end
section
variable {K : PySem.W.Frag} {es es' : List Sl} {ρ : Type} {t u tz : TS} {m : Option ρ} {oc : ρ → Res} {te ta tb : TE} {d : Dt} {ds : List Dt}
theorem el_lst {t : TA} (h : EvA K t es ds) (hl : ds.length ≤ 100000) : EvL K (tLst t) es ds := fun F G H σ s Q q =>
  h F G H σ s _ fun xs G1 H1 s1 g1 r1 => ⟨by rw [r1.length]; exact Nat.le_trans hl (by decide), fun p hp => q p xs G1 _ (s1.prot hp) (s1.fnone hp) g1 r1⟩
theorem ev_new (h : EvL K te es ds) : Ev K te es (.lst ds) := fun F G H σ s Q q =>
  h F G H σ s Q fun p vs G' H' s' hF g r => q _ _ H' (s'.give hF) (g.trans (same_upd (s'.dj p _ upd_same))) (.lst (.inl (.inl upd_same)) (r.mono (same_upd (s'.dj p _ upd_same))))
theorem el_is {ds' : List Dt} (h : EvL K te es ds) (e : ds = ds') : EvL K te es ds' := e ▸ h
theorem sm_own {i : Nat} (h : EvL K te es ds) (he : es.set i (.own none ds) = es') (k : SM K tz es' m oc) : SM K (tSeq (tAsg te (gName i)) tz) es m oc := fun r e F G H σ D s q =>
  h F G H σ s _ fun p vs G1 H1 s1 hF g1 r1 => k r e F G1 H1 _ D (he ▸ s1.take hF r1) (q.up g1)
theorem sm_set {i : Nat} (h : Ev K te es d) (he : es.set i (.d d) = es') (k : SM K tz es' m oc) : SM K (tSeq (tAsg te (gName i)) tz) es m oc := sm_asg h (he ▸ k)
def appC {α : Type} (xs : List α) (x : α) : Option (List α) := if xs.length < 10000000 then some (xs ++ [x]) else none
theorem sm_app {α : Type} {em : α → Dt} {xs ys : List α} {x : α} {i : Nat} {a : Option Addr} (hi : es[i]? = some (.own a (xs.map em))) (h : Ev K te es (em x)) (hy : appC xs x = some ys) (he : es.set i (.own a (ys.map em)) = es') (k : SM K tz es' m oc) :
    SM K (tSeq (tDrop (tBM K "list" rAppend (tVar i) (tCons te tNil))) tz) es m oc := fun r e F G H σ D s q => by
  obtain ⟨hl, rfl⟩ := ite_some hy
  obtain ⟨o, ho, p, vs, eo, g, f, hp, rr, an⟩ := s.sl i _ hi
  subst eo
  refine ⟨.ref p, ho, .inl ⟨rfl, vs, .inl (.inl hp)⟩, ?_⟩
  refine h F G H σ s _ fun v G1 H1 s1 g1 r1 => ?_
  obtain ⟨o, ho', p', vs', eo, g', f', hp', rr', an'⟩ := s1.sl i _ hi
  subst eo
  rw [ho] at ho'
  cases ho'
  have hlen := rr'.length
  rw [List.length_map] at hlen
  have sz : (10000000 : Nat) < sizeLine := by decide
  refine ⟨p, vs', v, rfl, rfl, hp', by omega, ?_⟩
  refine k r e F G1 _ σ D (he ▸ s1.write hi rfl rfl ho ⟨p, vs' ++ [v], rfl, g', f', upd_same, ?_, an'⟩ g' f') (q.up g1)
  rw [List.map_append]
  exact rr'.append (.cons r1 .nil)
def setC {α : Type} (xs : List α) (i : Int) (x : α) : Option (List α) := (ixN xs.length i).map fun j => xs.set j x
theorem map_set {α β : Type} (f : α → β) : ∀ (xs : List α) (j : Nat) (x : α), (xs.set j x).map f = (xs.map f).set j (f x)
  | [], _, _ => rfl
  | _ :: _, 0, _ => rfl
  | y :: xs, j + 1, x => congrArg (f y :: ·) (map_set f xs j x)
theorem sm_setL {α : Type} {em : α → Dt} {xs ys : List α} {x : α} {i : Nat} {n : Int} {a : Option Addr} (hi : es[i]? = some (.own a (xs.map em))) (h : Ev K te es (em x)) (hn : Ev K tb es (.int n)) (hy : setC xs n x = some ys) (he : es.set i (.own a (ys.map em)) = es') (k : SM K tz es' m oc) :
    SM K (tSeq (tAsg te (gSub (tVar i) tb rSetL)) tz) es m oc := fun r e F G H σ D s q => by
  refine h F G H σ s _ fun v G1 H1 s1 g1 r1 => ?_
  obtain ⟨o, ho, p, vs, eo, g, f, hp, rr, an⟩ := s1.sl i _ hi
  subst eo
  refine ⟨.ref p, ho, ?_⟩
  refine hn F G1 H1 σ s1 _ fun y G2 H2 s2 g2 r2 => ?_
  cases r2
  obtain ⟨o, ho', p', vs', eo, g', f', hp', rr', an'⟩ := s2.sl i _ hi
  subst eo
  rw [ho] at ho'
  cases ho'
  have hlen := rr'.length
  rw [List.length_map] at hlen
  unfold setC at hy
  cases hj : ixN xs.length n with
  | none => rw [hj] at hy; cases hy
  | some j =>
    rw [hj] at hy
    have hy' : xs.set j x = ys := Option.some.inj hy
    subst hy'
    refine ⟨p, vs', n, j, rfl, rfl, hp', by rw [hlen]; exact hj, ?_⟩
    refine k r e F G2 _ σ D (he ▸ s2.write hi rfl rfl ho ⟨p, vs'.set j v, rfl, g', f', upd_same, ?_, an'⟩ g' f') (q.up (g1.trans g2))
    rw [map_set]
    exact Reps.set (r1.mono g2) j rr'
def insC {α : Type} (xs : List α) (i : Int) (x : α) : Option (List α) := if xs.length < 10000000 ∧ 0 ≤ i ∧ i < 2 ^ 62 then some (xs.take i.toNat ++ [x] ++ xs.drop i.toNat) else none
def rInsert : V → List V → Hp → VK → Prop := fun x vs H Q => ∃ (l : Addr) (xs : List V) (i : Int) (y : V), x = .ref l ∧ vs = [.int i, y] ∧ H l = some (.lst xs) ∧ xs.length < sizeLine ∧ 0 ≤ i ∧ i < 2 ^ 63 ∧
    Q .non (upd H l (.lst (xs.take i.toNat ++ [y] ++ xs.drop i.toNat)))
theorem mt_ins {X : Cx} : MtR X "list.insert" rInsert := mt_insert
theorem sm_ins {α : Type} {em : α → Dt} {xs ys : List α} {x : α} {i : Nat} {n : Int} {a : Option Addr} (hi : es[i]? = some (.own a (xs.map em))) (hn : Ev K tb es (.int n)) (h : Ev K te es (em x)) (hy : insC xs n x = some ys) (he : es.set i (.own a (ys.map em)) = es') (k : SM K tz es' m oc) :
    SM K (tSeq (tDrop (tBM K "list" rInsert (tVar i) (tCons tb (tCons te tNil)))) tz) es m oc := fun r e F G H σ D s q => by
  obtain ⟨⟨hl, h0, h1⟩, rfl⟩ := ite_some hy
  obtain ⟨o, ho, p, vs, eo, g, f, hp, rr, an⟩ := s.sl i _ hi
  subst eo
  refine ⟨.ref p, ho, .inl ⟨rfl, vs, .inl (.inl hp)⟩, ?_⟩
  refine hn F G H σ s _ fun y G1 H1 s1 g1 r1 => ?_
  cases r1
  refine h F G1 H1 σ s1 _ fun v G2 H2 s2 g2 r2 => ?_
  obtain ⟨o, ho', p', vs', eo, g', f', hp', rr', an'⟩ := s2.sl i _ hi
  subst eo
  rw [ho] at ho'
  cases ho'
  have hlen := rr'.length
  rw [List.length_map] at hlen
  have sz : (10000000 : Nat) < sizeLine := by decide
  refine ⟨p, vs', n, v, rfl, rfl, hp', by omega, h0, by omega, ?_⟩
  refine k r e F G2 _ σ D (he ▸ s2.write hi rfl rfl ho ⟨p, vs'.take n.toNat ++ [v] ++ vs'.drop n.toNat, rfl, g', f', upd_same, ?_, an'⟩ g' f') (q.up (g1.trans g2))
  rw [List.map_append, List.map_append, List.map_take, List.map_drop]
  exact ((rr'.take _).append (.cons r2 .nil)).append (rr'.drop _)
/-- the list is done -/
theorem sm_frz {i : Nat} {a : Option Addr} (hi : es[i]? = some (.own a ds)) (he : es.set i (.d (.lst ds)) = es') (k : SM K t es' m oc) : SM K t es m oc := fun r e F G H σ D s q => by
  obtain ⟨o, ho, p, vs, eo, g, f, hp, rr, an⟩ := s.sl i _ hi
  subst eo
  exact k r e F _ H σ D (he ▸ s.freeze hi rfl ho hp g f (.lst (.inl (.inl upd_same)) (rr.mono (same_upd g)))) (q.up (same_upd g))
theorem sm_frzO {i : Nat} {a : Option Addr} {C : Addr} {fs : List (Str × Dt)} (hi : es[i]? = some (.obo a C fs)) (he : es.set i (.d (.obj C fs)) = es') (k : SM K t es' m oc) : SM K t es m oc := fun r e F G H σ D s q => by
  obtain ⟨o, ho, p, dx, vs, eo, g, f, hp, rr, an⟩ := s.sl i _ hi
  subst eo
  exact k r e F _ H σ D (he ▸ s.freeze hi rfl ho hp g f (.obj upd_same (rr.mono (same_upd g)))) (q.up (same_upd g))
theorem repF_put {G : Hp} {f : Str} {v : V} {d : Dt} (h : Rep K G v d) : ∀ {vs : List (Str × V)} {ds : List (Str × Dt)}, RepF K G vs ds → RepF K G (putF f v vs) (putD f d ds)
  | _, _, .nil => .cons h .nil
  | _, _, .cons (f := g) r rr => by
    unfold putF putD
    by_cases e : g = f
    · rw [if_pos e, if_pos e]
      exact .cons h rr
    · rw [if_neg e, if_neg e]
      exact .cons r (repF_put h rr)
theorem RepF.length {G : Hp} : ∀ {vs : List (Str × V)} {ds : List (Str × Dt)}, RepF K G vs ds → vs.length = ds.length
  | _, _, .nil => rfl
  | _, _, .cons _ r => congrArg (· + 1) (RepF.length r)
/-- self.f = e -/
theorem sm_fld {i : Nat} {a : Option Addr} {C : Addr} {fs : List (Str × Dt)} {f : Str} (hi : es[i]? = some (.obo a C fs)) (h : Ev K te es d) (hc : Cls K C) (hn : NoAttr K C f) (hl : fs.length < 900) (he : es.set i (.obo a C (putD f d fs)) = es') (k : SM K tz es' m oc) :
    SM K (tSeq (sFld K (tVar i) te f) tz) es m oc := fun r e F G H σ D s q => by
  refine h F G H σ s _ fun v G1 H1 s1 g1 r1 => ?_
  obtain ⟨o, ho, p, dx, vs, eo, g, ff, hp, rr, an⟩ := s1.sl i _ hi
  subst eo
  refine ⟨.ref p, ho, p, C, dx, vs, rfl, hp, hc, hn, by rw [rr.length]; omega, ?_⟩
  exact k r e F G1 _ σ D (he ▸ s1.write hi rfl rfl ho ⟨p, dx, putF f v vs, rfl, g, ff, upd_same, repF_put r1 rr, an⟩ g ff) (q.up g1)
end

/-! ### defs: what they promise -/
/-- R: the slots of the arguments, what is handed back, the slots behind -/
def FSpec (K : PySem.W.Frag) (R : List Sl → Dt → List Sl → Prop) : Sp := fun vs H Q _ => ∃ F G ss d ss', Stt K F G H (vs.map some) ss ∧ R ss d ss' ∧
  ∀ v G' H', Stt K F G' H' (vs.map some) ss' → Same G G' → Rep K G' v d → Q v H'
/-- all arguments are data -/
def RD (P : List Dt → Dt → Prop) : List Sl → Dt → List Sl → Prop := fun ss d ss' => ∃ ds, ss = ds.map .d ∧ ss' = ss ∧ P ds d
/-- an __init__: the first is made -/
def RI (C : Addr) (P : List Dt → List (Str × Dt) → Prop) : List Sl → Dt → List Sl → Prop := fun ss d ss' => ∃ p ds fs, ss = .obo (some p) C [] :: ds.map .d ∧ d = .non ∧ ss' = .obo (some p) C fs :: ds.map .d ∧ P ds fs
section
variable {K : PySem.W.Frag} {F G H F' G' H' : Hp} {σ : L2.St} {es : List Sl}
theorem stt_data {vs : List V} {ds : List Dt} (f : Same F H) (g : Same G H) (dj : ∀ a o, F a = some o → G a = none) (r : Reps K G vs ds) : Stt K F G H (vs.map some) (ds.map .d) where
  f := f
  g := g
  dj := dj
  len := by rw [List.length_map, List.length_map]; exact r.length
  sl := fun i s e => by
    rw [List.getElem?_map] at e
    cases q : ds[i]? with
    | none => rw [q] at e; cases e
    | some d =>
      rw [q] at e
      cases e
      obtain ⟨v, hv, rv⟩ := r.get q
      exact ⟨some v, by rw [List.getElem?_map, hv]; rfl, v, rfl, rv⟩
  ow := fun i j s t _ ei _ hi _ => by
    rw [List.getElem?_map] at ei
    cases q : ds[i]? with
    | none => rw [q] at ei; cases ei
    | some d => rw [q] at ei; cases ei; cases hi
theorem data_of {vs : List V} {ds : List Dt} : ∀ {vs : List V} {ds : List Dt}, (vs.map some).length = (ds.map Sl.d).length → (∀ (i : Nat) s, (ds.map Sl.d)[i]? = some s → ∃ o, (vs.map some)[i]? = some o ∧ SlOk K F G H o s) → Reps K G vs ds
  | [], [], _, _ => .nil
  | v :: vs, d :: ds, h, hh => by
    obtain ⟨o, ho, x, e, r⟩ := hh 0 _ rfl
    cases ho
    cases e
    exact .cons r (data_of (vs := vs) (ds := ds) (by simpa using h) fun i s e => hh (i + 1) s e)
  | [], _ :: _, h, _ => by simp at h
  | _ :: _, [], h, _ => by simp at h
theorem Stt.rem (s : Stt K F G H σ es) : Same (rem G H) H ∧ ∀ a o, DL.rem G H a = some o → G a = none := ⟨fun a o e => (rem_some e).1, fun a o e => (rem_some e).2⟩
variable {ta : TA} {ds dds : List Dt} {d : Dt} {E : XK} {dvs : List V}
/-- f(..), all arguments data, dvs the defaults -/
theorem ev_callD {P : List Dt → Dt → Prop} (ha : EvA K ta es ds) (hd : ∀ G, Reps K G dvs dds) (hP : P (ds ++ dds) d) : Ev K (tCall (FSpec K (RD P)) dvs E ta) es d := fun F G H σ s Q q =>
  ha F G H σ s _ fun vs G1 H1 s1 g1 r1 => ⟨rem G1 H1, G1, (ds ++ dds).map .d, d, (ds ++ dds).map .d, stt_data s1.rem.1 s1.g s1.rem.2 (r1.append (hd G1)), ⟨_, rfl, rfl, hP⟩, fun v G2 H2 s2 g2 r2 =>
    q v G2 H2 (s1.after s2.f s2.g s2.dj g2) (g1.trans g2) r2⟩
theorem ev_call {P : List Dt → Dt → Prop} (ha : EvA K ta es ds) (hP : P ds d) : Ev K (tCall (FSpec K (RD P)) [] E ta) es d := ev_callD (dds := []) ha (fun _ => .nil) (by rw [List.append_nil]; exact hP)
/-- o.m(..) -/
theorem ev_methD {P : List Dt → Dt → Prop} {to : TE} {C : Addr} {fs : List (Str × Dt)} {m : Str} (ho : Ev K to es (.obj C fs)) (hm : fs.lookup m = none) (ha : EvA K ta es ds) (hd : ∀ G, Reps K G dvs dds) (hP : P (.obj C fs :: (ds ++ dds)) d) : Ev K (tMeth C m (FSpec K (RD P)) dvs E to ta) es d := fun F G H σ s Q q =>
  ho F G H σ s _ fun x G0 H0 s0 g0 r0 => by
    have r0' := r0
    cases r0 with
    | obj h rf =>
      refine ⟨_, _, _, rfl, s0.g _ _ h, rf.lookup_none hm, ?_⟩
      exact ha F G0 H0 σ s0 _ fun vs G1 H1 s1 g1 r1 => ⟨rem G1 H1, G1, (Dt.obj C fs :: (ds ++ dds)).map .d, d, (Dt.obj C fs :: (ds ++ dds)).map .d, stt_data s1.rem.1 s1.g s1.rem.2 (.cons (r0'.mono g1) (r1.append (hd G1))), ⟨_, rfl, rfl, hP⟩, fun v G2 H2 s2 g2 r2 =>
        q v G2 H2 (s1.after s2.f s2.g s2.dj g2) (g0.trans (g1.trans g2)) r2⟩
theorem ev_meth {P : List Dt → Dt → Prop} {to : TE} {C : Addr} {fs : List (Str × Dt)} {m : Str} (ho : Ev K to es (.obj C fs)) (hm : fs.lookup m = none) (ha : EvA K ta es ds) (hP : P (.obj C fs :: ds) d) : Ev K (tMeth C m (FSpec K (RD P)) [] E to ta) es d :=
  ev_methD (dds := []) ho hm ha (fun _ => .nil) (by rw [List.append_nil]; exact hP)
/-- C(..) -/
theorem ev_makeD {P : List Dt → List (Str × Dt) → Prop} {C : Addr} {fs : List (Str × Dt)} (ha : EvA K ta es ds) (hd : ∀ G, Reps K G dvs dds) (hP : P (ds ++ dds) fs) : Ev K (tMake C (FSpec K (RI C P)) dvs E ta) es (.obj C fs) := fun F G H σ s Q q =>
  ha F G H σ s _ fun vs G1 H1 s1 g1 r1 x dx hx hdx ne => by
    have hx1 : upd H1 dx (.own x) x = none := by
      rw [upd_ne (fun z => ne z.symm)]
      exact hx
    have s2 : Stt K F G1 (upd (upd H1 dx (.own x)) x (.ins C dx [])) σ es := (s1.lay hdx).lay hx1
    have gx : G1 x = none := s1.gnone hx
    have rx : ∀ a o, a ≠ x → rem G1 (upd (upd H1 dx (.own x)) x (.ins C dx [])) a = some o → rem G1 (upd (upd H1 dx (.own x)) x (.ins C dx [])) a = some o := fun _ _ _ e => e
    -- what is another's: all but the known and the new one
    refine ⟨fun a => if a = x then none else rem G1 (upd (upd H1 dx (.own x)) x (.ins C dx [])) a, G1, .obo (some x) C [] :: (ds ++ dds).map .d, .non, .obo (some x) C fs :: (ds ++ dds).map .d, ?_, ⟨x, _, fs, rfl, rfl, rfl, hP⟩, ?_⟩
    · have base : Stt K (fun a => if a = x then none else rem G1 (upd (upd H1 dx (.own x)) x (.ins C dx [])) a) G1 (upd (upd H1 dx (.own x)) x (.ins C dx [])) ((vs ++ dvs).map some) ((ds ++ dds).map .d) := by
        refine stt_data (fun a o e => ?_) s2.g (fun a o e => ?_) (r1.append (hd G1))
        · by_cases q : a = x
          · rw [if_pos q] at e; cases e
          · rw [if_neg q] at e; exact (rem_some e).1
        · by_cases q : a = x
          · rw [if_pos q] at e; cases e
          · rw [if_neg q] at e; exact (rem_some e).2
      refine ⟨base.f, base.g, base.dj, by rw [List.map_cons, List.length_cons, List.length_cons, base.len], fun i t e => ?_, fun i j t u nij ei ej hi hj => ?_⟩
      · cases i with
        | zero =>
          cases e
          exact ⟨_, rfl, x, dx, [], rfl, gx, if_pos rfl, upd_same, .nil, fun q e => (Option.some.inj e).symm⟩
        | succ i => exact base.sl i t e
      · cases i with
        | zero =>
          cases j with
          | zero => exact absurd rfl nij
          | succ j =>
            have ej' : ((ds ++ dds).map Sl.d)[j]? = some u := ej
            rw [List.getElem?_map] at ej'
            cases q : (ds ++ dds)[j]? with
            | none => rw [q] at ej'; cases ej'
            | some d => rw [q] at ej'; cases ej'; cases hj
        | succ i =>
          have ei' : ((ds ++ dds).map Sl.d)[i]? = some t := ei
          rw [List.getElem?_map] at ei'
          cases q : (ds ++ dds)[i]? with
          | none => rw [q] at ei'; cases ei'
          | some d => rw [q] at ei'; cases ei'; cases hi
    · intro v G2 H2 s3 g3 r3
      cases r3
      obtain ⟨o, ho, p, dx', fv, eo, gp, fp, hp, rf, an⟩ := s3.sl 0 _ rfl
      cases ho
      cases eo
      refine ⟨rfl, ?_⟩
      have gx2 : Same G2 (upd G2 x (.ins C dx' fv)) := same_upd gp
      have s4 : Stt K F (upd G2 x (.ins C dx' fv)) H2 σ es := by
        have keep : ∀ a o, H1 a = some o → G1 a = none → H2 a = some o ∧ G2 a = none := fun a o e g => by
          have ax : a ≠ x := fun z => by subst z; rw [hx] at e; cases e
          have adx : a ≠ dx := fun z => by subst z; rw [hdx] at e; cases e
          have fa : (if a = x then none else rem G1 (upd (upd H1 dx (.own x)) x (.ins C dx [])) a) = some o := by
            rw [if_neg ax, rem_of g, upd_ne ax, upd_ne adx]
            exact e
          exact ⟨s3.f a o fa, s3.dj a o fa⟩
        have nex : ∀ a o, H1 a = some o → a ≠ x := fun a o e z => by subst z; rw [hx] at e; cases e
        refine s1.after (H' := H2) (G' := upd G2 x (.ins C dx' fv)) (fun a o e => (keep a o (rem_some e).1 (rem_some e).2).1) (fun a o e => ?_) (fun a o e => ?_) (g3.trans gx2)
        · by_cases q : a = x
          · subst q
            rw [upd_same] at e
            cases e
            exact hp
          · rw [upd_ne q] at e
            exact s3.g a o e
        · rw [upd_ne (nex a o (rem_some e).1)]
          exact (keep a o (rem_some e).1 (rem_some e).2).2
      exact q _ _ H2 s4 (g1.trans (g3.trans gx2)) (.obj upd_same (rf.mono gx2))
theorem ev_make {P : List Dt → List (Str × Dt) → Prop} {C : Addr} {fs : List (Str × Dt)} (ha : EvA K ta es ds) (hP : P ds fs) : Ev K (tMake C (FSpec K (RI C P)) [] E ta) es (.obj C fs) := ev_makeD (dds := []) ha (fun _ => .nil) (by rw [List.append_nil]; exact hP)
end

/-! ### a def by its body -/
section
variable {P : Program} {w : World} {K : PySem.W.Frag} {mg : Str → Option Value} {base : Heap}
theorem stt_start {F G H : Hp} {vs : List V} {ss : List Sl} {N : List Str} {n : Nat} (s : Stt K F G H (vs.map some) ss) (hn : n = N.length - ss.length) : Stt K F G H (L2.start N vs) (ss ++ List.replicate n .un) where
  f := s.f
  g := s.g
  dj := s.dj
  len := by
    have := s.len
    rw [List.length_map] at this
    unfold L2.start
    rw [List.length_append, List.length_append, List.length_map, List.length_replicate, List.length_replicate, this, hn]
  sl := fun i t e => by
    have hl := s.len
    rw [List.length_map] at hl
    unfold L2.start
    by_cases hi : i < ss.length
    · rw [List.getElem?_append_left hi] at e
      rw [List.getElem?_append_left (by rw [List.length_map, hl]; exact hi)]
      exact s.sl i t e
    · rw [List.getElem?_append_right (by omega)] at e
      have hx := (List.getElem?_eq_some_iff.mp e).1
      rw [List.length_replicate] at hx
      rw [List.getElem?_replicate, if_pos hx] at e
      cases e
      rw [List.getElem?_append_right (by rw [List.length_map]; omega), List.getElem?_replicate, List.length_map, if_pos (by omega)]
      exact ⟨none, rfl, trivial⟩
  ow := fun i j t u nij ei ej hi hj => by
    have hl := s.len
    rw [List.length_map] at hl
    have low : ∀ (k : Nat) z, (ss ++ List.replicate n Sl.un)[k]? = some z → z.isOwn = true → k < ss.length ∧ ss[k]? = some z := fun k z e h => by
      by_cases hk : k < ss.length
      · rw [List.getElem?_append_left hk] at e
        exact ⟨hk, e⟩
      · rw [List.getElem?_append_right (by omega), List.getElem?_replicate] at e
        split at e
        · cases e; cases h
        · cases e
    obtain ⟨h1, e1⟩ := low i t ei hi
    obtain ⟨h2, e2⟩ := low j u ej hj
    unfold L2.start
    rw [List.getElem?_append_left (by rw [List.length_map, hl]; exact h1), List.getElem?_append_left (by rw [List.length_map, hl]; exact h2)]
    exact s.ow i j t u nij e1 e2 hi hj
/-- what a body comes to: a value handed back, or its end -/
def Ends2 (d : Dt) (es : List Sl) (o : Res) : Prop := o = .rt d es ∨ (o = .nx es ∧ d = .non)
theorem good_end {F G : Hp} {d : Dt} {es : List Sl} {o : Res} {Q : VK} (h : Ends2 d es o) (q : ∀ v G' H' σ', Stt K F G' H' σ' es → Same G G' → Rep K G' v d → Q v H') : Good K F G { nx := fun _ H' => Q .non H', rt := Q } o := by
  rcases h with rfl | ⟨rfl, rfl⟩
  · exact q
  · exact fun G' H' σ' s g => q .non G' H' σ' s g .non
/-- THE RULE: a def whose arguments are all data -/
theorem fn_D {x qual : Str} {st : Stmt} {f : Addr} {fd : FuncData} {N ps : List Str} {k : Nat} {R : List Dt → Dt → Prop} (F : Fun K x qual st f fd) (S : FnScope N ps (defScope st)) (hl : ∀ ds d, R ds d → ds.length = ps.length)
    (body : ∀ (cdv : Value) (A : Around) (outer : List Env) (s : Shared) (H : Hp) (E : XK), Room k (A.deeper (PyProof.Rows.envOfC qual (defScope st) s.heap.objs.size f cdv)) →
      ∃ t, PSs (cxOf CX0 P w K mg base N qual (defScope st) f cdv A outer s H E).nox (defBody st) t ∧ ∀ ds d, R ds d → ∃ o es, SEv K t (ds.map .d ++ List.replicate (N.length - ps.length) .un) o ∧ Ends2 d es o) :
    FnOk P w K mg base CX0 (k + 1) f fd ps (FSpec K (RD R)) := by
  refine F.ok S (fun vs H Q E h => ?_) (fun cdv A outer s H vs Q E hr h => ?_)
  · obtain ⟨F, G, ss, d, ss', s, ⟨ds, rfl, _, hR⟩, _⟩ := h
    have := s.len
    rw [List.length_map, List.length_map, hl ds d hR] at this
    exact this
  · obtain ⟨t, ht, hb⟩ := body cdv A outer s H E hr
    refine ⟨t, ht, ?_⟩
    obtain ⟨F1, G, ss, d, ss', st1, ⟨ds, rfl, rfl, hR⟩, q⟩ := h
    obtain ⟨o, es, hs, he⟩ := hb ds d hR
    refine hs F1 G H _ _ (stt_start st1 (by rw [List.length_map, hl ds d hR])) (good_end he fun v G' H' σ' s' g r => ?_)
    have rs : Reps K G vs ds := data_of (vs := vs) (ds := ds) (K := K) (F := F1) (G := G) (H := H) (by have := st1.len; simpa using this) st1.sl
    exact q v G' H' (stt_data s'.f s'.g s'.dj (rs.mono g)) g r
/-- THE RULE: an __init__ -/
theorem fn_I {x qual : Str} {st : Stmt} {f : Addr} {fd : FuncData} {N ps : List Str} {k : Nat} {C : Addr} {R : List Dt → List (Str × Dt) → Prop} (F : Fun K x qual st f fd) (S : FnScope N ps (defScope st)) (hl : ∀ ds d, R ds d → ds.length + 1 = ps.length)
    (body : ∀ (cdv : Value) (A : Around) (outer : List Env) (s : Shared) (H : Hp) (E : XK), Room k (A.deeper (PyProof.Rows.envOfC qual (defScope st) s.heap.objs.size f cdv)) →
      ∃ t, PSs (cxOf CX0 P w K mg base N qual (defScope st) f cdv A outer s H E).nox (defBody st) t ∧ ∀ p ds fs, R ds fs → ∃ o es, SEv K t (.obo (some p) C [] :: ds.map .d ++ List.replicate (N.length - ps.length) .un) o ∧ Ends2 .non (.obo (some p) C fs :: es) o) :
    FnOk P w K mg base CX0 (k + 1) f fd ps (FSpec K (RI C R)) := by
  refine F.ok S (fun vs H Q E h => ?_) (fun cdv A outer s H vs Q E hr h => ?_)
  · obtain ⟨F, G, ss, d, ss', s, ⟨p, ds, fs, rfl, _, _, hR⟩, _⟩ := h
    have := s.len
    rw [List.length_map, List.length_cons, List.length_map, hl ds fs hR] at this
    exact this
  · obtain ⟨t, ht, hb⟩ := body cdv A outer s H E hr
    refine ⟨t, ht, ?_⟩
    obtain ⟨F1, G, ss, d, ss', st1, ⟨p, ds, fs, rfl, rfl, rfl, hR⟩, q⟩ := h
    obtain ⟨o, es, hs, he⟩ := hb p ds fs hR
    refine hs F1 G H _ _ (stt_start st1 (by rw [List.length_cons, List.length_map, hl ds fs hR])) (good_end he fun v G' H' σ' s' g r => ?_)
    cases vs with
    | nil =>
      have := st1.len
      simp at this
    | cons v0 vs =>
      obtain ⟨o0, ho0, p0, dx0, fv0, e0, g0, f0, h0, r0, a0⟩ := st1.sl 0 _ rfl
      cases ho0
      cases e0
      obtain rfl := a0 p rfl
      obtain ⟨o1, ho1, p1, dx1, fv1, e1, g1, f1, h1, r1, a1⟩ := s'.sl 0 _ rfl
      subst e1
      obtain rfl := a1 _ rfl
      have rs : Reps K G vs ds := data_of (vs := vs) (ds := ds) (K := K) (F := F1) (G := G) (H := H) (by have := st1.len; simpa using this) fun i t e => st1.sl (i + 1) t e
      have base := stt_data s'.f s'.g s'.dj (rs.mono g)
      refine q v G' H' ⟨base.f, base.g, base.dj, by rw [List.map_cons, List.length_cons, List.length_cons, base.len], fun i t e => ?_, fun i j t u nij ei ej hi hj => ?_⟩ g r
      · cases i with
        | zero =>
          cases e
          exact ⟨_, rfl, p, dx1, fv1, rfl, g1, f1, h1, r1, a1⟩
        | succ i => exact base.sl i t e
      · have no : ∀ (k : Nat) z, ((ds.map Sl.d))[k]? = some z → z.isOwn = true → False := fun k z e h => by
          rw [List.getElem?_map] at e
          cases q : ds[k]? with
          | none => rw [q] at e; cases e
          | some d => rw [q] at e; cases e; cases h
        cases i with
        | zero =>
          cases j with
          | zero => exact absurd rfl nij
          | succ j => exact (no j u ej hj).elim
        | succ i => exact (no i t ei hi).elim
end
end DL

namespace DL
open PySem L2

/-! ### embeddings -/
abbrev dT1 {α : Type} (e1 : α → Dt) (x : α) : Dt := .tup [e1 x]
abbrev dT2 {α β : Type} (e1 : α → Dt) (e2 : β → Dt) (x : α × β) : Dt := .tup [e1 x.1, e2 x.2]
abbrev dT3 {α β γ : Type} (e1 : α → Dt) (e2 : β → Dt) (e3 : γ → Dt) (x : α × β × γ) : Dt := .tup [e1 x.1, e2 x.2.1, e3 x.2.2]
abbrev dT4 {α β γ δ : Type} (e1 : α → Dt) (e2 : β → Dt) (e3 : γ → Dt) (e4 : δ → Dt) (x : α × β × γ × δ) : Dt := .tup [e1 x.1, e2 x.2.1, e3 x.2.2.1, e4 x.2.2.2]
abbrev dT5 {α β γ δ ε : Type} (e1 : α → Dt) (e2 : β → Dt) (e3 : γ → Dt) (e4 : δ → Dt) (e5 : ε → Dt) (x : α × β × γ × δ × ε) : Dt := .tup [e1 x.1, e2 x.2.1, e3 x.2.2.1, e4 x.2.2.2.1, e5 x.2.2.2.2]
abbrev dL {α : Type} (e : α → Dt) (xs : List α) : Dt := .lst (xs.map e)
abbrev dV {α : Type} (e : α → Dt) (xs : List α) : Dt := .tup (xs.map e)
abbrev dN (_ : Unit) : Dt := .non
def dO {α : Type} (e : α → Dt) : Option α → Dt
  | none => .non
  | some x => e x

/-! ### built-ins -/
def rAbs : List V → Hp → VK → Prop := fun xs H Q => ∃ i, xs = [.int i] ∧ Q (.int (if i < 0 then -i else i)) H
def rMax2 : List V → Hp → VK → Prop := fun xs H Q => ∃ i j, xs = [.int i, .int j] ∧ Q (.int (if j > i then j else i)) H
def rMin2 : List V → Hp → VK → Prop := fun xs H Q => ∃ i j, xs = [.int i, .int j] ∧ Q (.int (if j < i then j else i)) H
def rInt : List V → Hp → VK → Prop := fun xs H Q => (∃ i, xs = [.int i] ∧ Q (.int i) H) ∨ ∃ k, xs = [.bl k] ∧ Q (.int (if k then 1 else 0)) H
def rLenS (K : PySem.W.Frag) : List V → Hp → VK → Prop := fun xs H Q => ∃ p ys, xs = [.ref p] ∧ (SqL K H p ys ∨ SqT K H p ys) ∧ Q (.int ys.length) H
def rListS (K : PySem.W.Frag) : List V → Hp → VK → Prop := fun xs H Q => ∃ p ys, xs = [.ref p] ∧ (SqL K H p ys ∨ SqT K H p ys) ∧ ∀ l, H l = none → Q (.ref l) (upd H l (.lst ys))
def rTupS (K : PySem.W.Frag) : List V → Hp → VK → Prop := fun xs H Q => ∃ p ys, xs = [.ref p] ∧ ((SqL K H p ys ∧ ∀ l, H l = none → Q (.ref l) (upd H l (.tup ys))) ∨ (SqT K H p ys ∧ Q (.ref p) H))
def rLenT : List V → Hp → VK → Prop := fun xs H Q => ∃ z, xs = [.str z] ∧ z.length ≤ sizeLine ∧ Q (.int z.length) H
def rIsqrt : List V → Hp → VK → Prop := fun xs H Q => ∃ i : Int, xs = [.int i] ∧ 0 ≤ i ∧ i.toNat.log2 ≤ 13000 ∧ Q (.int ((Float64.isqrt i.toNat : Nat) : Int)) H
section
variable {X : Cx}
theorem cr_abs : CallR X (.builtin "abs") rAbs := call_abs
theorem cr_max2 (hc : X.calm = true) : CallR X (.builtin "max") rMax2 := call_max2 hc
theorem cr_min2 (hc : X.calm = true) : CallR X (.builtin "min") rMin2 := call_min2 hc
theorem cr_max3 (hc : X.calm = true) : CallR X (.builtin "max") (rNuC3 nuMax3) := call_max3Nu hc
theorem cr_min3 (hc : X.calm = true) : CallR X (.builtin "min") (rNuC3 nuMin3) := call_min3Nu hc
theorem cr_int : CallR X (.type "int") rInt := call_int1
theorem cr_lenS : CallR X (.builtin "len") (rLenS X.K) := call_len_seq
theorem cr_lenT : CallR X (.builtin "len") rLenT := call_len_str
theorem cr_listS : CallR X (.type "list") (rListS X.K) := call_list_of
theorem cr_tupS : CallR X (.type "tuple") (rTupS X.K) := call_tuple_of
theorem cr_isqrt : CallR X (.builtin "math.isqrt") rIsqrt := by
  intro pins s σ H vs us Q I r h
  obtain ⟨a, rfl, h0, h1, q⟩ := h
  cases r with
  | cons r1 r2 =>
    cases r2
    obtain ⟨t, rfl⟩ := r1
    exact PySem.call_function_meets PySem.W.MGF.kind_isqrt PySem.W.MGF.plain_isqrt PySem.W.MGF.entry_isqrt (PySem.W.MGF.args_isqrt _) (PySem.W.mg_run_isqrt a t (by omega) (by omega) (by omega)).meets ⟨.int _, H, I.tok _, ⟨_, rfl⟩, q⟩
end
section
variable {K : PySem.W.Frag} {es : List Sl} {ta tb te : TE} {d : Dt}
theorem ld_1 {r : List V → Hp → VK → Prop} {a c : Dt} (ha : Ev K ta es a) (hr : ∀ F G H σ x, Stt K F G H σ es → Rep K G x a → ∀ Q : VK, (∀ v G' H', Stt K F G' H' σ es → Same G G' → Rep K G' v c → Q v H') → r [x] H Q) : Ev K (tCB r (tCons ta tNil)) es c := fun F G H σ s Q q =>
  ha F G H σ s _ fun x G1 H1 s1 g1 r1 => hr F G1 H1 σ x s1 r1 Q fun v G2 H2 s2 g2 r2 => q v G2 H2 s2 (g1.trans g2) r2
theorem ld_2 {r : List V → Hp → VK → Prop} {a b c : Dt} (ha : Ev K ta es a) (hb : Ev K tb es b) (hr : ∀ F G H σ x y, Stt K F G H σ es → Rep K G x a → Rep K G y b → ∀ Q : VK, (∀ v G' H', Stt K F G' H' σ es → Same G G' → Rep K G' v c → Q v H') → r [x, y] H Q) : Ev K (tCB r (tCons ta (tCons tb tNil))) es c := fun F G H σ s Q q =>
  ha F G H σ s _ fun x G1 H1 s1 g1 r1 => hb F G1 H1 σ s1 _ fun y G2 H2 s2 g2 r2 => hr F G2 H2 σ x y s2 (r1.mono g2) r2 Q fun v G3 H3 s3 g3 r3 => q v G3 H3 s3 (g1.trans (g2.trans g3)) r3
theorem ld_3 {r : List V → Hp → VK → Prop} {tc : TE} {a b e c : Dt} (ha : Ev K ta es a) (hb : Ev K tb es b) (he : Ev K tc es e) (hr : ∀ F G H σ x y z, Stt K F G H σ es → Rep K G x a → Rep K G y b → Rep K G z e → ∀ Q : VK, (∀ v G' H', Stt K F G' H' σ es → Same G G' → Rep K G' v c → Q v H') → r [x, y, z] H Q) : Ev K (tCB r (tCons ta (tCons tb (tCons tc tNil)))) es c := fun F G H σ s Q q =>
  ha F G H σ s _ fun x G1 H1 s1 g1 r1 => hb F G1 H1 σ s1 _ fun y G2 H2 s2 g2 r2 => he F G2 H2 σ s2 _ fun z G3 H3 s3 g3 r3 => hr F G3 H3 σ x y z s3 ((r1.mono g2).mono g3) (r2.mono g3) r3 Q fun v G4 H4 s4 g4 r4 => q v G4 H4 s4 (g1.trans (g2.trans (g3.trans g4))) r4
theorem ev_abs {i : Int} (ha : Ev K ta es (.int i)) : Ev K (tCB rAbs (tCons ta tNil)) es (.int (i.natAbs : Int)) := ld_1 ha fun F G H σ x s r Q q => by
  cases r
  refine ⟨i, rfl, ?_⟩
  have : (if i < 0 then -i else i) = (i.natAbs : Int) := by split <;> omega
  rw [this]
  exact q _ G H s (Same.refl _) (.int _)
theorem ev_max2 {i j : Int} (ha : Ev K ta es (.int i)) (hb : Ev K tb es (.int j)) : Ev K (tCB rMax2 (tCons ta (tCons tb tNil))) es (.int (max i j)) := ld_2 ha hb fun F G H σ x y s r r' Q q => by
  cases r
  cases r'
  refine ⟨i, j, rfl, ?_⟩
  have : (if j > i then j else i) = max i j := by split <;> omega
  rw [this]
  exact q _ G H s (Same.refl _) (.int _)
theorem ev_min2 {i j : Int} (ha : Ev K ta es (.int i)) (hb : Ev K tb es (.int j)) : Ev K (tCB rMin2 (tCons ta (tCons tb tNil))) es (.int (min i j)) := ld_2 ha hb fun F G H σ x y s r r' Q q => by
  cases r
  cases r'
  refine ⟨i, j, rfl, ?_⟩
  have : (if j < i then j else i) = min i j := by split <;> omega
  rw [this]
  exact q _ G H s (Same.refl _) (.int _)
theorem nu_max2 (i j : Int) : nuMax2 (.int i) (.int j) = some (.int (max i j)) := by
  show some (if decide (i < j) = true then V.int j else V.int i) = _
  by_cases h : i < j
  · rw [if_pos (decide_eq_true h)]
    congr 2
    omega
  · rw [if_neg (by rw [decide_eq_true_eq]; exact h)]
    congr 2
    omega
theorem nu_min2 (i j : Int) : nuMin2 (.int i) (.int j) = some (.int (min i j)) := by
  show some (if decide (j < i) = true then V.int j else V.int i) = _
  by_cases h : j < i
  · rw [if_pos (decide_eq_true h)]
    congr 2
    omega
  · rw [if_neg (by rw [decide_eq_true_eq]; exact h)]
    congr 2
    omega
theorem ev_max3 {tc : TE} {i j k : Int} (ha : Ev K ta es (.int i)) (hb : Ev K tb es (.int j)) (hc : Ev K tc es (.int k)) : Ev K (tCB (rNuC3 nuMax3) (tCons ta (tCons tb (tCons tc tNil)))) es (.int (max (max i j) k)) := ld_3 ha hb hc fun F G H σ x y z s r r' r'' Q q => by
  cases r
  cases r'
  cases r''
  refine ⟨_, _, _, .int (max (max i j) k), rfl, ?_, q _ G H s (Same.refl _) (.int _)⟩
  unfold nuMax3
  rw [nu_max2]
  exact nu_max2 _ _
theorem ev_min3 {tc : TE} {i j k : Int} (ha : Ev K ta es (.int i)) (hb : Ev K tb es (.int j)) (hc : Ev K tc es (.int k)) : Ev K (tCB (rNuC3 nuMin3) (tCons ta (tCons tb (tCons tc tNil)))) es (.int (min (min i j) k)) := ld_3 ha hb hc fun F G H σ x y z s r r' r'' Q q => by
  cases r
  cases r'
  cases r''
  refine ⟨_, _, _, .int (min (min i j) k), rfl, ?_, q _ G H s (Same.refl _) (.int _)⟩
  unfold nuMin3
  rw [nu_min2]
  exact nu_min2 _ _
theorem ev_intI {i : Int} (ha : Ev K ta es (.int i)) : Ev K (tCB rInt (tCons ta tNil)) es (.int i) := ld_1 ha fun F G H σ x s r Q q => by
  cases r
  exact .inl ⟨i, rfl, q _ G H s (Same.refl _) (.int _)⟩
def b2i (b : Bool) : Int := if b = true then 1 else 0
theorem ev_intB {b : Bool} (ha : Ev K ta es (.bl b)) : Ev K (tCB rInt (tCons ta tNil)) es (.int (b2i b)) := ld_1 ha fun F G H σ x s r Q q => by
  cases r
  exact .inr ⟨b, rfl, q _ G H s (Same.refl _) (.int _)⟩
theorem ev_lenL {ds : List Dt} (ha : Ev K ta es (.lst ds)) : Ev K (tCB (rLenS K) (tCons ta tNil)) es (.int (ds.length : Int)) := ld_1 ha fun F G H σ x s r Q q => by
  cases r with
  | lst h r => exact ⟨_, _, rfl, .inl (s.g.seq h), by rw [r.length]; exact q _ G H s (Same.refl _) (.int _)⟩
theorem ev_lenV {ds : List Dt} (ha : Ev K ta es (.tup ds)) : Ev K (tCB (rLenS K) (tCons ta tNil)) es (.int (ds.length : Int)) := ld_1 ha fun F G H σ x s r Q q => by
  cases r with
  | tup h r => exact ⟨_, _, rfl, .inr (sqT_mono s.g h), by rw [r.length]; exact q _ G H s (Same.refl _) (.int _)⟩
theorem ev_lenLm {α : Type} {em : α → Dt} {xs : List α} (ha : Ev K ta es (.lst (xs.map em))) : Ev K (tCB (rLenS K) (tCons ta tNil)) es (.int (xs.length : Int)) := ev_is (ev_lenL ha) (by rw [List.length_map])
theorem ev_lenVm {α : Type} {em : α → Dt} {xs : List α} (ha : Ev K ta es (.tup (xs.map em))) : Ev K (tCB (rLenS K) (tCons ta tNil)) es (.int (xs.length : Int)) := ev_is (ev_lenV ha) (by rw [List.length_map])
/-- len of the list one fills -/
theorem ev_lenO {α : Type} {em : α → Dt} {xs : List α} {i : Nat} {p : Option Addr} (h : es[i]? = some (.own p (xs.map em))) : Ev K (tCB (rLenS K) (tCons (tVar i) tNil)) es (.int (xs.length : Int)) := fun F G H σ s Q q => by
  obtain ⟨o, ho, p, vs, e, g, f, hp, r, _⟩ := s.sl i _ h
  subst e
  refine ⟨.ref p, ho, p, vs, rfl, .inl (.inl (.inl hp)), ?_⟩
  have := r.length
  rw [List.length_map] at this
  rw [this]
  exact q _ G H s (Same.refl _) (.int _)
def lenC (s : Str) : Option Int := if s.length ≤ 10000000 then some (s.length : Int) else none
theorem ev_lenS {s : Str} {n : Int} (ha : Ev K ta es (.str s)) (h : lenC s = some n) : Ev K (tCB rLenT (tCons ta tNil)) es (.int n) := ld_1 ha fun F G H σ x st r Q q => by
  obtain ⟨hl, rfl⟩ := ite_some h
  cases r
  have sz : (10000000 : Nat) < sizeLine := by decide
  exact ⟨s, rfl, by omega, q _ G H st (Same.refl _) (.int _)⟩
/-- list(x) -/
theorem el_listL {ds : List Dt} (ha : Ev K ta es (.lst ds)) : EvL K (tCB (rListS K) (tCons ta tNil)) es ds := fun F G H σ s Q q =>
  ha F G H σ s _ fun x G1 H1 s1 g1 r1 => by
    cases r1 with
    | lst h r => exact ⟨_, _, rfl, .inl (s1.g.seq h), fun l hl => q l _ G1 _ (s1.prot hl) (s1.fnone hl) g1 r⟩
theorem el_listV {ds : List Dt} (ha : Ev K ta es (.tup ds)) : EvL K (tCB (rListS K) (tCons ta tNil)) es ds := fun F G H σ s Q q =>
  ha F G H σ s _ fun x G1 H1 s1 g1 r1 => by
    cases r1 with
    | tup h r => exact ⟨_, _, rfl, .inr (sqT_mono s1.g h), fun l hl => q l _ G1 _ (s1.prot hl) (s1.fnone hl) g1 r⟩
/-- tuple(x) -/
theorem ev_tupL {ds : List Dt} (ha : Ev K ta es (.lst ds)) : Ev K (tCB (rTupS K) (tCons ta tNil)) es (.tup ds) := ld_1 ha fun F G H σ x s r Q q => by
  cases r with
  | lst h r => exact ⟨_, _, rfl, .inl ⟨s.g.seq h, fun l hl => q _ _ _ (s.new hl) (same_upd (s.gnone hl)) (.tup (.inl (.inl upd_same)) (r.mono (same_upd (s.gnone hl))))⟩⟩
theorem ev_tupV {ds : List Dt} (ha : Ev K ta es (.tup ds)) : Ev K (tCB (rTupS K) (tCons ta tNil)) es (.tup ds) := ld_1 ha fun F G H σ x s r Q q => by
  cases r with
  | tup h r => exact ⟨_, _, rfl, .inr ⟨sqT_mono s.g h, q _ G H s (Same.refl _) (.tup h r)⟩⟩
/-- tuple of the list one fills -/
theorem ev_tupO {ds : List Dt} {i : Nat} {p : Option Addr} (h : es[i]? = some (.own p ds)) : Ev K (tCB (rTupS K) (tCons (tVar i) tNil)) es (.tup ds) := fun F G H σ s Q q => by
  obtain ⟨o, ho, p, vs, e, g, f, hp, r, _⟩ := s.sl i _ h
  subst e
  exact ⟨.ref p, ho, p, vs, rfl, .inl ⟨.inl (.inl hp), fun l hl => q _ _ _ (s.new hl) (same_upd (s.gnone hl)) (.tup (.inl (.inl upd_same)) (r.mono (same_upd (s.gnone hl))))⟩⟩
def isqrtC (i : Int) : Option Int := if 0 ≤ i ∧ i.toNat.log2 ≤ 13000 then some ((Float64.isqrt i.toNat : Nat) : Int) else none
theorem ev_isqrt {i k : Int} (ha : Ev K ta es (.int i)) (h : isqrtC i = some k) : Ev K (tCB rIsqrt (tCons ta tNil)) es (.int k) := ld_1 ha fun F G H σ x s r Q q => by
  obtain ⟨⟨h0, h1⟩, rfl⟩ := ite_some h
  cases r
  exact ⟨i, rfl, h0, h1, q _ G H s (Same.refl _) (.int _)⟩
theorem ev_gcd {i j : Int} (ha : Ev K ta es (.int i)) (hb : Ev K tb es (.int j)) : Ev K (tCB rGcd (tCons ta (tCons tb tNil))) es (.int ((Nat.gcd i.natAbs j.natAbs : Nat) : Int)) := ld_2 ha hb fun F G H σ x y s r r' Q q => by
  cases r
  cases r'
  exact ⟨i, j, rfl, q _ G H s (Same.refl _) (.int _)⟩
theorem ev_bits {i : Int} (ha : Ev K ta es (.int i)) : Ev K (tBits ta) es (.int (Builtin.Int.intBits i : Nat)) := fun F G H σ s Q q => ha F G H σ s _ fun x G1 H1 s1 g1 r => by
  cases r
  exact ⟨i, rfl, q _ G1 H1 s1 g1 (.int _)⟩
theorem ints_of : ∀ {G : Hp} {vs : List V} {ns : List Int}, Reps K G vs (ns.map Dt.int) → vs = ns.map V.int
  | _, _, [], .nil => rfl
  | _, _, n :: ns, .cons h r => by
    cases h
    rw [ints_of r]
    rfl
theorem bools_of : ∀ {G : Hp} {vs : List V} {ns : List Bool}, Reps K G vs (ns.map Dt.bl) → vs = ns.map V.bl
  | _, _, [], .nil => rfl
  | _, _, n :: ns, .cons h r => by
    cases h
    rw [bools_of r]
    rfl
theorem ev_sum {ns : List Int} (ha : Ev K ta es (.lst (ns.map Dt.int))) : Ev K (tCB (rSum K) (tCons ta tNil)) es (.int ns.sum) := ld_1 ha fun F G H σ x s r Q q => by
  cases r with
  | lst h r =>
    have e := ints_of r
    subst e
    exact ⟨_, ns, rfl, s.g.seq h, q _ G H s (Same.refl _) (.int _)⟩
theorem ev_all {ns : List Bool} (ha : Ev K ta es (.lst (ns.map Dt.bl))) : Ev K (tCB (rAll K) (tCons ta tNil)) es (.bl (ns.all id)) := ld_1 ha fun F G H σ x s r Q q => by
  cases r with
  | lst h r =>
    have e := bools_of r
    subst e
    exact ⟨_, ns, rfl, s.g.seq h, q _ G H s (Same.refl _) (.bl _)⟩
theorem ev_any {ns : List Bool} (ha : Ev K ta es (.lst (ns.map Dt.bl))) : Ev K (tCB (rAny K) (tCons ta tNil)) es (.bl (ns.any id)) := ld_1 ha fun F G H σ x s r Q q => by
  cases r with
  | lst h r =>
    have e := bools_of r
    subst e
    exact ⟨_, ns, rfl, s.g.seq h, q _ G H s (Same.refl _) (.bl _)⟩
def maxL : List Int → Option Int
  | [] => none
  | x :: xs => some (xs.foldl max x)
def minL : List Int → Option Int
  | [] => none
  | x :: xs => some (xs.foldl min x)
theorem foldl_max : ∀ (xs : List Int) (x : Int), (xs.foldl max x = x ∨ xs.foldl max x ∈ xs) ∧ x ≤ xs.foldl max x ∧ ∀ y ∈ xs, y ≤ xs.foldl max x
  | [], x => ⟨.inl rfl, Int.le_refl _, fun _ h => nomatch h⟩
  | y :: xs, x => by
    obtain ⟨h1, h2, h3⟩ := foldl_max xs (max x y)
    refine ⟨?_, ?_, fun z hz => ?_⟩
    · show xs.foldl max (max x y) = x ∨ xs.foldl max (max x y) ∈ y :: xs
      rcases h1 with h1 | h1
      · rw [h1]
        by_cases h : x ≤ y
        · right
          rw [Int.max_eq_right h]
          exact List.mem_cons_self
        · left
          exact Int.max_eq_left (by omega)
      · exact .inr (List.mem_cons_of_mem _ h1)
    · show x ≤ xs.foldl max (max x y)
      omega
    · show z ≤ xs.foldl max (max x y)
      rcases List.mem_cons.mp hz with e | e
      · subst e
        omega
      · exact h3 z e
theorem foldl_min : ∀ (xs : List Int) (x : Int), (xs.foldl min x = x ∨ xs.foldl min x ∈ xs) ∧ xs.foldl min x ≤ x ∧ ∀ y ∈ xs, xs.foldl min x ≤ y
  | [], x => ⟨.inl rfl, Int.le_refl _, fun _ h => nomatch h⟩
  | y :: xs, x => by
    obtain ⟨h1, h2, h3⟩ := foldl_min xs (min x y)
    refine ⟨?_, ?_, fun z hz => ?_⟩
    · show xs.foldl min (min x y) = x ∨ xs.foldl min (min x y) ∈ y :: xs
      rcases h1 with h1 | h1
      · rw [h1]
        by_cases h : x ≤ y
        · left
          exact Int.min_eq_left h
        · right
          rw [Int.min_eq_right (by omega)]
          exact List.mem_cons_self
      · exact .inr (List.mem_cons_of_mem _ h1)
    · show xs.foldl min (min x y) ≤ x
      omega
    · show xs.foldl min (min x y) ≤ z
      rcases List.mem_cons.mp hz with e | e
      · subst e
        omega
      · exact h3 z e
theorem maxL_spec {ns : List Int} {k : Int} (h : maxL ns = some k) : k ∈ ns ∧ ∀ y ∈ ns, y ≤ k := by
  cases ns with
  | nil => cases h
  | cons x xs =>
    cases h
    obtain ⟨h1, h2, h3⟩ := foldl_max xs x
    refine ⟨?_, fun y hy => ?_⟩
    · rcases h1 with h1 | h1
      · rw [h1]
        exact List.mem_cons_self
      · exact List.mem_cons_of_mem _ h1
    · rcases List.mem_cons.mp hy with e | e
      · subst e
        exact h2
      · exact h3 y e
theorem minL_spec {ns : List Int} {k : Int} (h : minL ns = some k) : k ∈ ns ∧ ∀ y ∈ ns, k ≤ y := by
  cases ns with
  | nil => cases h
  | cons x xs =>
    cases h
    obtain ⟨h1, h2, h3⟩ := foldl_min xs x
    refine ⟨?_, fun y hy => ?_⟩
    · rcases h1 with h1 | h1
      · rw [h1]
        exact List.mem_cons_self
      · exact List.mem_cons_of_mem _ h1
    · rcases List.mem_cons.mp hy with e | e
      · subst e
        exact h2
      · exact h3 y e
theorem ev_maxL {ns : List Int} {k : Int} (ha : Ev K ta es (.lst (ns.map Dt.int))) (hk : maxL ns = some k) : Ev K (tCB (rMax K) (tCons ta tNil)) es (.int k) := ld_1 ha fun F G H σ x s r Q q => by
  cases r with
  | lst h r =>
    have e := ints_of r
    subst e
    obtain ⟨k1, k2⟩ := maxL_spec hk
    refine ⟨_, ns, rfl, s.g.seq h, List.length_pos_of_mem k1, fun m h1 h2 => ?_⟩
    have : m = k := Int.le_antisymm (k2 m h1) (h2 k k1)
    subst this
    exact q _ G H s (Same.refl _) (.int _)
theorem ev_minL {ns : List Int} {k : Int} (ha : Ev K ta es (.lst (ns.map Dt.int))) (hk : minL ns = some k) : Ev K (tCB (rMin K) (tCons ta tNil)) es (.int k) := ld_1 ha fun F G H σ x s r Q q => by
  cases r with
  | lst h r =>
    have e := ints_of r
    subst e
    obtain ⟨k1, k2⟩ := minL_spec hk
    refine ⟨_, ns, rfl, s.g.seq h, List.length_pos_of_mem k1, fun m h1 h2 => ?_⟩
    have : m = k := Int.le_antisymm (h2 k k1) (k2 m h1)
    subst this
    exact q _ G H s (Same.refl _) (.int _)
/-- the type of data, where it is a built-in one -/
def tyD : Dt → String
  | .non => "NoneType" | .bl _ => "bool" | .int _ => "int" | .str _ => "str" | .ty _ => "type" | .tup _ => "tuple" | .lst _ => "list" | .obj _ _ => ""
theorem tyX_of {G H : Hp} {x : V} {d : Dt} (g : Same G H) (r : Rep K G x d) (h : tyD d ≠ "" ∧ tyD d ≠ "type") : TyX K H x (.type (tyD d)) := by
  cases r with
  | non => exact .base .non
  | bl b => exact .base (.bl b)
  | int i => exact .base (.int i)
  | str s => exact .base (.str s)
  | ty n => exact absurd rfl h.2
  | tup hs _ =>
    rcases hs with (e | ⟨o, e⟩) | ⟨o, its, n, e, c, _⟩
    · exact .base (.tup (g _ _ e))
    · exact .fTuple (g _ _ e)
    · exact .kTuple e c
  | lst hs _ =>
    rcases hs with (e | ⟨o, e⟩) | ⟨o, its, n, e, c, _⟩
    · exact .base (.lst (g _ _ e))
    · exact .base (.frz (g _ _ e))
    · exact .kList e c
  | obj h2 _ => exact absurd rfl h.1
theorem ev_isi {a : Dt} {n t : String} {b : Bool} (ht : tyD a = t) (h1 : t ≠ "") (h2 : t ≠ "type") (hk : kitB t n = some b) (ha : Ev K ta es a) (hb : Ev K tb es (.ty n)) : Ev K (tCB (rIsi K) (tCons ta (tCons tb tNil))) es (.bl b) := ld_2 ha hb fun F G H σ x y s r r' Q q => by
  cases r'
  subst ht
  exact ⟨x, _, _, _, b, rfl, .ty n, tyX_of s.g r ⟨h1, h2⟩, kit_ty hk, q _ G H s (Same.refl _) (.bl _)⟩
theorem ev_ty {n : String} : Ev K (tC (.ty n)) es (.ty n) := fun F G H σ s Q q => q _ G H s (Same.refl _) (.ty n)
/-- a global that stands in the written part, or a number -/
theorem ev_const {v : V} (h : ∀ G, Rep K G v d) : Ev K (tC v) es d := fun F G H σ s Q q => q v G H s (Same.refl _) (h G)
theorem ev_ixN {ds : List Dt} {i : Int} {n : Nat} (ha : Ev K ta es (.tup ds)) (hi : i = (n : Int)) (h : ds[n]? = some d) : Ev K (tOp (rIxT K) ta (tC (.int i))) es d := by
  refine ev_ixT ha ev_int ?_
  have hlt : n < ds.length := (List.getElem?_eq_some_iff.mp h).1
  unfold atI ixN
  subst hi
  rw [if_pos (by omega), if_pos (by omega)]
  exact h
theorem ev_ixLN {ds : List Dt} {i : Int} {n : Nat} (ha : Ev K ta es (.lst ds)) (hi : i = (n : Int)) (h : ds[n]? = some d) : Ev K (tOp (rIxL K) ta (tC (.int i))) es d := by
  refine ev_ixL ha ev_int ?_
  have hlt : n < ds.length := (List.getElem?_eq_some_iff.mp h).1
  unfold atI ixN
  subst hi
  rw [if_pos (by omega), if_pos (by omega)]
  exact h
end
end DL

namespace DL
open PySem L2

abbrev dT6 {α β γ δ ε ζ : Type} (e1 : α → Dt) (e2 : β → Dt) (e3 : γ → Dt) (e4 : δ → Dt) (e5 : ε → Dt) (e6 : ζ → Dt) (x : α × β × γ × δ × ε × ζ) : Dt := .tup [e1 x.1, e2 x.2.1, e3 x.2.2.1, e4 x.2.2.2.1, e5 x.2.2.2.2.1, e6 x.2.2.2.2.2]
abbrev dT7 {α β γ δ ε ζ η : Type} (e1 : α → Dt) (e2 : β → Dt) (e3 : γ → Dt) (e4 : δ → Dt) (e5 : ε → Dt) (e6 : ζ → Dt) (e7 : η → Dt) (x : α × β × γ × δ × ε × ζ × η) : Dt := .tup [e1 x.1, e2 x.2.1, e3 x.2.2.1, e4 x.2.2.2.1, e5 x.2.2.2.2.1, e6 x.2.2.2.2.2.1, e7 x.2.2.2.2.2.2]
abbrev dF1 {α : Type} (e1 : α → Dt) (x : α) : Dt := .lst [e1 x]
abbrev dF2 {α β : Type} (e1 : α → Dt) (e2 : β → Dt) (x : α × β) : Dt := .lst [e1 x.1, e2 x.2]
abbrev dF3 {α β γ : Type} (e1 : α → Dt) (e2 : β → Dt) (e3 : γ → Dt) (x : α × β × γ) : Dt := .lst [e1 x.1, e2 x.2.1, e3 x.2.2]
abbrev dF4 {α β γ δ : Type} (e1 : α → Dt) (e2 : β → Dt) (e3 : γ → Dt) (e4 : δ → Dt) (x : α × β × γ × δ) : Dt := .lst [e1 x.1, e2 x.2.1, e3 x.2.2.1, e4 x.2.2.2]
abbrev dF5 {α β γ δ ε : Type} (e1 : α → Dt) (e2 : β → Dt) (e3 : γ → Dt) (e4 : δ → Dt) (e5 : ε → Dt) (x : α × β × γ × δ × ε) : Dt := .lst [e1 x.1, e2 x.2.1, e3 x.2.2.1, e4 x.2.2.2.1, e5 x.2.2.2.2]
abbrev dF6 {α β γ δ ε ζ : Type} (e1 : α → Dt) (e2 : β → Dt) (e3 : γ → Dt) (e4 : δ → Dt) (e5 : ε → Dt) (e6 : ζ → Dt) (x : α × β × γ × δ × ε × ζ) : Dt := .lst [e1 x.1, e2 x.2.1, e3 x.2.2.1, e4 x.2.2.2.1, e5 x.2.2.2.2.1, e6 x.2.2.2.2.2]
abbrev dF7 {α β γ δ ε ζ η : Type} (e1 : α → Dt) (e2 : β → Dt) (e3 : γ → Dt) (e4 : δ → Dt) (e5 : ε → Dt) (e6 : ζ → Dt) (e7 : η → Dt) (x : α × β × γ × δ × ε × ζ × η) : Dt := .lst [e1 x.1, e2 x.2.1, e3 x.2.2.1, e4 x.2.2.2.1, e5 x.2.2.2.2.1, e6 x.2.2.2.2.2.1, e7 x.2.2.2.2.2.2]
abbrev dF8 {α β γ δ ε ζ η θ : Type} (e1 : α → Dt) (e2 : β → Dt) (e3 : γ → Dt) (e4 : δ → Dt) (e5 : ε → Dt) (e6 : ζ → Dt) (e7 : η → Dt) (e8 : θ → Dt) (x : α × β × γ × δ × ε × ζ × η × θ) : Dt := .lst [e1 x.1, e2 x.2.1, e3 x.2.2.1, e4 x.2.2.2.1, e5 x.2.2.2.2.1, e6 x.2.2.2.2.2.1, e7 x.2.2.2.2.2.2.1, e8 x.2.2.2.2.2.2.2]
abbrev dT8 {α β γ δ ε ζ η θ : Type} (e1 : α → Dt) (e2 : β → Dt) (e3 : γ → Dt) (e4 : δ → Dt) (e5 : ε → Dt) (e6 : ζ → Dt) (e7 : η → Dt) (e8 : θ → Dt) (x : α × β × γ × δ × ε × ζ × η × θ) : Dt := .tup [e1 x.1, e2 x.2.1, e3 x.2.2.1, e4 x.2.2.2.1, e5 x.2.2.2.2.1, e6 x.2.2.2.2.2.1, e7 x.2.2.2.2.2.2.1, e8 x.2.2.2.2.2.2.2]
theorem bt_len : bootBuiltins "len" = some (.builtin "len") := by decide +kernel
theorem bt_isinstance : bootBuiltins "isinstance" = some (.builtin "isinstance") := by decide +kernel
theorem bt_min : bootBuiltins "min" = some (.builtin "min") := by decide +kernel
theorem bt_max : bootBuiltins "max" = some (.builtin "max") := by decide +kernel
theorem bt_abs : bootBuiltins "abs" = some (.builtin "abs") := by decide +kernel
theorem bt_sum : bootBuiltins "sum" = some (.builtin "sum") := by decide +kernel
theorem bt_sorted : bootBuiltins "sorted" = some (.builtin "sorted") := by decide +kernel
theorem bt_all : bootBuiltins "all" = some (.builtin "all") := by decide +kernel
theorem bt_any : bootBuiltins "any" = some (.builtin "any") := by decide +kernel
theorem bt_repr : bootBuiltins "repr" = some (.builtin "repr") := by decide +kernel
theorem bt_range : bootBuiltins "range" = some (.type "range") := by decide +kernel
theorem bt_int : bootBuiltins "int" = some (.type "int") := by decide +kernel
theorem bt_tuple : bootBuiltins "tuple" = some (.type "tuple") := by decide +kernel
theorem bt_list : bootBuiltins "list" = some (.type "list") := by decide +kernel
theorem bt_str : bootBuiltins "str" = some (.type "str") := by decide +kernel
theorem bt_dict : bootBuiltins "dict" = some (.type "dict") := by decide +kernel
theorem bt_type : bootBuiltins "type" = some (.type "type") := by decide +kernel
theorem bt_enumerate : bootBuiltins "enumerate" = some (.type "enumerate") := by decide +kernel
theorem bt_bool : bootBuiltins "bool" = some (.type "bool") := by decide +kernel
theorem bt_set : bootBuiltins "set" = some (.type "set") := by decide +kernel
theorem bt_zip : bootBuiltins "zip" = some (.type "zip") := by decide +kernel
theorem bt_reversed : bootBuiltins "reversed" = some (.type "reversed") := by decide +kernel
theorem bt_map : bootBuiltins "map" = some (.type "map") := by decide +kernel
section
variable {K : PySem.W.Frag} {es : List Sl} {ρ : Type} {t u tz : TS} {m : Option ρ} {oc : ρ → Res} {te ta tb : TE} {tt : TT} {d : Dt}
theorem sm_run {r : ρ} (h : m = some r) (p : SM K t es m oc) : SEv K t es (oc r) := p r h
theorem wk_n : Wk [] [] := trivial
theorem wk_e {a : Sl} {as bs : List Sl} (h : Wk as bs) : Wk (a :: as) (a :: bs) := ⟨.inr rfl, h⟩
theorem wk_u {a : Sl} {as bs : List Sl} (h : Wk as bs) : Wk (a :: as) (.un :: bs) := ⟨.inl rfl, h⟩
theorem wk_uns : ∀ {as : List Sl} {n : Nat}, as.length = n → Wk as (List.replicate n .un)
  | [], _, h => by subst h; trivial
  | a :: as, _, h => by subst h; exact ⟨.inl rfl, wk_uns rfl⟩
/-- partial values within a branch -/
theorem ev_pure {α : Type} {em : α → Dt} {v : α} (h : Ev K te es (em v)) : ∀ y, some v = some y → Ev K te es (em y) := fun y e => by cases e; exact h
theorem ev_bnd {α β : Type} {em : β → Dt} {m1 : Option α} {k : α → Option β} (h : ∀ x, m1 = some x → ∀ y, k x = some y → Ev K te es (em y)) : ∀ y, m1.bind k = some y → Ev K te es (em y) := fun y e => by
  cases q : m1 with
  | none => rw [q] at e; cases e
  | some x => rw [q] at e; exact h x q y e
theorem et_pure {v : Bool} (h : EvT K tt es v) : ∀ y, some v = some y → EvT K tt es y := fun y e => by cases e; exact h
theorem et_bnd {α : Type} {m1 : Option α} {k : α → Option Bool} (h : ∀ x, m1 = some x → ∀ y, k x = some y → EvT K tt es y) : ∀ y, m1.bind k = some y → EvT K tt es y := fun y e => by
  cases q : m1 with
  | none => rw [q] at e; cases e
  | some x => rw [q] at e; exact h x q y e
theorem eb_pure {v : Bool} (h : Ev K te es (.bl v)) : ∀ y, some v = some y → Ev K te es (.bl y) := fun y e => by cases e; exact h
theorem eb_bnd {α : Type} {m1 : Option α} {k : α → Option Bool} (h : ∀ x, m1 = some x → ∀ y, k x = some y → Ev K te es (.bl y)) : ∀ y, m1.bind k = some y → Ev K te es (.bl y) := fun y e => by
  cases q : m1 with
  | none => rw [q] at e; cases e
  | some x => rw [q] at e; exact h x q y e
theorem rngC_of {lo hi : Int} (h : -(2 ^ 62) ≤ lo ∧ lo < 2 ^ 62 ∧ -(2 ^ 62) ≤ hi ∧ hi < 2 ^ 62) : rngC lo hi = some (rng lo hi) := if_pos h

/-! ### comprehensions, by their kinds -/
def mapO {α β : Type} : List α → (α → Option β) → Option (List β)
  | [], _ => some []
  | x :: xs, f => (f x).bind fun y => (mapO xs f).bind fun ys => some (y :: ys)
def mapC {α β : Type} (xs : List α) (f : α → Option β) : Option (List β) := if xs.length ≤ 1000000 then mapO xs f else none
def mapP {α β : Type} (xs : List α) (f : α → β) : Option (List β) := if xs.length ≤ 1000000 then some (xs.map f) else none
def filC {α β : Type} (xs : List α) (f : α → Option (Option β)) : Option (List β) := if xs.length ≤ 1000000 then compO xs f else none
theorem compO_mapO {α β : Type} {f : α → Option β} : ∀ {xs : List α}, compO xs (fun x => (f x).bind fun y => some (some y)) = mapO xs f
  | [] => rfl
  | x :: xs => by
    show ((f x).bind _).bind _ = (f x).bind _
    cases f x with
    | none => rfl
    | some y =>
      show (compO xs _).bind _ = (mapO xs f).bind _
      rw [compO_mapO]
      rfl
theorem mapO_map {α β : Type} {f : α → β} : ∀ {xs : List α}, mapO xs (fun x => some (f x)) = some (xs.map f)
  | [] => rfl
  | x :: xs => by
    show (mapO xs _).bind _ = _
    rw [mapO_map]
    rfl
theorem et_yes : EvT K tYes es true := fun F G H σ s Q q => q G H s (Same.refl _)
section
variable {α β : Type} {wi : TI} {g : TG} {vs : List Nat} {xs : List α} {em : α → Dt} {em2 : β → Dt} {ys : List β} {en2 : α → List Sl}
theorem el_map {f : α → Option β} (hi : EvI K wi es (xs.map em)) (hg : ∀ x, EvG K g vs (wipeS es vs) (em x) (en2 x)) (hb : ∀ x, ∀ y, f x = some y → Ev K te (en2 x) (em2 y)) (hd : es.all (fun t => !t.isOwn) = true) (h : mapC xs f = some ys) :
    EvL K (tLc wi g tYes te vs) es (ys.map em2) := by
  unfold mapC at h
  by_cases hz : xs.length ≤ 1000000
  · rw [if_pos hz] at h
    refine el_comp (f := fun x => (f x).bind fun y => some (some y)) hi hz hg (fun x o _ e => ?_) hd (compO_mapO.trans h)
    cases q : f x with
    | none => rw [q] at e; cases e
    | some y =>
      rw [q] at e
      cases e
      exact ⟨et_yes, fun z e => by cases e; exact hb x y q⟩
  · rw [if_neg hz] at h
    cases h
theorem el_mapP {f : α → β} (hi : EvI K wi es (xs.map em)) (hg : ∀ x, EvG K g vs (wipeS es vs) (em x) (en2 x)) (hb : ∀ x, Ev K te (en2 x) (em2 (f x))) (hd : es.all (fun t => !t.isOwn) = true) (h : mapP xs f = some ys) :
    EvL K (tLc wi g tYes te vs) es (ys.map em2) := by
  unfold mapP at h
  by_cases hz : xs.length ≤ 1000000
  · rw [if_pos hz] at h
    exact el_map (f := fun x => some (f x)) hi hg (fun x y e => by cases e; exact hb x) hd (by unfold mapC; rw [if_pos hz, mapO_map]; exact h)
  · rw [if_neg hz] at h
    cases h
theorem cb_if {c : Bool} {m : Option β} (hc : EvT K tt es c) (hb : c = true → ∀ y, m = some y → Ev K te es (em2 y)) : ∀ o, (if c = true then m.bind fun y => some (some y) else some none) = some o → EvT K tt es o.isSome ∧ ∀ y, o = some y → Ev K te es (em2 y) := fun o e => by
  cases c with
  | false =>
    have e : none = o := Option.some.inj e
    subst e
    exact ⟨hc, fun y h => nomatch h⟩
  | true =>
    cases q : m with
    | none => rw [q] at e; cases e
    | some y =>
      rw [q] at e
      have e : some y = o := Option.some.inj e
      subst e
      exact ⟨hc, fun z h => by cases h; exact hb rfl y q⟩
theorem el_fil {tt : TT} {f : α → Option (Option β)} (hi : EvI K wi es (xs.map em)) (hg : ∀ x, EvG K g vs (wipeS es vs) (em x) (en2 x)) (hb : ∀ x, ∀ o, f x = some o → EvT K tt (en2 x) o.isSome ∧ ∀ y, o = some y → Ev K te (en2 x) (em2 y)) (hd : es.all (fun t => !t.isOwn) = true) (h : filC xs f = some ys) :
    EvL K (tLc wi g tt te vs) es (ys.map em2) := by
  unfold filC at h
  by_cases hz : xs.length ≤ 1000000
  · rw [if_pos hz] at h
    exact el_comp hi hz hg (fun x o _ e => hb x o e) hd h
  · rw [if_neg hz] at h
    cases h
end

/-! a comprehension over items that are known one by one -/
def AllEv (K : PySem.W.Frag) (te : TE) {α : Type} (en2 : α → List Sl) : List α → List Dt → Prop
  | [], [] => True
  | x :: xs, d :: ds => Ev K te (en2 x) d ∧ AllEv K te en2 xs ds
  | _, _ => False
theorem ae_n {α : Type} {en2 : α → List Sl} : AllEv K te en2 [] [] := trivial
theorem ae_c {α : Type} {en2 : α → List Sl} {x : α} {xs : List α} {d : Dt} {ds : List Dt} (h : Ev K te (en2 x) d) (r : AllEv K te en2 xs ds) : AllEv K te en2 (x :: xs) (d :: ds) := ⟨h, r⟩
theorem AllEv.len {α : Type} {en2 : α → List Sl} : ∀ {xs : List α} {ds : List Dt}, AllEv K te en2 xs ds → xs.length = ds.length
  | [], [], _ => rfl
  | _ :: _, _ :: _, h => congrArg (· + 1) (AllEv.len h.2)
  | [], _ :: _, h => h.elim
  | _ :: _, [], h => h.elim
theorem AllEv.get {α : Type} {en2 : α → List Sl} : ∀ {xs : List α} {ds : List Dt} {i : Nat} {x : α} {d : Dt}, AllEv K te en2 xs ds → xs[i]? = some x → ds[i]? = some d → Ev K te (en2 x) d
  | [], [], _, _, _, _, e, _ => by simp at e
  | x :: xs, d :: ds, 0, _, _, h, e, e' => by simp at e e'; subst e e'; exact h.1
  | x :: xs, d :: ds, i + 1, _, _, h, e, e' => AllEv.get (i := i) h.2 (by simpa using e) (by simpa using e')
  | [], _ :: _, _, _, _, h, _, _ => h.elim
  | _ :: _, [], _, _, _, h, _, _ => h.elim
theorem el_fix {α : Type} {wi : TI} {g : TG} {vs : List Nat} {xs : List α} {em : α → Dt} {ds : List Dt} {en2 : α → List Sl} (hi : EvI K wi es (xs.map em)) (hz : xs.length ≤ 1000000) (hg : ∀ x, EvG K g vs (wipeS es vs) (em x) (en2 x))
    (hb : AllEv K te en2 xs ds) (hd : es.all (fun t => !t.isOwn) = true) : EvL K (tLc wi g tYes te vs) es ds := fun F G H σ st Q q => by
  refine hi F G H σ st _ fun J G1 H1 s1 g1 y => fun Dl hD => ?_
  have hF : F Dl = none := s1.fnone hD
  have sz : (1000000 : Nat) < sizeLine := by decide
  have hlen := hb.len
  refine ⟨fun i m H' => ∃ (G' : Hp) (acc : List V), Stt K (upd F Dl (.lst acc)) G' H' σ es ∧ Same G1 G' ∧ Reps K G' acc (ds.take i) ∧ m = xs.length - i ∧ i ≤ xs.length,
    ⟨_, G1, [], s1.prot hD, Same.refl _, .nil, rfl, Nat.zero_le _⟩, ?_⟩
  rintro i m H' ⟨G', acc, st', g', racc, rfl, hle⟩
  by_cases hlt : i < xs.length
  · refine .inr ?_
    have hld : i < ds.length := by omega
    obtain ⟨go, yld⟩ := (y i _ G' H' σ es g' st').1 (em xs[i]) (by rw [List.getElem?_map, List.getElem?_eq_getElem hlt]; rfl)
    refine ⟨go, fun H2 => ∃ (G2 : Hp) (acc2 : List V), Stt K (upd F Dl (.lst acc2)) G2 H2 σ es ∧ Same G1 G2 ∧ Reps K G2 acc2 (ds.take (i + 1)),
      fun H2 ⟨G2, acc2, a1, a2, a3⟩ => ⟨xs.length - (i + 1), by omega, G2, acc2, a1, a2, a3, rfl, by omega⟩, fun x H2 hy => ?_⟩
    obtain ⟨G2, st2, g2, rx⟩ := yld x H2 hy
    have hte : Ev K te (en2 xs[i]) ds[i] := hb.get (List.getElem?_eq_getElem hlt) (List.getElem?_eq_getElem hld)
    refine hg xs[i] (upd F Dl (.lst acc)) G2 H2 (L2.wipe σ vs) x (st2.wipe vs) rx _ fun σ3 G3 H3 st3 g3 l3 k3 => ?_
    refine ⟨by rw [wipe_ext (σ := L2.wipe σ vs) l3 k3]; exact wipe_ext (wipe_length _ _) fun k hk => wipe_get hk, ?_⟩
    show te σ3 H3 _
    refine hte _ G3 H3 σ3 st3 _ fun v G5 H5 st5 g5 r5 => ?_
    have hzl2 : acc.length = i := by
      have := racc.length
      rw [List.length_take] at this
      omega
    refine ⟨acc, st5.f Dl _ upd_same, ?_, G5, acc ++ [v], (st2.swap hd st5 (g3.trans g5)).reprot, g'.trans (g2.trans (g3.trans g5)), ?_⟩
    · omega
    · rw [List.take_add_one, List.getElem?_eq_getElem hld]
      exact (racc.mono (g2.trans (g3.trans g5))).append (.cons r5 .nil)
  · have e3 : i = xs.length := by omega
    subst e3
    refine .inl ⟨(y xs.length _ G' H' σ es g' st').2 (by simp), ?_⟩
    rw [hlen, List.take_length] at racc
    exact q Dl acc G' H' st' hF (g1.trans g') racc
theorem ev_ixNG {tb : TE} {ds : List Dt} {i : Int} (n : Nat) (hi : i = (n : Int)) (h : ds[n]? = some d) (ha : Ev K ta es (.tup ds)) (hb : Ev K tb es (.int i)) : Ev K (tOp (rIxT K) ta tb) es d := by
  refine ev_ixT ha hb ?_
  have hlt : n < ds.length := (List.getElem?_eq_some_iff.mp h).1
  unfold atI ixN
  subst hi
  rw [if_pos (by omega), if_pos (by omega)]
  exact h
theorem ev_ixLG {tb : TE} {ds : List Dt} {i : Int} (n : Nat) (hi : i = (n : Int)) (h : ds[n]? = some d) (ha : Ev K ta es (.lst ds)) (hb : Ev K tb es (.int i)) : Ev K (tOp (rIxL K) ta tb) es d := by
  refine ev_ixL ha hb ?_
  have hlt : n < ds.length := (List.getElem?_eq_some_iff.mp h).1
  unfold atI ixN
  subst hi
  rw [if_pos (by omega), if_pos (by omega)]
  exact h
/-! ### == of data -/
mutual
def pd : Dt → PyData
  | .non => .none | .bl b => .bool b | .int i => .int i | .str s => .str s | .ty _ => .none
  | .tup xs => .tuple (pds xs) | .lst xs => .list (pds xs) | .obj _ _ => .none
def pds : List Dt → List PyData
  | [] => []
  | x :: xs => pd x :: pds xs
end
mutual
inductive SH : Nat → Dt → Prop
  | non {n : Nat} : SH n .non
  | bl {n : Nat} {b : Bool} : SH n (.bl b)
  | int {n : Nat} {i : Int} : SH n (.int i)
  | str {n : Nat} {s : Str} (h : PyData.canLay0 (.str s) = true) : SH n (.str s)
  | tup {n : Nat} {xs : List Dt} (h : SHs n xs) : SH (n + 1) (.tup xs)
  | lst {n : Nat} {xs : List Dt} (h : SHs n xs) : SH (n + 1) (.lst xs)
inductive SHs : Nat → List Dt → Prop
  | nil {n : Nat} : SHs n []
  | cons {n : Nat} {x : Dt} {xs : List Dt} (h : SH n x) (r : SHs n xs) : SHs n (x :: xs)
end
theorem shI {n : Nat} {i : Int} : SH n (.int i) := .int
theorem shB {n : Nat} {i : Bool} : SH n (.bl i) := .bl
theorem shN {n : Nat} : SH n .non := .non
theorem shT {n : Nat} {xs : List Dt} (h : SHs n xs) : SH (n + 1) (.tup xs) := .tup h
theorem shs_nil {n : Nat} : SHs n [] := .nil
theorem shs_cons {n : Nat} {x : Dt} {xs : List Dt} (h : SH n x) (r : SHs n xs) : SHs n (x :: xs) := .cons h r
theorem shs_map {α : Type} {n : Nat} {e : α → Dt} : ∀ {xs : List α}, (∀ x, SH n (e x)) → SHs n (xs.map e)
  | [], _ => .nil
  | x :: xs, h => .cons (h x) (shs_map h)
theorem shV {α : Type} {n : Nat} {e : α → Dt} {xs : List α} (h : ∀ x, SH n (e x)) : SH (n + 1) (.tup (xs.map e)) := .tup (shs_map h)
theorem shL {α : Type} {n : Nat} {e : α → Dt} {xs : List α} (h : ∀ x, SH n (e x)) : SH (n + 1) (.lst (xs.map e)) := .lst (shs_map h)
theorem shO {α : Type} {n : Nat} {e : α → Dt} {x : Option α} (h : ∀ x, SH n (e x)) : SH n (dO e x) := by
  cases x with
  | none => exact .non
  | some x => exact h x
mutual
theorem SH.lay : ∀ {n : Nat} {d : Dt}, SH n d → (pd d).canLay0 = true ∧ (pd d).depth ≤ n
  | _, _, .non => ⟨by simp [pd, PyData.canLay0], by simp [pd, PyData.depth]⟩
  | _, _, .bl => ⟨by simp [pd, PyData.canLay0], by simp [pd, PyData.depth]⟩
  | _, _, .int => ⟨by simp [pd, PyData.canLay0], by simp [pd, PyData.depth]⟩
  | _, _, .str h => ⟨by simpa [pd] using h, by simp [pd, PyData.depth]⟩
  | _, _, .tup h => by
    obtain ⟨a, b⟩ := SHs.lay h
    exact ⟨by simpa [pd, PyData.canLay0] using a, by simp [pd, PyData.depth]; exact b⟩
  | _, _, .lst h => by
    obtain ⟨a, b⟩ := SHs.lay h
    exact ⟨by simpa [pd, PyData.canLay0] using a, by simp [pd, PyData.depth]; exact b⟩
theorem SHs.lay : ∀ {n : Nat} {ds : List Dt}, SHs n ds → PyData.canLayAll0 (pds ds) = true ∧ PyData.depthAll (pds ds) ≤ n
  | _, _, .nil => ⟨by simp [pds, PyData.canLayAll0], by simp [pds, PyData.depthAll]⟩
  | _, _, .cons h r => by
    obtain ⟨a, b⟩ := SH.lay h
    obtain ⟨c, d⟩ := SHs.lay r
    exact ⟨by simp [pds, PyData.canLayAll0, a, c], by simp [pds, PyData.depthAll]; omega⟩
end
mutual
theorem SH.dp {G H : Hp} (g : Same G H) : ∀ {n : Nat} {d : Dt} {v : V}, SH n d → Rep K G v d → Dp K H v (pd d)
  | _, _, _, .non, .non => by simp only [pd]; exact .non
  | _, _, _, .bl, .bl b => by simp only [pd]; exact .bl b
  | _, _, _, .int, .int i => by simp only [pd]; exact .int i
  | _, _, _, .str _, .str s => by simp only [pd]; exact .str s
  | _, _, _, .tup h, .tup hs r => by simp only [pd]; exact .tup (sqT_mono g hs) (SHs.dp g h r)
  | _, _, _, .lst h, .lst hs r => by simp only [pd]; exact .lst (g.seq hs) (SHs.dp g h r)
theorem SHs.dp {G H : Hp} (g : Same G H) : ∀ {n : Nat} {ds : List Dt} {vs : List V}, SHs n ds → Reps K G vs ds → DpAll K H vs (pds ds)
  | _, _, _, .nil, .nil => by simp only [pds]; exact .nil
  | _, _, _, .cons h r, .cons a b => by simp only [pds]; exact .cons (SH.dp g h a) (SHs.dp g r b)
end
def eqD (a b : Dt) : Bool := PyData.eqv (pd a) (pd b)
theorem shaped_of {d : Dt} (h : SH 64 d) : SeqAt.shaped (pd d) = true := by
  obtain ⟨a, b⟩ := h.lay
  unfold SeqAt.shaped
  rw [a, decide_eq_true b]
  rfl
theorem ev_eqD {a b : Dt} (sa : SH 64 a) (sb : SH 64 b) (ha : Ev K ta es a) (hb : Ev K tb es b) : Ev K (tOp (rEqD K) ta tb) es (.bl (eqD a b)) := ev_op ha hb fun F G H σ es x y s rx ry Q q =>
  ⟨pd a, pd b, sa.dp s.g rx, sb.dp s.g ry, shaped_of sa, shaped_of sb, q _ G H s (Same.refl _) (.bl _)⟩
theorem ev_neD {a b : Dt} (sa : SH 64 a) (sb : SH 64 b) (ha : Ev K ta es a) (hb : Ev K tb es b) : Ev K (tOp (rNeD K) ta tb) es (.bl (!eqD a b)) := ev_op ha hb fun F G H σ es x y s rx ry Q q =>
  ⟨pd a, pd b, sa.dp s.g rx, sb.dp s.g ry, shaped_of sa, shaped_of sb, q _ G H s (Same.refl _) (.bl _)⟩
theorem ev_lenVN {ds : List Dt} (n : Int) (ha : Ev K ta es (.tup ds)) (h : (ds.length : Int) = n) : Ev K (tCB (rLenS K) (tCons ta tNil)) es (.int n) := h ▸ ev_lenV ha
theorem ev_lenLN {ds : List Dt} (n : Int) (ha : Ev K ta es (.lst ds)) (h : (ds.length : Int) = n) : Ev K (tCB (rLenS K) (tCons ta tNil)) es (.int n) := h ▸ ev_lenL ha
theorem ev_some {α : Type} {em : α → Dt} {o : Option α} {x : α} (h : o = some x) (ha : Ev K te es (dO em o)) : Ev K te es (em x) := by
  subst h
  exact ha
def rIsB1 : R2 := fun x y H Q => ∃ a b : Bool, x = .bl a ∧ y = .bl b ∧ Q (.bl (decide (a = b))) H
def rNotB1 : R2 := fun x y H Q => ∃ a b : Bool, x = .bl a ∧ y = .bl b ∧ Q (.bl (!decide (a = b))) H
theorem op_isB1 {X : Cx} : OpR X (compareOp .Is) rIsB1 := op_isBl
theorem op_nisB1 {X : Cx} : OpR X (compareOp .IsNot) rNotB1 := op_notBl
theorem ev_isB {a b : Bool} (ha : Ev K ta es (.bl a)) (hb : Ev K tb es (.bl b)) : Ev K (tOp rIsB1 ta tb) es (.bl (decide (a = b))) := ev_op ha hb fun F G H σ es x y s rx ry Q q => by
  cases rx
  cases ry
  exact ⟨a, b, rfl, rfl, q _ G H s (Same.refl _) (.bl _)⟩
theorem ev_nisB {a b : Bool} (ha : Ev K ta es (.bl a)) (hb : Ev K tb es (.bl b)) : Ev K (tOp rNotB1 ta tb) es (.bl (!decide (a = b))) := ev_op ha hb fun F G H σ es x y s rx ry Q q => by
  cases rx
  cases ry
  exact ⟨a, b, rfl, rfl, q _ G H s (Same.refl _) (.bl _)⟩
theorem kit_self (K : PySem.W.Frag) (t : Value) : PySem.W.kitOne K t t = some true := if_pos (beq_iff_eq.mpr rfl)
/-- isinstance of an instance of an own class against that class -/
theorem ev_isiC {C : Addr} {fs : List (Str × Dt)} (cl : Cls K C) (h1 : PySem.W.findIn K (.ref C) "__class__" = some (some (.builtin "object.__class__"))) (h2 : PySem.W.specialIn K (.builtin "object.__class__") "__get__" = some (some (.builtin "getset_descriptor.__get__")))
    (h3 : PySem.W.takesIn K (.builtin "object.__class__") = some true) (h4 : PySem.W.mroIn K C (.type "object") = some true) (ha : Ev K ta es (.obj C fs)) : Ev K (tCB (rIsi K) (tCons ta (tCons (tC (.ref C)) tNil))) es (.bl true) := fun F G H σ s Q q =>
  ha F G H σ s _ fun x G1 H1 s1 g1 r1 => by
    cases r1 with
    | obj h r => exact ⟨_, _, _, _, true, rfl, .own C, .base (.ins (s1.g _ _ h) cl h1 h2 h3 h4), kit_self K (.ref C), q _ G1 H1 s1 g1 (.bl _)⟩
/-! is None -/
def isNon : Dt → Bool
  | .non => true
  | _ => false
theorem rep_non {G : Hp} {x : V} {d : Dt} (r : Rep K G x d) : decide (x = V.non) = isNon d := by
  cases r <;> simp [isNon]
theorem ev_isN (ha : Ev K ta es .non) : Ev K (tOp rIsN ta (tC .non)) es (.bl true) := fun F G H σ s Q q => ha F G H σ s _ fun x G1 H1 s1 g1 r1 => by
  cases r1
  exact ⟨rfl, q _ G1 H1 s1 g1 (.bl _)⟩
theorem ev_isG {b : Bool} (ha : Ev K ta es d) (hb : isNon d = b) : Ev K (tOp rIsN ta (tC .non)) es (.bl b) := fun F G H σ s Q q => ha F G H σ s _ fun x G1 H1 s1 g1 r1 => by
  refine ⟨rfl, ?_⟩
  rw [rep_non r1, hb]
  exact q _ G1 H1 s1 g1 (.bl _)
theorem ev_nisG {b : Bool} (ha : Ev K ta es d) (hb : isNon d = b) : Ev K (tOp rNotN ta (tC .non)) es (.bl (!b)) := fun F G H σ s Q q => ha F G H σ s _ fun x G1 H1 s1 g1 r1 => by
  refine ⟨rfl, ?_⟩
  rw [rep_non r1, hb]
  exact q _ G1 H1 s1 g1 (.bl _)
theorem isO {α : Type} {em : α → Dt} (h : ∀ x, em x = .non → False) (o : Option α) : isNon (dO em o) = o.isNone := by
  cases o with
  | none => rfl
  | some x =>
    show isNon (em x) = false
    cases q : em x with
    | non => exact (h x q).elim
    | _ => rfl
theorem ev_isO {α : Type} {em : α → Dt} {o : Option α} (h : ∀ x, em x = .non → False) (ha : Ev K ta es (dO em o)) : Ev K (tOp rIsN ta (tC .non)) es (.bl o.isNone) := ev_isG ha (isO h o)
theorem ev_nisO {α : Type} {em : α → Dt} {o : Option α} (h : ∀ x, em x = .non → False) (ha : Ev K ta es (dO em o)) : Ev K (tOp rNotN ta (tC .non)) es (.bl (!o.isNone)) := ev_nisG ha (isO h o)
theorem ev_isD (h : d = .non → False) (ha : Ev K ta es d) : Ev K (tOp rIsN ta (tC .non)) es (.bl false) := ev_isG ha (by cases d <;> first | rfl | exact (h rfl).elim)
theorem ev_nisD (h : d = .non → False) (ha : Ev K ta es d) : Ev K (tOp rNotN ta (tC .non)) es (.bl (!false)) := ev_nisG ha (by cases d <;> first | rfl | exact (h rfl).elim)
/-! in -/
theorem reps_int {G : Hp} {vs : List V} {xs : List Int} (r : Reps K G vs (xs.map Dt.int)) : vs = xs.map V.int := ints_of r
theorem inV_int {i : Int} : ∀ {xs : List Int}, inV (.int i) (xs.map V.int) = decide (i ∈ xs)
  | [] => rfl
  | x :: xs => by
    have ih := inV_int (i := i) (xs := xs)
    unfold inV at ih ⊢
    rw [List.map_cons, List.any_cons, ih]
    show (x == i || decide (i ∈ xs)) = decide (i ∈ x :: xs)
    rw [Bool.eq_iff_iff, Bool.or_eq_true, beq_iff_eq, decide_eq_true_eq, decide_eq_true_eq, List.mem_cons]
    exact ⟨fun h => h.imp Eq.symm (fun x => x), fun h => h.imp Eq.symm (fun x => x)⟩
theorem all_int : ∀ {xs : List Int}, (xs.map V.int).all flatV = true
  | [] => rfl
  | x :: xs => by
    rw [List.map_cons, List.all_cons, all_int]
    rfl
theorem ev_inTI {i : Int} {xs : List Int} (ha : Ev K ta es (.int i)) (hb : Ev K tb es (.tup (xs.map Dt.int))) : Ev K (tOp (rIn K false) ta tb) es (.bl (decide (i ∈ xs))) := ev_op ha hb fun F G H σ es x y s rx ry Q q => by
  cases rx
  cases ry with
  | tup h r =>
    obtain rfl := ints_of r
    refine ⟨_, _, rfl, .inr (sqT_mono s.g h), rfl, all_int, ?_⟩
    show Q (.bl (inV (.int i) (xs.map V.int))) H
    rw [inV_int]
    exact q _ G H s (Same.refl _) (.bl _)
theorem ev_ninTI {i : Int} {xs : List Int} (ha : Ev K ta es (.int i)) (hb : Ev K tb es (.tup (xs.map Dt.int))) : Ev K (tOp (rIn K true) ta tb) es (.bl (!decide (i ∈ xs))) := ev_op ha hb fun F G H σ es x y s rx ry Q q => by
  cases rx
  cases ry with
  | tup h r =>
    obtain rfl := ints_of r
    refine ⟨_, _, rfl, .inr (sqT_mono s.g h), rfl, all_int, ?_⟩
    show Q (.bl (!inV (.int i) (xs.map V.int))) H
    rw [inV_int]
    exact q _ G H s (Same.refl _) (.bl _)
theorem ev_inLI {i : Int} {xs : List Int} (ha : Ev K ta es (.int i)) (hb : Ev K tb es (.lst (xs.map Dt.int))) : Ev K (tOp (rIn K false) ta tb) es (.bl (decide (i ∈ xs))) := ev_op ha hb fun F G H σ es x y s rx ry Q q => by
  cases rx
  cases ry with
  | lst h r =>
    obtain rfl := ints_of r
    refine ⟨_, _, rfl, .inl (s.g.seq h), rfl, all_int, ?_⟩
    show Q (.bl (inV (.int i) (xs.map V.int))) H
    rw [inV_int]
    exact q _ G H s (Same.refl _) (.bl _)
theorem ev_ninLI {i : Int} {xs : List Int} (ha : Ev K ta es (.int i)) (hb : Ev K tb es (.lst (xs.map Dt.int))) : Ev K (tOp (rIn K true) ta tb) es (.bl (!decide (i ∈ xs))) := ev_op ha hb fun F G H σ es x y s rx ry Q q => by
  cases rx
  cases ry with
  | lst h r =>
    obtain rfl := ints_of r
    refine ⟨_, _, rfl, .inl (s.g.seq h), rfl, all_int, ?_⟩
    show Q (.bl (!inV (.int i) (xs.map V.int))) H
    rw [inV_int]
    exact q _ G H s (Same.refl _) (.bl _)
end
/-! ### the law's own promise -/
theorem reps_ofInts {K : PySem.W.Frag} {G : Hp} : ∀ (ns : List Int), Reps K G (ns.map V.int) (ns.map Dt.int)
  | [] => .nil
  | n :: ns => .cons (.int n) (reps_ofInts ns)
theorem law_sp {K : PySem.W.Frag} {f : List Int → Option Bool} {ns : List Int} {a : Addr} {H : Hp} (h : f ns = some true) (hS : SqL K H a (ns.map V.int)) :
    FSpec K (RD fun ds d => ∃ (ns : List Int) (r : Bool), ds = [.lst (ns.map Dt.int)] ∧ f ns = some r ∧ d = .bl r) [.ref a] H (fun v _ => v = .bl true) fun _ _ _ => False :=
  ⟨fun _ => none, H, [.d (.lst (ns.map Dt.int))], .bl true, [.d (.lst (ns.map Dt.int))], stt_data (vs := [.ref a]) (ds := [.lst (ns.map Dt.int)]) (fun _ _ e => nomatch e) (Same.refl _) (fun _ _ e => nomatch e) (.cons (.lst hS (reps_ofInts ns)) .nil),
    ⟨_, rfl, rfl, ns, true, rfl, h, rfl⟩, fun v G' H' _ _ r => by cases r; rfl⟩
end DL

namespace G
open PySem L2 DL
structure Gap where
  vector : (Int × Int × Int)
  scale : Int
def m__law_rows (script : (List Int)) (count : Int) : Option (List Int) :=
lt ([] : (List Int)) fun rows_here1 =>
(rngC 0 count).bind fun r2 =>
(forL r2 (rows_here1 : (List Int)) fun k4 s3 =>
lt (0 : Int) fun cell5 =>
(if (decide (0 < (script.length : Int))) = true then
(modC k4 (script.length : Int)).bind fun t6 =>
(atC script t6).bind fun t7 =>
some (t7 : Int)
else
some (cell5 : Int)).bind fun (s8 : Int) =>
(if (decide (s8 < 0)) = true then
(mulC 2 s8).bind fun t9 =>
lt (1 - t9 : Int) fun cell10 =>
some (cell10 : Int)
else
some (s8 : Int)).bind fun (s11 : Int) =>
(if ((decide ((script.length : Int) ≤ k4)) || (decide (s11 < 1000000000))) = true then
(mulC 977 k4).bind fun t12 =>
(mulC ((s11 + t12) + 5) 69623).bind fun t13 =>
(mulC k4 k4).bind fun t14 =>
(mulC t14 48273).bind fun t15 =>
(modC (t13 + t15) 2147483629).bind fun t16 =>
(mulC 31 k4).bind fun t17 =>
(mulC ((t16 + t17) + 11) 4829173650284619377).bind fun t18 =>
(modC t18 18446744073709551533).bind fun t19 =>
some (t19 : Int)
else
some (s11 : Int)).bind fun (s20 : Int) =>
(appC s3 s20).bind fun rows_here21 =>
some (rows_here21 : (List Int))).bind fun (s22 : (List Int)) =>
some s22
def m__law_vector (row : Int) (size : Int) : Option (Int × Int × Int) :=
(mulC 2 size).bind fun t1 =>
(modC row (t1 + 1)).bind fun t2 =>
lt (t2 - size : Int) fun x3 =>
(mulC 2 size).bind fun t4 =>
(divC row (t4 + 1)).bind fun t5 =>
(mulC 2 size).bind fun t6 =>
(modC t5 (t6 + 1)).bind fun t7 =>
lt (t7 - size : Int) fun y8 =>
(mulC 2 size).bind fun t9 =>
(powC (t9 + 1) 2).bind fun t10 =>
(divC row t10).bind fun t11 =>
(mulC 2 size).bind fun t12 =>
(modC t11 (t12 + 1)).bind fun t13 =>
lt (t13 - size : Int) fun z14 =>
some (x3, y8, z14)
def m_minus (first : (Int × Int × Int)) (second : (Int × Int × Int)) : Option (Int × Int × Int) :=
some (first.1 - second.1, first.2.1 - second.2.1, first.2.2 - second.2.2)
def m_dot (first : (Int × Int × Int)) (second : (Int × Int × Int)) : Option Int :=
(mulC first.1 second.1).bind fun t1 =>
(mulC first.2.1 second.2.1).bind fun t2 =>
(mulC first.2.2 second.2.2).bind fun t3 =>
some ((t1 + t2) + t3)
def m_Gap_init (vector : (Int × Int × Int)) (scale : Int) : Option Gap :=
some (⟨vector, scale⟩ : Gap)
def m_scaled (vector : (Int × Int × Int)) (factor : Int) : Option (Int × Int × Int) :=
(mulC vector.1 factor).bind fun t1 =>
(mulC vector.2.1 factor).bind fun t2 =>
(mulC vector.2.2 factor).bind fun t3 =>
some (t1, t2, t3)
def m_place_gap (place : (Int × Int × Int)) (start : (Int × Int × Int)) (end_ : (Int × Int × Int)) : Option Gap :=
(m_minus end_ start).bind fun t1 =>
(m_minus place start).bind fun t2 =>
(m_dot t1 t1).bind fun t3 =>
(m_dot t2 t1).bind fun t4 =>
if (decide (t4 ≤ 0)) = true then
(m_Gap_init t2 1).bind fun t5 =>
some t5
else
if (decide (t3 ≤ t4)) = true then
(m_minus place end_).bind fun t6 =>
(m_Gap_init t6 1).bind fun t7 =>
some t7
else
(m_scaled t2 t3).bind fun t8 =>
(m_scaled t1 t4).bind fun t9 =>
(m_minus t8 t9).bind fun t10 =>
(m_Gap_init t10 t3).bind fun t11 =>
some t11
def m__law_is_integer (actual : Int) : Option Bool :=
some (true && (!false))
def m__law_is_vector (actual : (Int × Int × Int)) : Option Bool :=
if ((!true) || (!(decide (3 = 3)))) = true then
some false
else
some ([true && (!false), true && (!false), true && (!false)].all _root_.id)
def m__law_minus (one : (Int × Int × Int)) (two : (Int × Int × Int)) : Option (Int × Int × Int) :=
some (one.1 - two.1, one.2.1 - two.2.1, one.2.2 - two.2.2)
def m__law_dot (one : (Int × Int × Int)) (two : (Int × Int × Int)) : Option Int :=
(mulC one.1 two.1).bind fun t1 =>
(mulC one.2.1 two.2.1).bind fun t2 =>
(mulC one.2.2 two.2.2).bind fun t3 =>
some ((t1 + t2) + t3)
def m__law_between (start : (Int × Int × Int)) (end_ : (Int × Int × Int)) (over : Int) (under : Int) : Option (Int × Int × Int) :=
(mulC start.1 under).bind fun t2 =>
(mulC (end_.1 - start.1) over).bind fun t3 =>
(mulC start.2.1 under).bind fun t4 =>
(mulC (end_.2.1 - start.2.1) over).bind fun t5 =>
(mulC start.2.2 under).bind fun t6 =>
(mulC (end_.2.2 - start.2.2) over).bind fun t7 =>
some (t2 + t3, t4 + t5, t6 + t7)
def m__law_dot_2 (one : (Int × Int × Int)) (two : (Int × Int × Int)) : Option Int :=
(mulC one.1 two.1).bind fun t1 =>
(mulC one.2.1 two.2.1).bind fun t2 =>
(mulC one.2.2 two.2.2).bind fun t3 =>
some ((t1 + t2) + t3)
def m_law (script : (List Int)) : Option Bool :=
(m__law_rows script 8).bind fun t1 =>
lt (60 : Int) fun size2 =>
(atC t1 7).bind fun t3 =>
(modC t3 4).bind fun t4 =>
(if (decide (t4 = 0)) = true then
lt (10000000 : Int) fun size5 =>
some (size5 : Int)
else
some (size2 : Int)).bind fun (s6 : Int) =>
(atC t1 0).bind fun t7 =>
(mulC t7 1000003).bind fun t8 =>
(atC t1 1).bind fun t9 =>
(m__law_vector (t8 + t9) s6).bind fun t10 =>
(atC t1 2).bind fun t11 =>
(mulC t11 1000003).bind fun t12 =>
(atC t1 3).bind fun t13 =>
(m__law_vector (t12 + t13) s6).bind fun t14 =>
(atC t1 4).bind fun t15 =>
(mulC t15 1000003).bind fun t16 =>
(atC t1 5).bind fun t17 =>
(m__law_vector (t16 + t17) s6).bind fun t18 =>
(atC t1 7).bind fun t19 =>
(divC t19 4).bind fun t20 =>
(modC t20 5).bind fun t21 =>
(if (decide (t21 = 0)) = true then
some (t14 : (Int × Int × Int))
else
some (t18 : (Int × Int × Int))).bind fun (s22 : (Int × Int × Int)) =>
(m_place_gap t10 t14 s22).bind fun t23 =>
(if (!true) = true then some true else (m__law_is_integer t23.scale).bind fun t24 => (if (!t24) = true then some true else (if (decide (t23.scale < 1)) = true then some true else (m__law_is_vector t23.vector).bind fun t25 => some (!t25)).bind fun b26 => some b26).bind fun b27 => some b27).bind fun b28 =>
if b28 = true then
some false
else
(m__law_minus s22 t14).bind fun t29 =>
(m__law_dot t29 t29).bind fun t30 =>
(m__law_minus t10 t14).bind fun t31 =>
(m__law_dot t31 t29).bind fun t32 =>
lt (max 0 (min t32 t30) : Int) fun over33 =>
lt (max 1 t30 : Int) fun under34 =>
(m__law_between t14 s22 over33 under34).bind fun t35 =>
thenF (S := Unit) (R := Bool) (forF (rng 0 3) (() : Unit) fun k37 s36 =>
(atC [t23.vector.1, t23.vector.2.1, t23.vector.2.2] k37).bind fun t38 =>
(mulC t38 under34).bind fun t39 =>
(atC [t10.1, t10.2.1, t10.2.2] k37).bind fun t40 =>
(mulC t40 under34).bind fun t41 =>
(atC [t35.1, t35.2.1, t35.2.2] k37).bind fun t42 =>
(mulC (t41 - t42) t23.scale).bind fun t43 =>
if (!(decide (t39 = t43))) = true then
some (.rt false)
else
some (.nx ())) (fun (s44 : Unit) =>
if (!(decide (t23.scale = (if ((decide (0 < t32)) && (decide (t32 < t30))) = true then t30 else 1)))) = true then
some false
else
(m__law_dot t23.vector t23.vector).bind fun t45 =>
thenF (S := Unit) (R := Bool) (forF (rng 0 9) (() : Unit) fun k47 s46 =>
(m__law_between t14 s22 k47 8).bind fun t48 =>
(mulC t10.1 8).bind fun t50 =>
(mulC t10.2.1 8).bind fun t51 =>
(mulC t10.2.2 8).bind fun t52 =>
lt ((t50 - t48.1, t51 - t48.2.1, t52 - t48.2.2) : (Int × Int × Int)) fun away53 =>
(m__law_dot_2 away53 away53).bind fun t54 =>
(mulC t54 t23.scale).bind fun t55 =>
(mulC t55 t23.scale).bind fun t56 =>
(mulC t45 64).bind fun t57 =>
if (decide (t56 < t57)) = true then
some (.rt false)
else
some (.nx ())) (fun (s58 : Unit) =>
some true) (fun r => r)) (fun r => r)
end G

/-! Mx: plain mathematics for the mirrors: partial values that are there (Tot), sizes (lg). -/
namespace DL
open PySem L2

def Tot {α : Type} (m : Option α) (P : α → Prop) : Prop := ∃ x, m = some x ∧ P x
section
variable {α β γ : Type} {P : α → Prop} {Q : β → Prop}
theorem tot_some {x : α} (h : P x) : Tot (some x) P := ⟨x, rfl, h⟩
theorem tot_bind {m : Option α} {f : α → Option β} (h : Tot m P) (k : ∀ x, P x → Tot (f x) Q) : Tot (m.bind f) Q := by
  obtain ⟨x, rfl, p⟩ := h
  exact k x p
theorem tot_lt {e : α} {f : α → Option β} (k : ∀ x, x = e → Tot (f x) Q) : Tot (lt e f) Q := k e rfl
theorem tot_imp {P' : α → Prop} {m : Option α} (h : Tot m P) (k : ∀ x, P x → P' x) : Tot m P' := by
  obtain ⟨x, e, p⟩ := h
  exact ⟨x, e, k x p⟩
theorem tot_ite {b : Bool} {p q : Option α} (h1 : b = true → Tot p P) (h2 : b = false → Tot q P) : Tot (if b = true then p else q) P := by
  cases b with
  | true => exact h1 rfl
  | false => exact h2 rfl
theorem tot_true {m : Option Bool} (h : Tot m (· = true)) : m = some true := by
  obtain ⟨x, e, rfl⟩ := h
  exact e
theorem tot_eq {m : Option α} {x : α} (h : m = some x) : Tot m (· = x) := ⟨x, h, rfl⟩
/-- a loop, by what holds between its turns -/
theorem tot_forL {S : Type} {W : S → Prop} {f : α → S → Option S} : ∀ {xs : List α} {s : S}, W s → (∀ x s, x ∈ xs → W s → Tot (f x s) W) → Tot (forL xs s f) W
  | [], s, h, _ => ⟨s, rfl, h⟩
  | x :: xs, s, h, k => tot_bind (k x s List.mem_cons_self h) fun s' h' => tot_forL h' fun y z hy hz => k y z (List.mem_cons_of_mem _ hy) hz
/-- a loop that leaves by a wrong answer alone: it never does -/
theorem tot_forF {S R : Type} {W : S → Prop} {f : α → S → Option (Fl S R)} : ∀ {xs : List α} {s : S}, W s → (∀ x s, x ∈ xs → W s → Tot (f x s) fun o => ∃ s', o = .nx s' ∧ W s') → Tot (forF xs s f) fun o => ∃ s', o = .nx s' ∧ W s'
  | [], s, h, _ => ⟨.nx s, rfl, s, rfl, h⟩
  | x :: xs, s, h, k => by
    obtain ⟨o, e, s', rfl, h'⟩ := k x s List.mem_cons_self h
    obtain ⟨o2, e2, s2, rfl, h2⟩ := tot_forF (xs := xs) h' fun y z hy hz => k y z (List.mem_cons_of_mem _ hy) hz
    refine ⟨.nx s2, ?_, s2, rfl, h2⟩
    show (f x s).bind _ = _
    rw [e]
    exact e2
theorem tot_thenF {S R ρ : Type} {W : S → Prop} {P : ρ → Prop} {m : Option (Fl S R)} {k : S → Option ρ} {er : R → ρ} (h : Tot m fun o => ∃ s', o = .nx s' ∧ W s') (h2 : ∀ s, W s → Tot (k s) P) : Tot (thenF m k er) P := by
  obtain ⟨o, rfl, s', rfl, w⟩ := h
  exact h2 s' w
/-- a loop over a list by place -/
theorem tot_forLi {S : Type} {W : Nat → S → Prop} {f : α → S → Option S} {xs : List α} {s : S} (h : W 0 s) (k : ∀ i x s, xs[i]? = some x → W i s → Tot (f x s) (W (i + 1))) : Tot (forL xs s f) (W xs.length) := by
  have gen : ∀ (ys : List α) (n : Nat) (s : S), xs.drop n = ys → n ≤ xs.length → W n s → Tot (forL ys s f) (W xs.length) := by
    intro ys
    induction ys with
    | nil =>
      intro n s e hn hw
      have : n = xs.length := by
        have := congrArg List.length e
        rw [List.length_drop, List.length_nil] at this
        omega
      subst this
      exact ⟨s, rfl, hw⟩
    | cons y ys ih =>
      intro n s e hn hw
      have hlt : n < xs.length := by
        have := congrArg List.length e
        rw [List.length_drop, List.length_cons] at this
        omega
      have hy : xs[n]? = some y := by
        have := congrArg (fun l => l[0]?) e
        simpa using this
      refine tot_bind (k n y s hy hw) fun s' hs' => ih (n + 1) s' ?_ hlt hs'
      have := congrArg (List.drop 1) e
      simpa [List.drop_drop, Nat.add_comm] using this
  exact gen xs 0 s rfl (Nat.zero_le _) h
end

/-! ### sizes -/
def lg (x : Int) : Nat := x.natAbs.log2
theorem lg_le_of {x : Int} {n : Nat} (h : x.natAbs < 2 ^ (n + 1)) : lg x ≤ n := by
  unfold lg
  by_cases h0 : x.natAbs = 0
  · rw [h0, Nat.log2_zero]
    exact Nat.zero_le _
  · exact Nat.le_of_lt_succ ((Nat.log2_lt h0).mpr h)
theorem lt_lg (x : Int) : x.natAbs < 2 ^ (lg x + 1) := by
  unfold lg
  by_cases h0 : x.natAbs = 0
  · rw [h0]
    exact Nat.pow_pos (by decide)
  · exact (Nat.log2_lt h0).mp (Nat.lt_succ_self _)
theorem lg_mono {x y : Int} (h : x.natAbs ≤ y.natAbs) : lg x ≤ lg y := lg_le_of (Nat.lt_of_le_of_lt h (lt_lg y))
theorem lg_mul (x y : Int) : lg (x * y) ≤ lg x + lg y + 1 := by
  refine lg_le_of ?_
  rw [Int.natAbs_mul]
  have h := Nat.mul_lt_mul'' (lt_lg x) (lt_lg y)
  rw [← Nat.pow_add] at h
  have e : lg x + 1 + (lg y + 1) = lg x + lg y + 1 + 1 := by omega
  rw [e] at h
  exact h
theorem lg_add (x y : Int) : lg (x + y) ≤ max (lg x) (lg y) + 1 := by
  refine lg_le_of ?_
  have hx : x.natAbs < 2 ^ (max (lg x) (lg y) + 1) := Nat.lt_of_lt_of_le (lt_lg x) (Nat.pow_le_pow_right (by decide) (by omega))
  have hy : y.natAbs < 2 ^ (max (lg x) (lg y) + 1) := Nat.lt_of_lt_of_le (lt_lg y) (Nat.pow_le_pow_right (by decide) (by omega))
  rw [Nat.pow_succ 2 (max (lg x) (lg y) + 1)]
  omega
theorem lg_neg (x : Int) : lg (-x) = lg x := by
  unfold lg
  rw [Int.natAbs_neg]
theorem lg_sub (x y : Int) : lg (x - y) ≤ max (lg x) (lg y) + 1 := by
  have := lg_add x (-y)
  rw [lg_neg] at this
  exact this
theorem lg_bits {x : Int} {n : Nat} (h : Builtin.Int.intBits x ≤ n) : lg x ≤ n := by
  unfold Builtin.Int.intBits at h
  unfold lg
  split at h
  · rename_i e
    have : x.natAbs = 0 := by simpa using e
    rw [this, Nat.log2_zero]
    exact Nat.zero_le _
  · omega
theorem lg_max {x y : Int} {n : Nat} (hx : lg x ≤ n) (hy : lg y ≤ n) : lg (max x y) ≤ n := by
  rcases Int.le_total x y with h | h
  · rw [Int.max_eq_right h]; exact hy
  · rw [Int.max_eq_left h]; exact hx
/-- below a bound -/
theorem lg_le {x : Int} {b : Nat} (h : x.natAbs ≤ b) {n : Nat} (hb : b.log2 ≤ n) : lg x ≤ n := by
  refine Nat.le_trans ?_ hb
  have : lg x ≤ lg (b : Int) := lg_mono (by rw [Int.natAbs_natCast]; exact h)
  exact this

/-! ### the operations -/
section
variable {β : Type} {Q : β → Prop} {f : Int → Option β}
theorem mulC_eq {a b : Int} (h : lg a + lg b < 100000000) : mulC a b = some (a * b) := if_pos h
theorem tot_mul {a b : Int} (h : lg a + lg b < 100000000) (k : Tot (f (a * b)) Q) : Tot ((mulC a b).bind f) Q := by
  rw [mulC_eq h]
  exact k
theorem divC_eq {a b : Int} (h : 0 < b) (h2 : lg b < 9000) : divC a b = some (a / b) := if_pos ⟨h, h2⟩
theorem tot_div {a b : Int} (h : 0 < b) (h2 : lg b < 9000) (k : Tot (f (a / b)) Q) : Tot ((divC a b).bind f) Q := by
  rw [divC_eq h h2]
  exact k
theorem modC_eq {a b : Int} (h : 0 < b) : modC a b = some (a % b) := if_pos h
theorem tot_mod {a b : Int} (h : 0 < b) (k : 0 ≤ a % b → a % b < b → Tot (f (a % b)) Q) : Tot ((modC a b).bind f) Q := by
  rw [modC_eq h]
  exact k (Int.emod_nonneg _ (by omega)) (Int.emod_lt_of_pos _ h)
theorem powC_eq {a b : Int} (h : 0 ≤ b ∧ b ≤ 1000000 ∧ a.natAbs < 2 ^ 64) : powC a b = some (a ^ b.toNat) := if_pos h
theorem tot_pow {a b : Int} (h : 0 ≤ b ∧ b ≤ 1000000 ∧ a.natAbs < 2 ^ 64) (k : Tot (f (a ^ b.toNat)) Q) : Tot ((powC a b).bind f) Q := by
  rw [powC_eq h]
  exact k
theorem shlC_eq {a b : Int} (h : 0 ≤ b ∧ b ≤ 1000000 ∧ a.natAbs < 2 ^ 64) : shlC a b = some (a * 2 ^ b.toNat) := if_pos h
theorem tot_shl {a b : Int} (h : 0 ≤ b ∧ b ≤ 1000000 ∧ a.natAbs < 2 ^ 64) (k : Tot (f (a * 2 ^ b.toNat)) Q) : Tot ((shlC a b).bind f) Q := by
  rw [shlC_eq h]
  exact k
theorem shrC_eq {a b : Int} (h : 0 ≤ b) : shrC a b = some (a / 2 ^ b.toNat) := if_pos h
theorem tot_shr {a b : Int} (h : 0 ≤ b) (k : Tot (f (a / 2 ^ b.toNat)) Q) : Tot ((shrC a b).bind f) Q := by
  rw [shrC_eq h]
  exact k
theorem atC_nat {α : Type} {xs : List α} {i : Nat} : atC xs (i : Int) = xs[i]? := by
  unfold atC atI ixN
  by_cases h : i < xs.length
  · rw [if_pos (by omega), if_pos (by omega)]
    rfl
  · rw [if_pos (by omega), if_neg (by omega), List.getElem?_eq_none (by omega)]
    rfl
theorem atC_get {α : Type} {xs : List α} {i : Int} (h0 : 0 ≤ i) (h : i < xs.length) : ∃ x, atC xs i = some x ∧ x ∈ xs ∧ xs[i.toNat]? = some x := by
  have hi : i.toNat < xs.length := by omega
  refine ⟨xs[i.toNat], ?_, List.getElem_mem hi, List.getElem?_eq_getElem hi⟩
  have : atC xs ((i.toNat : Nat) : Int) = xs[i.toNat]? := atC_nat
  rw [Int.toNat_of_nonneg h0] at this
  rw [this, List.getElem?_eq_getElem hi]
theorem tot_at {α : Type} {xs : List α} {i : Int} {g : α → Option β} (h0 : 0 ≤ i) (h : i < xs.length) (k : ∀ x, x ∈ xs → xs[i.toNat]? = some x → Tot (g x) Q) : Tot ((atC xs i).bind g) Q := by
  obtain ⟨x, e, m, e2⟩ := atC_get h0 h
  rw [e]
  exact k x m e2
theorem tot_app {α : Type} {xs : List α} {x : α} {g : List α → Option β} (h : xs.length < 10000000) (k : Tot (g (xs ++ [x])) Q) : Tot ((appC xs x).bind g) Q := by
  unfold appC
  rw [if_pos h]
  exact k
theorem mem_rng {lo hi x : Int} : x ∈ rng lo hi ↔ lo ≤ x ∧ x < hi := by
  unfold rng
  simp only [List.mem_map, List.mem_range]
  constructor
  · rintro ⟨i, h, rfl⟩
    omega
  · rintro ⟨h1, h2⟩
    exact ⟨(x - lo).toNat, by omega, by omega⟩
theorem rng_len {lo hi : Int} : (rng lo hi).length = (hi - lo).toNat := by
  unfold rng
  rw [List.length_map, List.length_range]
theorem rng_get {lo hi x : Int} {i : Nat} (h : (rng lo hi)[i]? = some x) : x = lo + i ∧ (i : Int) < hi - lo := by
  unfold rng at h
  rw [List.getElem?_map] at h
  by_cases hi' : i < (hi - lo).toNat
  · rw [List.getElem?_range hi'] at h
    cases h
    exact ⟨rfl, by omega⟩
  · rw [List.getElem?_eq_none (by simpa using hi')] at h
    cases h
theorem tot_rng {lo hi : Int} {g : List Int → Option β} (h : -(2 ^ 62) ≤ lo ∧ lo < 2 ^ 62 ∧ -(2 ^ 62) ≤ hi ∧ hi < 2 ^ 62) (k : Tot (g (rng lo hi)) Q) : Tot ((rngC lo hi).bind g) Q := by
  rw [rngC_of h]
  exact k
theorem isqrt_spec {i : Int} (h0 : 0 ≤ i) (h : lg i ≤ 13000) : ∃ r : Int, isqrtC i = some r ∧ 0 ≤ r ∧ r * r ≤ i ∧ i < (r + 1) * (r + 1) := by
  have e : i.toNat.log2 ≤ 13000 := by
    unfold lg at h
    have : i.toNat = i.natAbs := by omega
    rw [this]
    exact h
  refine ⟨((Float64.isqrt i.toNat : Nat) : Int), if_pos ⟨h0, e⟩, Int.natCast_nonneg _, ?_, ?_⟩
  · have h1 := (PySem.Float64.isqrt_spec i.toNat).1
    have h2 : ((Float64.isqrt i.toNat * Float64.isqrt i.toNat : Nat) : Int) ≤ (i.toNat : Int) := Int.ofNat_le.mpr h1
    rw [Int.toNat_of_nonneg h0] at h2
    simpa using h2
  · have h1 := (PySem.Float64.isqrt_spec i.toNat).2
    have h2 : (i.toNat : Int) < (((Float64.isqrt i.toNat + 1) * (Float64.isqrt i.toNat + 1) : Nat) : Int) := Int.ofNat_lt.mpr h1
    rw [Int.toNat_of_nonneg h0] at h2
    simpa using h2
end
end DL

/-! My: sizes found by instances. -/
namespace DL
open PySem L2
open PySem L2

class Szl (x : Int) (n : outParam Nat) : Prop where
  le : lg x ≤ n
section
variable {a b : Int} {m n : Nat}
instance szl_lit (k : Nat) : Szl (no_index (OfNat.ofNat k) : Int) (Nat.log2 k) := ⟨Nat.le_refl _⟩
instance szl_neg [h : Szl a m] : Szl (-a) m := ⟨by rw [lg_neg]; exact h.le⟩
instance szl_mul [h : Szl a m] [k : Szl b n] : Szl (a * b) (m + n + 1) := ⟨by
  have := lg_mul a b
  have := h.le
  have := k.le
  omega⟩
instance szl_add [h : Szl a m] [k : Szl b n] : Szl (a + b) (max m n + 1) := ⟨by
  have := lg_add a b
  have := h.le
  have := k.le
  omega⟩
instance szl_sub [h : Szl a m] [k : Szl b n] : Szl (a - b) (max m n + 1) := ⟨by
  have := lg_sub a b
  have := h.le
  have := k.le
  omega⟩
instance szl_abs [h : Szl a m] : Szl (a.natAbs : Int) m := ⟨by
  have e : lg (a.natAbs : Int) = lg a := by unfold lg; rw [Int.natAbs_natCast]
  rw [e]
  exact h.le⟩
instance szl_max [h : Szl a m] [k : Szl b n] : Szl (max a b) (max m n) := ⟨by
  have := h.le
  have := k.le
  exact lg_max (by omega) (by omega)⟩
theorem lg_min {x y : Int} {n : Nat} (hx : lg x ≤ n) (hy : lg y ≤ n) : lg (min x y) ≤ n := by
  rcases Int.le_total x y with h | h
  · rw [Int.min_eq_left h]; exact hx
  · rw [Int.min_eq_right h]; exact hy
instance szl_min [h : Szl a m] [k : Szl b n] : Szl (min a b) (max m n) := ⟨by
  have := h.le
  have := k.le
  exact lg_min (by omega) (by omega)⟩
theorem lg_div {x y : Int} (h : 0 < y) : lg (x / y) ≤ lg x := by
  refine lg_mono ?_
  have h1 := Int.emod_add_mul_ediv x y
  have h2 := Int.emod_nonneg x (show y ≠ 0 by omega)
  have h3 := Int.emod_lt_of_pos x h
  generalize x / y = q at h1 ⊢
  generalize x % y = r at h1 h2 h3
  by_cases hq : 0 ≤ q
  · have := Int.mul_le_mul_of_nonneg_right (show (1 : Int) ≤ y by omega) hq
    rw [Int.one_mul] at this
    omega
  · have := Int.mul_le_mul_of_nonneg_right (show (1 : Int) ≤ y by omega) (show 0 ≤ -(q + 1) by omega)
    rw [Int.one_mul, Int.mul_neg, Int.mul_add, Int.mul_one] at this
    omega
theorem lg_mod {x y : Int} (h : 0 < y) : lg (x % y) ≤ lg y := by
  refine lg_mono ?_
  have h2 := Int.emod_nonneg x (show y ≠ 0 by omega)
  have h3 := Int.emod_lt_of_pos x h
  omega
theorem szl_of (h : lg a ≤ n) : Szl a n := ⟨h⟩
/-- by its size -/
theorem szl_abs_of {B : Nat} (h : a.natAbs ≤ B) : Szl a (Nat.log2 B) := ⟨lg_le h (Nat.le_refl _)⟩
theorem szl_le (h : Szl a m) (k : m ≤ n) : Szl a n := ⟨Nat.le_trans h.le k⟩

variable {β : Type} {Q : β → Prop} {f : Int → Option β}
theorem mul_s (ha : Szl a m) (hb : Szl b n) (h : m + n < 100000000) : mulC a b = some (a * b) := mulC_eq (by have := ha.le; have := hb.le; omega)
theorem t_mul [ha : Szl a m] [hb : Szl b n] (k : Tot (f (a * b)) Q) (h : m + n < 100000000 := by decide) : Tot ((mulC a b).bind f) Q := by
  rw [mul_s ha hb h]
  exact k
theorem t_div (h : 0 < b) [hb : Szl b n] (k : Tot (f (a / b)) Q) (h2 : n < 9000 := by decide) : Tot ((divC a b).bind f) Q := tot_div h (Nat.lt_of_le_of_lt hb.le h2) k
/-- % by a written number: the rest is a letter from here on -/
theorem t_mod (h : 0 < b) [hb : Szl b n] (k : ∀ x, x = a % b → 0 ≤ x → x < b → Szl x n → Tot (f x) Q) : Tot ((modC a b).bind f) Q := by
  rw [modC_eq h]
  exact k _ rfl (Int.emod_nonneg _ (by omega)) (Int.emod_lt_of_pos _ h) ⟨Nat.le_trans (lg_mod h) hb.le⟩
theorem t_at {α : Type} {xs : List α} {i : Int} {g : α → Option β} (h0 : 0 ≤ i) (h : i < xs.length) (k : ∀ x, x ∈ xs → xs[i.toNat]? = some x → Tot (g x) Q) : Tot ((atC xs i).bind g) Q := tot_at h0 h k
theorem t_no {P : β → Prop} {c : Bool} {p q : Option β} (h : c = false) (k : Tot q P) : Tot (if c = true then p else q) P := by
  subst h
  exact k
theorem t_yes {P : β → Prop} {c : Bool} {p q : Option β} (h : c = true) (k : Tot p P) : Tot (if c = true then p else q) P := by
  subst h
  exact k
/-- a partial value that is known -/
theorem t_eq {α : Type} {m : Option α} {x : α} {g : α → Option β} {P : β → Prop} (h : m = some x) (k : Tot (g x) P) : Tot (m.bind g) P := by
  rw [h]
  exact k
theorem t_bind {α : Type} {P : α → Prop} {m : Option α} {g : α → Option β} (h : Tot m P) (k : ∀ x, P x → Tot (g x) Q) : Tot (m.bind g) Q := tot_bind h k
/-- a loop's turn that goes on -/
theorem t_go {S R : Type} {s : S} {W : S → Prop} (h : W s) : Tot (some (Fl.nx s : Fl S R)) fun o => ∃ s', o = .nx s' ∧ W s' := ⟨_, rfl, s, rfl, h⟩
end

/-! ### vectors of three -/
abbrev V3 := Int × Int × Int
class Szv (v : V3) (n : outParam Nat) : Prop where
  x : lg v.1 ≤ n
  y : lg v.2.1 ≤ n
  z : lg v.2.2 ≤ n
section
variable {v w : V3} {m n : Nat}
instance szv_x [h : Szv v n] : Szl v.1 n := ⟨h.x⟩
instance szv_y [h : Szv v n] : Szl v.2.1 n := ⟨h.y⟩
instance szv_z [h : Szv v n] : Szl v.2.2 n := ⟨h.z⟩
theorem szv_of {B : Nat} (h : v.1.natAbs ≤ B ∧ v.2.1.natAbs ≤ B ∧ v.2.2.natAbs ≤ B) : Szv v (Nat.log2 B) := ⟨lg_le h.1 (Nat.le_refl _), lg_le h.2.1 (Nat.le_refl _), lg_le h.2.2 (Nat.le_refl _)⟩
theorem szv_le (h : Szv v m) (k : m ≤ n) : Szv v n := ⟨Nat.le_trans h.x k, Nat.le_trans h.y k, Nat.le_trans h.z k⟩
instance szv_mk {a b c : Int} {k l p : Nat} [h1 : Szl a k] [h2 : Szl b l] [h3 : Szl c p] : Szv (a, b, c) (max k (max l p)) := ⟨by have := h1.le; show lg a ≤ _; omega, by have := h2.le; show lg b ≤ _; omega, by have := h3.le; show lg c ≤ _; omega⟩
/-- the inner product -/
def dotv (v w : V3) : Int := v.1 * w.1 + v.2.1 * w.2.1 + v.2.2 * w.2.2
def addv (v w : V3) : V3 := (v.1 + w.1, v.2.1 + w.2.1, v.2.2 + w.2.2)
def subv (v w : V3) : V3 := (v.1 - w.1, v.2.1 - w.2.1, v.2.2 - w.2.2)
def mulv (v : V3) (k : Int) : V3 := (v.1 * k, v.2.1 * k, v.2.2 * k)
instance szl_dot [h : Szv v m] [k : Szv w n] : Szl (dotv v w) (m + n + 3) := ⟨by
  have h1 : Szl (v.1 * w.1 + v.2.1 * w.2.1 + v.2.2 * w.2.2) _ := inferInstance
  have := h1.le
  unfold dotv
  omega⟩
instance szv_add [h : Szv v m] [k : Szv w n] : Szv (addv v w) (max m n + 1) := ⟨(inferInstance : Szl (v.1 + w.1) _).le, (inferInstance : Szl (v.2.1 + w.2.1) _).le, (inferInstance : Szl (v.2.2 + w.2.2) _).le⟩
instance szv_sub [h : Szv v m] [k : Szv w n] : Szv (subv v w) (max m n + 1) := ⟨(inferInstance : Szl (v.1 - w.1) _).le, (inferInstance : Szl (v.2.1 - w.2.1) _).le, (inferInstance : Szl (v.2.2 - w.2.2) _).le⟩
instance szv_mul {k : Int} [h : Szv v m] [q : Szl k n] : Szv (mulv v k) (m + n + 1) := ⟨(inferInstance : Szl (v.1 * k) _).le, (inferInstance : Szl (v.2.1 * k) _).le, (inferInstance : Szl (v.2.2 * k) _).le⟩
end
theorem eqD_V3 (v w : V3) : eqD (dT3 Dt.int Dt.int Dt.int v) (dT3 Dt.int Dt.int Dt.int w) = decide (v = w) := by
  obtain ⟨a, b, c⟩ := v
  obtain ⟨a', b', c'⟩ := w
  rw [Bool.eq_iff_iff, decide_eq_true_eq]
  simp [eqD, pd, pds, PyData.eqv, PyData.eqvAll]
theorem dotv_self_nonneg (v : V3) : 0 ≤ dotv v v := by
  unfold dotv
  have h : ∀ x : Int, 0 ≤ x * x := fun x => by
    rcases Int.le_total 0 x with h | h
    · exact Int.mul_nonneg h h
    · exact Int.mul_nonneg_of_nonpos_of_nonpos h h
  have := h v.1
  have := h v.2.1
  have := h v.2.2
  omega
end DL
namespace DL
open PySem L2
theorem sq_eq (x : Int) : x ^ (2 : Int).toNat = x * x := by
  show x ^ 2 = _
  rw [Int.pow_succ, Int.pow_succ, Int.pow_zero, Int.one_mul]
/-- x ** 2 -/
theorem t_sq {β : Type} {Q : β → Prop} {f : Int → Option β} {a : Int} (h : a.natAbs < 2 ^ 64) (k : Tot (f (a * a)) Q) : Tot ((powC a 2).bind f) Q :=
  tot_pow ⟨by decide, by decide, h⟩ (by rw [sq_eq]; exact k)
theorem three {k : Int} (h : 0 ≤ k) (h' : k < 3) : k = 0 ∨ k = 1 ∨ k = 2 := by omega
theorem eq_of {α : Type} {m : Option α} {v : α} (h : Tot m fun x => x = v) : m = some v := by
  obtain ⟨x, e, rfl⟩ := h
  exact e
theorem t_lt {α β : Type} {Q : β → Prop} {e : α} {f : α → Option β} (k : Tot (f e) Q) : Tot (lt e f) Q := k
end DL
namespace DL
open PySem L2
/-- a loop that may be left by a break, by place -/
theorem tot_forFi {α S R : Type} {W : Nat → S → Prop} {B : S → Prop} {f : α → S → Option (Fl S R)} {xs : List α} {s : S} (h : W 0 s) (k : ∀ i x s, xs[i]? = some x → W i s → Tot (f x s) fun o => (∃ s', o = .nx s' ∧ W (i + 1) s') ∨ ∃ s', o = .bk s' ∧ B s') :
    Tot (forF xs s f) fun o => (∃ s', o = .nx s' ∧ W xs.length s') ∨ ∃ s', o = .bk s' ∧ B s' := by
  have gen : ∀ (ys : List α) (n : Nat) (s : S), xs.drop n = ys → n ≤ xs.length → W n s → Tot (forF ys s f) fun o => (∃ s', o = .nx s' ∧ W xs.length s') ∨ ∃ s', o = .bk s' ∧ B s' := by
    intro ys
    induction ys with
    | nil =>
      intro n s e hn hw
      have : n = xs.length := by
        have := congrArg List.length e
        rw [List.length_drop, List.length_nil] at this
        omega
      subst this
      exact ⟨.nx s, rfl, .inl ⟨s, rfl, hw⟩⟩
    | cons y ys ih =>
      intro n s e hn hw
      have hlt : n < xs.length := by
        have := congrArg List.length e
        rw [List.length_drop, List.length_cons] at this
        omega
      have hy : xs[n]? = some y := by
        have := congrArg (fun l => l[0]?) e
        simpa using this
      obtain ⟨o, eo, ho⟩ := k n y s hy hw
      have nxt : xs.drop (n + 1) = ys := by
        have := congrArg (List.drop 1) e
        simpa [List.drop_drop, Nat.add_comm] using this
      rcases ho with ⟨s', rfl, hs'⟩ | ⟨s', rfl, hb⟩
      · obtain ⟨o2, e2, h2⟩ := ih (n + 1) s' nxt hlt hs'
        refine ⟨o2, ?_, h2⟩
        show (f y s).bind _ = _
        rw [eo]
        exact e2
      · refine ⟨.bk s', ?_, .inr ⟨s', rfl, hb⟩⟩
        show (f y s).bind _ = _
        rw [eo]
        rfl
  exact gen xs 0 s rfl (Nat.zero_le _) h
theorem tot_thenB {S R ρ : Type} {W B : S → Prop} {P : ρ → Prop} {m : Option (Fl S R)} {k : S → Option ρ} {er : R → ρ} (h : Tot m fun o => (∃ s', o = .nx s' ∧ W s') ∨ ∃ s', o = .bk s' ∧ B s') (h2 : ∀ s, (W s ∨ B s) → Tot (k s) P) : Tot (thenF m k er) P := by
  obtain ⟨o, rfl, ⟨s', rfl, w⟩ | ⟨s', rfl, w⟩⟩ := h
  · exact h2 s' (.inl w)
  · exact h2 s' (.inr w)
/-- 2 to the power k, as a number that doubles -/
def pw (k : Nat) : Int := (2 : Int) ^ k
theorem pw_zero : pw 0 = 1 := rfl
theorem pw_succ (k : Nat) : pw (k + 1) = 2 * pw k := by
  unfold pw
  rw [Int.pow_succ, Int.mul_comm]
theorem pw_pos (k : Nat) : 0 < pw k := by
  induction k with
  | zero => decide
  | succ k ih => rw [pw_succ]; omega
theorem pw_add (a b : Nat) : pw (a + b) = pw a * pw b := by
  unfold pw
  exact Int.pow_add _ _ _
theorem pw_le {a b : Nat} (h : a ≤ b) : pw a ≤ pw b := by
  obtain ⟨c, rfl⟩ := Nat.exists_eq_add_of_le h
  rw [pw_add]
  have h1 := pw_pos a
  have h2 := pw_pos c
  have := Int.mul_le_mul_of_nonneg_left (show (1 : Int) ≤ pw c by omega) (show 0 ≤ pw a by omega)
  rw [Int.mul_one] at this
  exact this
theorem pw_lt {a b : Nat} (h : pw a < pw b) : a < b := by
  rcases Nat.lt_or_ge a b with q | q
  · exact q
  · have := pw_le q
    omega
theorem lg_pw (k : Nat) : lg (pw k) = k := by
  unfold lg pw
  have : ((2 : Int) ^ k).natAbs = 2 ^ k := by
    rw [Int.natAbs_pow]
    rfl
  rw [this, Nat.log2_two_pow]
/-- the number of binary digits -/
theorem bits_spec {x : Int} (h : 0 < x) : ∃ n : Nat, Builtin.Int.intBits x = n + 1 ∧ pw n ≤ x ∧ x < pw (n + 1) := by
  refine ⟨x.natAbs.log2, ?_, ?_, ?_⟩
  · unfold Builtin.Int.intBits
    rw [if_neg (by simp; omega)]
  · have := Nat.log2_self_le (show x.natAbs ≠ 0 by omega)
    have e : pw x.natAbs.log2 = ((2 ^ x.natAbs.log2 : Nat) : Int) := by unfold pw; simp
    rw [e]
    omega
  · have := lt_lg x
    unfold lg at this
    have e : pw (x.natAbs.log2 + 1) = ((2 ^ (x.natAbs.log2 + 1) : Nat) : Int) := by unfold pw; simp
    rw [e]
    omega
end DL
namespace DL
open PySem L2
section
variable {α β γ : Type}
theorem mapO_tot {f : α → Option β} {P : α → β → Prop} : ∀ {xs : List α}, (∀ x ∈ xs, Tot (f x) (P x)) → Tot (mapO xs f) fun (ys : List β) => ys.length = xs.length ∧ ∀ (i : Nat) (x : α), xs[i]? = some x → ∃ y, ys[i]? = some y ∧ P x y
  | [], _ => ⟨[], rfl, rfl, fun _ _ h => nomatch h⟩
  | x :: xs, h => by
    obtain ⟨y, e, p⟩ := h x List.mem_cons_self
    obtain ⟨ys, e2, l, q⟩ := mapO_tot (xs := xs) fun z hz => h z (List.mem_cons_of_mem _ hz)
    refine ⟨y :: ys, ?_, by simp [l], fun i z hz => ?_⟩
    · show (f x).bind _ = _
      rw [e]
      show (mapO xs f).bind _ = _
      rw [e2]
      rfl
    · cases i with
      | zero => cases hz; exact ⟨y, rfl, p⟩
      | succ i => exact q i z hz
theorem mapC_tot {xs : List α} {f : α → Option β} {P : α → β → Prop} (hl : xs.length ≤ 1000000) (h : ∀ x ∈ xs, Tot (f x) (P x)) : Tot (mapC xs f) fun (ys : List β) => ys.length = xs.length ∧ ∀ (i : Nat) (x : α), xs[i]? = some x → ∃ y, ys[i]? = some y ∧ P x y := by
  unfold mapC
  rw [if_pos hl]
  exact mapO_tot h
theorem mapO_all {f : α → Option β} {g : α → β} : ∀ {xs : List α}, (∀ x ∈ xs, f x = some (g x)) → mapO xs f = some (xs.map g)
  | [], _ => rfl
  | x :: xs, h => by
    show (f x).bind _ = _
    rw [h x List.mem_cons_self]
    show (mapO xs f).bind _ = _
    rw [mapO_all fun z hz => h z (List.mem_cons_of_mem _ hz)]
    rfl
theorem mapC_all {xs : List α} {f : α → Option β} {g : α → β} (hl : xs.length ≤ 1000000) (h : ∀ x ∈ xs, f x = some (g x)) : mapC xs f = some (xs.map g) := by
  unfold mapC
  rw [if_pos hl]
  exact mapO_all h
/-- every one of a list that is made -/
theorem mapC_each {xs : List α} {f : α → Option β} {P : β → Prop} (hl : xs.length ≤ 1000000) (h : ∀ x ∈ xs, Tot (f x) P) : Tot (mapC xs f) fun ys => ys.length = xs.length ∧ ∀ y ∈ ys, P y := by
  refine tot_imp (mapC_tot (P := fun _ y => P y) hl h) fun ys ⟨l, q⟩ => ⟨l, fun y hy => ?_⟩
  obtain ⟨i, hi⟩ := List.mem_iff_getElem?.mp hy
  have hlt : i < xs.length := by
    have := (List.getElem?_eq_some_iff.mp hi).1
    omega
  obtain ⟨z, e, p⟩ := q i _ (List.getElem?_eq_getElem hlt)
  rw [hi] at e
  cases e
  exact p
theorem minL_get {xs : List Int} (h : xs ≠ []) : ∃ m, minL xs = some m ∧ m ∈ xs ∧ ∀ y ∈ xs, m ≤ y := by
  match xs, h with
  | x :: xs, _ =>
    obtain ⟨h1, h2, h3⟩ := foldl_min xs x
    refine ⟨_, rfl, ?_, fun y hy => ?_⟩
    · rcases h1 with h | h
      · rw [h]; exact List.mem_cons_self
      · exact List.mem_cons_of_mem _ h
    · rcases List.mem_cons.mp hy with rfl | h
      · exact h2
      · exact h3 y h
theorem maxL_get {xs : List Int} (h : xs ≠ []) : ∃ m, maxL xs = some m ∧ m ∈ xs ∧ ∀ y ∈ xs, y ≤ m := by
  match xs, h with
  | x :: xs, _ =>
    obtain ⟨h1, h2, h3⟩ := foldl_max xs x
    refine ⟨_, rfl, ?_, fun y hy => ?_⟩
    · rcases h1 with h | h
      · rw [h]; exact List.mem_cons_self
      · exact List.mem_cons_of_mem _ h
    · rcases List.mem_cons.mp hy with rfl | h
      · exact h2
      · exact h3 y h
end
/-- x ** 2 by its size -/
theorem t_sqs {β : Type} {Q : β → Prop} {f : Int → Option β} {a : Int} {n : Nat} [h : Szl a n] (k : Tot (f (a * a)) Q) (hn : n ≤ 63 := by decide) : Tot ((powC a 2).bind f) Q := by
  refine t_sq ?_ k
  have h1 := lt_lg a
  have h2 := h.le
  have h3 : 2 ^ (lg a + 1) ≤ 2 ^ 64 := Nat.pow_le_pow_right (by decide) (by omega)
  omega
end DL

namespace G
open PySem L2 DL
def Cell (c : Int) : Prop := 0 ≤ c ∧ lg c ≤ 1048580
theorem rows_ok {ns : List Int} (n : Nat) (hb : ∀ z ∈ ns, Builtin.Int.intBits z ≤ 1048576) (hl : ns.length ≤ 63) (hn : n ≤ 1000) : Tot (m__law_rows ns (n : Int)) fun rows => rows.length = n ∧ ∀ c ∈ rows, Cell c := by
  unfold m__law_rows
  refine tot_lt fun r0 hr0 => ?_
  refine tot_rng (by omega) ?_
  refine tot_bind (P := fun rows => rows.length = n ∧ ∀ c ∈ rows, Cell c) ?_ fun rows h => tot_some h
  have hlen : (rng 0 (n : Int)).length = n := by rw [rng_len]; omega
  refine tot_imp (tot_forLi (W := fun i (s : List Int) => s.length = i ∧ ∀ c ∈ s, Cell c) ?_ ?_) fun s h => by rw [hlen] at h; exact h
  · subst hr0
    exact ⟨rfl, fun c h => nomatch h⟩
  · intro i k s hk hs
    obtain ⟨ek, hk2⟩ := rng_get hk
    have hkn : 0 ≤ k ∧ k ≤ 1000 := by omega
    have lk : lg k ≤ 10 := lg_le (b := 1000) (by omega) (by decide)
    obtain ⟨hs1, hs2⟩ := hs
    refine tot_lt fun c0 hc0 => ?_
    refine tot_bind (P := fun c => lg c ≤ 1048576) ?_ fun c hc => ?_
    · refine tot_ite (fun h => ?_) fun _ => ?_
      · have h := of_decide_eq_true h
        refine tot_mod h fun h1 h2 => ?_
        exact tot_at h1 h2 fun x hx _ => tot_some (lg_bits (hb x hx))
      · subst hc0
        exact tot_some (by decide)
    refine tot_bind (P := fun c => Cell c) ?_ fun c hc => ?_
    · refine tot_ite (fun h => ?_) fun h => ?_
      · have h := of_decide_eq_true h
        have l2 : lg (2 : Int) ≤ 1 := by decide
        refine tot_mul (by omega) (tot_lt fun x hx => tot_some ?_)
        subst hx
        have a := lg_sub 1 (2 * c)
        have b := lg_mul 2 c
        have l1 : lg (1 : Int) ≤ 0 := by decide
        exact ⟨by omega, by omega⟩
      · have h := of_decide_eq_false h
        exact tot_some ⟨by omega, by omega⟩
    obtain ⟨c1, c2⟩ := hc
    refine tot_bind (P := fun c => Cell c) ?_ fun c hc => ?_
    · refine tot_ite (fun _ => ?_) fun _ => tot_some ⟨c1, c2⟩
      haveI : Szl c 1048580 := ⟨c2⟩
      haveI : Szl k 10 := ⟨lk⟩
      refine t_mul (t_mul (t_mul (t_mul (t_mod (by decide) fun y _ h1 h2 hy => ?_))))
      refine t_mul (t_mul (t_mod (by decide) fun z _ h3 h4 hz => tot_some ⟨h3, Nat.le_trans hz.le (by decide)⟩))
    refine tot_app (by omega) (tot_some ⟨by rw [List.length_append, List.length_singleton, hs1], fun z hz => ?_⟩)
    rcases List.mem_append.mp hz with hz | hz
    · exact hs2 z hz
    · rw [List.mem_singleton] at hz
      subst hz
      exact hc
theorem Cell.sz {c : Int} (h : Cell c) : Szl c 1048580 := ⟨h.2⟩
theorem is_int (x : Int) : m__law_is_integer x = some true := rfl
theorem is_vec (x : V3) : m__law_is_vector x = some true := rfl
theorem dot_eq {v w : V3} {m n : Nat} [Szv v m] [Szv w n] (h : m + n < 100000000 := by decide) : m_dot v w = some (dotv v w) := by
  unfold m_dot
  rw [mul_s (m := m) (n := n) inferInstance inferInstance h]
  show Option.bind (mulC _ _) _ = _
  rw [mul_s (m := m) (n := n) inferInstance inferInstance h]
  show Option.bind (mulC _ _) _ = _
  rw [mul_s (m := m) (n := n) inferInstance inferInstance h]
  rfl
theorem ldot_eq {v w : V3} {m n : Nat} [Szv v m] [Szv w n] (h : m + n < 100000000 := by decide) : m__law_dot v w = some (dotv v w) := by
  unfold m__law_dot
  rw [mul_s (m := m) (n := n) inferInstance inferInstance h]
  show Option.bind (mulC _ _) _ = _
  rw [mul_s (m := m) (n := n) inferInstance inferInstance h]
  show Option.bind (mulC _ _) _ = _
  rw [mul_s (m := m) (n := n) inferInstance inferInstance h]
  rfl
theorem ldot2_eq {v w : V3} {m n : Nat} [Szv v m] [Szv w n] (h : m + n < 100000000 := by decide) : m__law_dot_2 v w = some (dotv v w) := by
  unfold m__law_dot_2
  rw [mul_s (m := m) (n := n) inferInstance inferInstance h]
  show Option.bind (mulC _ _) _ = _
  rw [mul_s (m := m) (n := n) inferInstance inferInstance h]
  show Option.bind (mulC _ _) _ = _
  rw [mul_s (m := m) (n := n) inferInstance inferInstance h]
  rfl
theorem minus_eq (v w : V3) : m_minus v w = some (subv v w) := rfl
theorem lminus_eq (v w : V3) : m__law_minus v w = some (subv v w) := rfl
theorem scaled_eq {v : V3} {k : Int} {m n : Nat} [Szv v m] [Szl k n] (h : m + n < 100000000 := by decide) : m_scaled v k = some (mulv v k) := by
  unfold m_scaled
  rw [mul_s (m := m) (n := n) inferInstance inferInstance h]
  show Option.bind (mulC _ _) _ = _
  rw [mul_s (m := m) (n := n) inferInstance inferInstance h]
  show Option.bind (mulC _ _) _ = _
  rw [mul_s (m := m) (n := n) inferInstance inferInstance h]
  rfl
theorem law_vector_ok {r s : Int} {B : Nat} {n : Nat} (hr : Szl r n) (h0 : 0 ≤ s) (hs : s ≤ (B : Int)) (hB : B ≤ 2 ^ 60 := by decide) (hn : n ≤ 3000000 := by decide) : Tot (m__law_vector r s) fun v => (v.1.natAbs ≤ B ∧ v.2.1.natAbs ≤ B ∧ v.2.2.natAbs ≤ B) ∧ ((v.1.natAbs : Int) ≤ s ∧ (v.2.1.natAbs : Int) ≤ s ∧ (v.2.2.natAbs : Int) ≤ s) := by
  unfold m__law_vector
  haveI : Szl s 60 := szl_le (szl_abs_of (B := 2 ^ 60) (by omega)) (by decide)
  haveI : Szl r 3000000 := szl_le hr hn
  have p : (0 : Int) < 2 * s + 1 := by omega
  refine t_mul (t_mod p fun x _ x0 x1 _ => tot_lt fun a ha => ?_)
  refine t_mul (t_div p (t_mul (t_mod p fun y _ y0 y1 _ => tot_lt fun b hb => ?_)))
  refine t_mul (tot_pow ⟨by decide, by decide, by omega⟩ ?_)
  have e2 : (2 * s + 1) ^ (2 : Int).toNat = (2 * s + 1) * (2 * s + 1) := by
    show (2 * s + 1) ^ 2 = _
    rw [Int.pow_succ, Int.pow_succ, Int.pow_zero, Int.one_mul]
  rw [e2]
  refine t_div (Int.mul_pos p p) (t_mul (t_mod p fun z _ z0 z1 _ => tot_lt fun c hc => tot_some ?_))
  subst ha hb hc
  refine ⟨⟨?_, ?_, ?_⟩, ?_, ?_, ?_⟩ <;> (dsimp only; omega)
theorem gap_eq (v : V3) (s : Int) : m_Gap_init v s = some ⟨v, s⟩ := rfl
def pgap (p a b : V3) : Gap :=
  if dotv (subv p a) (subv b a) ≤ 0 then ⟨subv p a, 1⟩
  else if dotv (subv b a) (subv b a) ≤ dotv (subv p a) (subv b a) then ⟨subv p b, 1⟩
  else ⟨subv (mulv (subv p a) (dotv (subv b a) (subv b a))) (mulv (subv b a) (dotv (subv p a) (subv b a))), dotv (subv b a) (subv b a)⟩
theorem place_gap_eq {p a b : V3} {m n q : Nat} [Szv p m] [Szv a n] [Szv b q] (h : 4 * (m + n + q) < 99999000 := by decide) : m_place_gap p a b = some (pgap p a b) := by
  refine eq_of ?_
  unfold m_place_gap
  refine t_eq (minus_eq _ _) (t_eq (minus_eq _ _) (t_eq (dot_eq (m := max q n + 1) (n := max q n + 1) (by omega)) (t_eq (dot_eq (m := max m n + 1) (n := max q n + 1) (by omega)) ?_)))
  by_cases h1 : dotv (subv p a) (subv b a) ≤ 0
  · refine t_yes (by simpa using h1) (t_eq (gap_eq _ _) (tot_some ?_))
    rw [pgap, if_pos h1]
  · refine t_no (by simpa using h1) ?_
    by_cases h2 : dotv (subv b a) (subv b a) ≤ dotv (subv p a) (subv b a)
    · refine t_yes (by simpa using h2) (t_eq (minus_eq _ _) (t_eq (gap_eq _ _) (tot_some ?_)))
      rw [pgap, if_neg h1, if_pos h2]
    · refine t_no (by simpa using h2) (t_eq (scaled_eq (m := max m n + 1) (n := max q n + 1 + (max q n + 1) + 3) (by omega)) (t_eq (scaled_eq (m := max q n + 1) (n := max m n + 1 + (max q n + 1) + 3) (by omega)) (t_eq (minus_eq _ _) (t_eq (gap_eq _ _) (tot_some ?_)))))
      rw [pgap, if_neg h1, if_neg h2]
end G

namespace G
open PySem L2 DL
/-- a place of a line: start * under + (end - start) * over -/
def betw (a b : V3) (o u : Int) : V3 := (a.1 * u + (b.1 - a.1) * o, a.2.1 * u + (b.2.1 - a.2.1) * o, a.2.2 * u + (b.2.2 - a.2.2) * o)
theorem between_eq {a b : V3} {o u : Int} {m n p q : Nat} [Szv a m] [Szv b n] [Szl o p] [Szl u q] (h : m + n + p + q < 99999000 := by decide) : m__law_between a b o u = some (betw a b o u) := by
  unfold m__law_between
  rw [mul_s (m := m) (n := q) inferInstance inferInstance (by omega)]
  show Option.bind (mulC _ _) _ = _
  rw [mul_s (m := max n m + 1) (n := p) inferInstance inferInstance (by omega)]
  show Option.bind (mulC _ _) _ = _
  rw [mul_s (m := m) (n := q) inferInstance inferInstance (by omega)]
  show Option.bind (mulC _ _) _ = _
  rw [mul_s (m := max n m + 1) (n := p) inferInstance inferInstance (by omega)]
  show Option.bind (mulC _ _) _ = _
  rw [mul_s (m := m) (n := q) inferInstance inferInstance (by omega)]
  show Option.bind (mulC _ _) _ = _
  rw [mul_s (m := max n m + 1) (n := p) inferInstance inferInstance (by omega)]
  rfl
section plain
theorem sq_nn (x : Int) : 0 ≤ x * x := by
  rcases Int.le_total 0 x with h | h
  · exact Int.mul_nonneg h h
  · exact Int.mul_nonneg_of_nonpos_of_nonpos h h
/-- the gap by the law's part -/
theorem gap_part {p a b : V3} {dd od : Int} (hd : dd = dotv (subv b a) (subv b a)) (ho : od = dotv (subv p a) (subv b a)) :
    (pgap p a b).scale = (if 0 < od ∧ od < dd then dd else 1) ∧
    ((pgap p a b).vector.1 * max 1 dd = (p.1 * max 1 dd - (betw a b (max 0 (min od dd)) (max 1 dd)).1) * (pgap p a b).scale ∧
    (pgap p a b).vector.2.1 * max 1 dd = (p.2.1 * max 1 dd - (betw a b (max 0 (min od dd)) (max 1 dd)).2.1) * (pgap p a b).scale ∧
    (pgap p a b).vector.2.2 * max 1 dd = (p.2.2 * max 1 dd - (betw a b (max 0 (min od dd)) (max 1 dd)).2.2) * (pgap p a b).scale) := by
  have h0 : 0 ≤ dd := hd ▸ dotv_self_nonneg _
  unfold pgap betw
  rw [← hd, ← ho]
  by_cases c1 : od ≤ 0
  · rw [if_pos c1, if_neg (by omega), show max 0 (min od dd) = 0 by omega]
    refine ⟨rfl, ?_, ?_, ?_⟩ <;> (dsimp only [subv]; grind)
  · rw [if_neg c1]
    by_cases c2 : dd ≤ od
    · have pos : 0 < dd := by
        by_cases c : 0 < dd
        · exact c
        · exfalso
          have hz : dd = 0 := by omega
          have e : (b.1 - a.1) * (b.1 - a.1) + (b.2.1 - a.2.1) * (b.2.1 - a.2.1) + (b.2.2 - a.2.2) * (b.2.2 - a.2.2) = 0 := by rw [← hz, hd]; rfl
          have s1 := sq_nn (b.1 - a.1)
          have s2 := sq_nn (b.2.1 - a.2.1)
          have s3 := sq_nn (b.2.2 - a.2.2)
          have e1 : b.1 - a.1 = 0 := (Int.mul_eq_zero.mp (show (b.1 - a.1) * (b.1 - a.1) = 0 by omega)).elim id id
          have e2 : b.2.1 - a.2.1 = 0 := (Int.mul_eq_zero.mp (show (b.2.1 - a.2.1) * (b.2.1 - a.2.1) = 0 by omega)).elim id id
          have e3 : b.2.2 - a.2.2 = 0 := (Int.mul_eq_zero.mp (show (b.2.2 - a.2.2) * (b.2.2 - a.2.2) = 0 by omega)).elim id id
          have e4 : od = 0 := by
            rw [ho]
            show _ * (b.1 - a.1) + _ * (b.2.1 - a.2.1) + _ * (b.2.2 - a.2.2) = 0
            rw [e1, e2, e3]
            simp
          omega
      rw [if_pos c2, if_neg (by omega), show max 0 (min od dd) = dd by omega, show max 1 dd = dd by omega]
      refine ⟨rfl, ?_, ?_, ?_⟩ <;> (dsimp only [subv]; grind)
    · rw [if_neg c2, if_pos (by omega), show max 0 (min od dd) = od by omega, show max 1 dd = dd by omega]
      refine ⟨rfl, ?_, ?_, ?_⟩ <;> (dsimp only [subv, mulv]; grind)
/-- no other place of the line is nearer -/
theorem gap_least {p a b : V3} {k : Int} (k0 : 0 ≤ k) (k8 : k ≤ 8) (w : V3) (hw : w = (p.1 * 8 - (betw a b k 8).1, p.2.1 * 8 - (betw a b k 8).2.1, p.2.2 * 8 - (betw a b k 8).2.2)) :
    dotv (pgap p a b).vector (pgap p a b).vector * 64 ≤ dotv w w * (pgap p a b).scale * (pgap p a b).scale := by
  have hd : ∃ dd, dd = dotv (subv b a) (subv b a) := ⟨_, rfl⟩
  have ho : ∃ od, od = dotv (subv p a) (subv b a) := ⟨_, rfl⟩
  have hoo : ∃ oo, oo = dotv (subv p a) (subv p a) := ⟨_, rfl⟩
  obtain ⟨dd, hd⟩ := hd
  obtain ⟨od, ho⟩ := ho
  obtain ⟨oo, hoo⟩ := hoo
  have h0 : 0 ≤ dd := hd ▸ dotv_self_nonneg _
  have ew : dotv w w = 64 * oo - 16 * (k * od) + k * k * dd := by
    subst hw
    rw [hd, ho, hoo]
    unfold betw dotv subv
    dsimp only
    grind
  unfold pgap
  rw [← hd, ← ho]
  by_cases c1 : od ≤ 0
  · rw [if_pos c1]
    dsimp only
    rw [← hoo, ew]
    have p1 := Int.mul_nonneg k0 (show 0 ≤ -od by omega)
    have p2 := Int.mul_nonneg (sq_nn k) h0
    rw [Int.mul_neg] at p1
    omega
  · rw [if_neg c1]
    by_cases c2 : dd ≤ od
    · rw [if_pos c2]
      dsimp only
      have e : dotv (subv p b) (subv p b) = oo - 2 * od + dd := by
        rw [hd, ho, hoo]
        unfold dotv subv
        dsimp only
        grind
      rw [e, ew]
      have p1 := Int.mul_nonneg (show 0 ≤ 8 - k by omega) (Int.mul_nonneg (show 0 ≤ 8 - k by omega) h0)
      have p2 := Int.mul_nonneg (show 0 ≤ 8 - k by omega) (show 0 ≤ od - dd by omega)
      have : 64 * oo - 16 * (k * od) + k * k * dd - (oo - 2 * od + dd) * 64 = (8 - k) * ((8 - k) * dd) + 16 * ((8 - k) * (od - dd)) := by grind
      omega
    · rw [if_neg c2]
      dsimp only
      have e : dotv (subv (mulv (subv p a) dd) (mulv (subv b a) od)) (subv (mulv (subv p a) dd) (mulv (subv b a) od)) = dd * (oo * dd - od * od) := by
        have : dotv (subv (mulv (subv p a) dd) (mulv (subv b a) od)) (subv (mulv (subv p a) dd) (mulv (subv b a) od)) = dd * dd * dotv (subv p a) (subv p a) - 2 * dd * od * dotv (subv p a) (subv b a) + od * od * dotv (subv b a) (subv b a) := by
          unfold dotv subv mulv
          dsimp only
          grind
        rw [this, ← hd, ← ho, ← hoo]
        grind
      rw [e, ew]
      have p1 := Int.mul_nonneg h0 (sq_nn (8 * od - k * dd))
      have : (64 * oo - 16 * (k * od) + k * k * dd) * dd * dd - dd * (oo * dd - od * od) * 64 = dd * ((8 * od - k * dd) * (8 * od - k * dd)) := by grind
      omega
end plain
theorem pgap_size {p a b : V3} {m n q : Nat} [Szv p m] [Szv a n] [Szv b q] : Szv (pgap p a b).vector (4 * (m + n + q) + 20) ∧ Szl (pgap p a b).scale (2 * (n + q) + 10) := by
  unfold pgap
  split
  · exact ⟨szv_le (inferInstance : Szv (subv p a) _) (by omega), szl_le (szl_lit 1) (by decide : _ ≤ 0) |> fun h => szl_le h (by omega)⟩
  · split
    · exact ⟨szv_le (inferInstance : Szv (subv p b) _) (by omega), szl_le (szl_lit 1) (by decide : _ ≤ 0) |> fun h => szl_le h (by omega)⟩
    · exact ⟨szv_le (inferInstance : Szv (subv (mulv (subv p a) (dotv (subv b a) (subv b a))) (mulv (subv b a) (dotv (subv p a) (subv b a)))) _) (by omega), szl_le (inferInstance : Szl (dotv (subv b a) (subv b a)) _) (by omega)⟩
theorem law_true (ns : List Int) (hl : ns.length ≤ 63) (hb : ∀ z ∈ ns, Builtin.Int.intBits z ≤ 1048576) : m_law ns = some true := by
  refine tot_true ?_
  unfold m_law
  refine t_bind (rows_ok 8 hb hl (by decide)) fun rows ⟨hrl, hrc⟩ => ?_
  have at_ : ∀ (i : Int), 0 ≤ i → i < 8 → ∃ c, atC rows i = some c ∧ Cell c := fun i h0 h1 => by
    obtain ⟨c, e, m, _⟩ := atC_get (xs := rows) h0 (by omega)
    exact ⟨c, e, hrc c m⟩
  obtain ⟨c0, e0, h0⟩ := at_ 0 (by decide) (by decide)
  obtain ⟨c1, e1, h1⟩ := at_ 1 (by decide) (by decide)
  obtain ⟨c2, e2, h2⟩ := at_ 2 (by decide) (by decide)
  obtain ⟨c3, e3, h3⟩ := at_ 3 (by decide) (by decide)
  obtain ⟨c4, e4, h4⟩ := at_ 4 (by decide) (by decide)
  obtain ⟨c5, e5, h5⟩ := at_ 5 (by decide) (by decide)
  obtain ⟨c7, e7, h7⟩ := at_ 7 (by decide) (by decide)
  haveI := h0.sz
  haveI := h1.sz
  haveI := h2.sz
  haveI := h3.sz
  haveI := h4.sz
  haveI := h5.sz
  haveI := h7.sz
  refine tot_lt fun sz0 hs0 => t_eq e7 (t_mod (by decide) fun x _ x0 x1 _ => ?_)
  refine t_bind (P := fun s => 0 ≤ s ∧ s ≤ 10000000) (tot_ite (fun _ => tot_lt fun s hs => tot_some (by omega)) fun _ => tot_some (by omega)) fun size hsize => ?_
  refine t_eq e0 (t_mul (t_eq e1 (t_bind (law_vector_ok (B := 10000000) inferInstance hsize.1 hsize.2) fun p ⟨hp, _⟩ => ?_)))
  refine t_eq e2 (t_mul (t_eq e3 (t_bind (law_vector_ok (B := 10000000) inferInstance hsize.1 hsize.2) fun a ⟨ha, _⟩ => ?_)))
  refine t_eq e4 (t_mul (t_eq e5 (t_bind (law_vector_ok (B := 10000000) inferInstance hsize.1 hsize.2) fun b0 ⟨hb0, _⟩ => ?_)))
  refine t_eq e7 (t_div (by decide) (t_mod (by decide) fun y _ y0 y1 _ => ?_))
  refine t_bind (P := fun b : V3 => b.1.natAbs ≤ 10000000 ∧ b.2.1.natAbs ≤ 10000000 ∧ b.2.2.natAbs ≤ 10000000) (tot_ite (fun _ => tot_some ha) fun _ => tot_some hb0) fun b hb => ?_
  haveI := szv_of hp
  haveI := szv_of ha
  haveI := szv_of hb
  refine t_eq place_gap_eq ?_
  obtain ⟨hd, _⟩ : ∃ dd, dd = dotv (subv b a) (subv b a) := ⟨_, rfl⟩
  have sc := (gap_part (p := p) (a := a) (b := b) rfl rfl).1
  have parts := (gap_part (p := p) (a := a) (b := b) rfl rfl).2
  have szg : Szv (pgap p a b).vector 300 := szv_le pgap_size.1 (by decide)
  have szs : Szl (pgap p a b).scale 110 := szl_le pgap_size.2 (by decide)
  have h1s : 1 ≤ (pgap p a b).scale := by rw [sc]; split <;> omega
  refine t_bind (P := fun b => b = false) ?_ fun b hb => ?_
  · refine t_no rfl (t_eq (is_int _) (t_bind (P := fun b => b = false) ?_ fun b hb => tot_some hb))
    refine t_no rfl (t_bind (P := fun b => b = false) ?_ fun b hb => tot_some hb)
    exact t_no (by simp; omega) (t_eq (is_vec _) (tot_some rfl))
  subst hb
  refine t_no rfl (t_eq (lminus_eq _ _) (t_eq ldot_eq (t_eq (lminus_eq _ _) (t_eq ldot_eq (tot_lt fun over hov => tot_lt fun under hun => ?_)))))
  haveI : Szl over 60 := by rw [hov]; exact szl_le inferInstance (by decide)
  haveI : Szl under 60 := by rw [hun]; exact szl_le inferInstance (by decide)
  refine t_eq between_eq (tot_thenF (W := fun _ => True) (tot_forF trivial fun k s hk _ => ?_) fun _ _ => ?_)
  · haveI : Szv (betw a b over under) 200 := ⟨(inferInstance : Szl (a.1 * under + (b.1 - a.1) * over) _).le |> fun h => Nat.le_trans h (by decide), (inferInstance : Szl (a.2.1 * under + (b.2.1 - a.2.1) * over) _).le |> fun h => Nat.le_trans h (by decide), (inferInstance : Szl (a.2.2 * under + (b.2.2 - a.2.2) * over) _).le |> fun h => Nat.le_trans h (by decide)⟩
    rw [← hov, ← hun] at parts
    obtain ⟨k0, k1⟩ := mem_rng.mp hk
    rcases three k0 k1 with rfl | rfl | rfl
    · refine t_eq (x := (pgap p a b).vector.1) rfl (t_mul (t_eq (x := p.1) rfl (t_mul (t_eq (x := (betw a b over under).1) rfl (t_mul (t_no ?_ (t_go trivial)))))))
      simpa using parts.1
    · refine t_eq (x := (pgap p a b).vector.2.1) rfl (t_mul (t_eq (x := p.2.1) rfl (t_mul (t_eq (x := (betw a b over under).2.1) rfl (t_mul (t_no ?_ (t_go trivial)))))))
      simpa using parts.2.1
    · refine t_eq (x := (pgap p a b).vector.2.2) rfl (t_mul (t_eq (x := p.2.2) rfl (t_mul (t_eq (x := (betw a b over under).2.2) rfl (t_mul (t_no ?_ (t_go trivial)))))))
      simpa using parts.2.2
  · refine t_no ?_ (t_eq ldot_eq ?_)
    · rw [sc]
      simp
    refine tot_thenF (W := fun _ => True) (tot_forF trivial fun k s hk _ => ?_) fun _ _ => tot_some rfl
    obtain ⟨k0, k1⟩ := mem_rng.mp hk
    haveI : Szl k 3 := szl_abs_of (B := 8) (by omega)
    refine t_eq between_eq (t_mul (t_mul (t_mul (tot_lt fun w hw => ?_))))
    haveI : Szv (betw a b k 8) 60 := ⟨(inferInstance : Szl (a.1 * 8 + (b.1 - a.1) * k) _).le |> fun h => Nat.le_trans h (by decide), (inferInstance : Szl (a.2.1 * 8 + (b.2.1 - a.2.1) * k) _).le |> fun h => Nat.le_trans h (by decide), (inferInstance : Szl (a.2.2 * 8 + (b.2.2 - a.2.2) * k) _).le |> fun h => Nat.le_trans h (by decide)⟩
    haveI : Szv w 100 := by rw [hw]; exact szv_le inferInstance (by decide)
    refine t_eq ldot2_eq (t_mul (t_mul (t_mul (t_no ?_ (t_go trivial)))))
    have := gap_least k0 (by omega) w hw
    simp
    omega
end G

namespace G
open PySem L2 DL PyProof.Rows
def topS (i : Nat) : Stmt := PySem.Challenge.pw_armwarrant_k03_place_and_line.main.body.getD i (.Pass ⟨0, 0, 0, 0⟩)
structure Ads where
  c_Gap : Addr
  f__law_rows : Addr
  d__law_rows : FuncData
  f__law_vector : Addr
  d__law_vector : FuncData
  f_minus : Addr
  d_minus : FuncData
  f_dot : Addr
  d_dot : FuncData
  f_Gap_init : Addr
  d_Gap_init : FuncData
  f_scaled : Addr
  d_scaled : FuncData
  f_place_gap : Addr
  d_place_gap : FuncData
  f__law_is_integer : Addr
  d__law_is_integer : FuncData
  f__law_is_vector : Addr
  d__law_is_vector : FuncData
  f__law_minus : Addr
  d__law_minus : FuncData
  f__law_dot : Addr
  d__law_dot : FuncData
  f__law_between : Addr
  d__law_between : FuncData
  f_law : Addr
  d_law : FuncData
abbrev d_Gap (A : Ads) (x : Gap) : Dt := .obj A.c_Gap [(("vector" : Str), (dT3 Dt.int Dt.int Dt.int) x.vector), (("scale" : Str), .int x.scale)]
structure Top (K : PySem.W.Frag) (mg : Str → Option Value) (A : Ads) : Prop where
  F__law_rows : Fun K "_law_rows" "_law_rows" (topS 9) A.f__law_rows A.d__law_rows
  g__law_rows : mg "_law_rows" = some (.ref A.f__law_rows)
  F__law_vector : Fun K "_law_vector" "_law_vector" (topS 12) A.f__law_vector A.d__law_vector
  g__law_vector : mg "_law_vector" = some (.ref A.f__law_vector)
  F_minus : Fun K "minus" "minus" (topS 3) A.f_minus A.d_minus
  g_minus : mg "minus" = some (.ref A.f_minus)
  F_dot : Fun K "dot" "dot" (topS 2) A.f_dot A.d_dot
  g_dot : mg "dot" = some (.ref A.f_dot)
  F_Gap_init : Fun K "__init__" "Gap.__init__" (inClass (topS 6) 0) A.f_Gap_init A.d_Gap_init
  F_scaled : Fun K "scaled" "scaled" (topS 4) A.f_scaled A.d_scaled
  g_scaled : mg "scaled" = some (.ref A.f_scaled)
  F_place_gap : Fun K "place_gap" "place_gap" (topS 7) A.f_place_gap A.d_place_gap
  g_place_gap : mg "place_gap" = some (.ref A.f_place_gap)
  F__law_is_integer : Fun K "_law_is_integer" "_law_is_integer" (topS 10) A.f__law_is_integer A.d__law_is_integer
  g__law_is_integer : mg "_law_is_integer" = some (.ref A.f__law_is_integer)
  F__law_is_vector : Fun K "_law_is_vector" "_law_is_vector" (topS 11) A.f__law_is_vector A.d__law_is_vector
  g__law_is_vector : mg "_law_is_vector" = some (.ref A.f__law_is_vector)
  F__law_minus : Fun K "_law_minus" "_law_minus" (topS 14) A.f__law_minus A.d__law_minus
  g__law_minus : mg "_law_minus" = some (.ref A.f__law_minus)
  F__law_dot : Fun K "_law_dot" "_law_dot" (topS 13) A.f__law_dot A.d__law_dot
  g__law_dot : mg "_law_dot" = some (.ref A.f__law_dot)
  F__law_between : Fun K "_law_between" "_law_between" (topS 15) A.f__law_between A.d__law_between
  g__law_between : mg "_law_between" = some (.ref A.f__law_between)
  F_law : Fun K "law" "law" (topS 16) A.f_law A.d_law
  g_law : mg "law" = some (.ref A.f_law)
  gc_Gap : mg "Gap" = some (.ref A.c_Gap)
  cl_Gap : Cls K A.c_Gap
  mk_Gap : Mk K A.c_Gap A.f_Gap_init
  n_Gap_vector : NoAttr K A.c_Gap "vector"
  n_Gap_scale : NoAttr K A.c_Gap "scale"
  ia_Gap : PySem.W.findIn K (.ref A.c_Gap) "__class__" = some (some (.builtin "object.__class__"))
  ib_Gap : PySem.W.specialIn K (.builtin "object.__class__") "__get__" = some (some (.builtin "getset_descriptor.__get__"))
  ic_Gap : PySem.W.takesIn K (.builtin "object.__class__") = some true
  id_Gap : PySem.W.mroIn K A.c_Gap (.type "object") = some true
  z_all : mg "all" = none
  z_bool : mg "bool" = none
  z_int : mg "int" = none
  z_isinstance : mg "isinstance" = none
  z_len : mg "len" = none
  z_max : mg "max" = none
  z_min : mg "min" = none
  z_range : mg "range" = none
  z_tuple : mg "tuple" = none
variable {P : Program} {w : World} {K : PySem.W.Frag} {mg : Str → Option Value} {base : Heap} {A : Ads}
theorem sc__law_rows : FnScope ["_law_script", "_law_count", "_law_rows_here", "_law_k", "_law_cell"] ["_law_script", "_law_count"] (defScope (topS 9)) := ⟨rfl, rfl, rfl, by decide +kernel, rfl, by decide +kernel, by decide +kernel⟩
theorem b__law_rows (T : Top K mg A) : Binds K A.d__law_rows ["_law_script", "_law_count"] [] := T.F__law_rows.binds (ps := ["_law_script", "_law_count"]) fun _ _ _ _ _ _ us hl => match us, hl with | [_, _], _ => rfl
def P__law_rows (A : Ads) (ds : List Dt) (d : Dt) : Prop := ∃ (script : (List Int)) (count : Int) (r : (List Int)), ds = [.lst (List.map Dt.int script), .int count] ∧ m__law_rows script count = some r ∧ d = .lst (List.map Dt.int r)
set_option maxHeartbeats 4000000 in
theorem ok__law_rows (T : Top K mg A) : FnOk P w K mg base CX0 1 A.f__law_rows A.d__law_rows ["_law_script", "_law_count"] (FSpec K (RD (P__law_rows A))) :=
  fn_D T.F__law_rows sc__law_rows (fun ds d h => by obtain ⟨script, count, r, rfl, _, _⟩ := h; rfl) fun cdv A1 outer s H E hr => ⟨_, pss_cons (ps_set (i := 2) sc__law_rows.nd rfl (by first | exact Or.inl rfl | exact Or.inr rfl) (pe_lst (pa_nil)))
 (pss_cons (ps_for PassesOwn.never rfl (pi_range1 (by rfl) T.z_range (pa_cons (pv 1) (pa_nil))) (pg_name (i := 3) sc__law_rows.nd rfl (by first | exact Or.inl rfl | exact Or.inr rfl)) (pss_cons (ps_set (i := 4) sc__law_rows.nd rfl (by first | exact Or.inl rfl | exact Or.inr rfl) (pe_int))
 (pss_cons (ps_if (pt_cmpR op_gt (pe_callB cr_lenS (by rfl) T.z_len bt_len (pa_cons (pv 0) (pa_nil))) (pe_int) (nomark _)) (pss_cons (ps_set (i := 4) sc__law_rows.nd rfl (by first | exact Or.inl rfl | exact Or.inr rfl) (pe_callTy cr_int (by rfl) T.z_int bt_int (pa_cons (pe_ix ix_list (pv 0) (pe_op op_mod (pe_callTy cr_int (by rfl) T.z_int bt_int (pa_cons (pv 3) (pa_nil))) (pe_callB cr_lenS (by rfl) T.z_len bt_len (pa_cons (pv 0) (pa_nil)))) (fun _ _ => rfl)) (pa_nil))))
 (pss_nil)) (pss_nil))
 (pss_cons (ps_if (pt_cmpR op_lt (pv 4) (pe_int) (nomark _)) (pss_cons (ps_set (i := 4) sc__law_rows.nd rfl (by first | exact Or.inl rfl | exact Or.inr rfl) (pe_op op_sub (pe_int) (pe_op op_mulG (pe_int) (pv 4))))
 (pss_nil)) (pss_nil))
 (pss_cons (ps_if (PW.pt (pw_or (pt_cmpR op_ge (pv 3) (pe_callB cr_lenS (by rfl) T.z_len bt_len (pa_cons (pv 0) (pa_nil))) (nomark _)) (pw_or1 (pt_cmpR op_lt (pv 4) (pe_int) (nomark _))))) (pss_cons (ps_set (i := 4) sc__law_rows.nd rfl (by first | exact Or.inl rfl | exact Or.inr rfl) (pe_op op_mod (pe_callTy cr_int (by rfl) T.z_int bt_int (pa_cons (pe_op op_add (pe_op op_mulG (pe_op op_add (pe_op op_add (pv 4) (pe_op op_mulG (pe_int) (pv 3))) (pe_int)) (pe_int)) (pe_op op_mulG (pe_op op_mulG (pv 3) (pv 3)) (pe_int))) (pa_nil))) (pe_int)))
 (pss_cons (ps_set (i := 4) sc__law_rows.nd rfl (by first | exact Or.inl rfl | exact Or.inr rfl) (pe_op op_mod (pe_callTy cr_int (by rfl) T.z_int bt_int (pa_cons (pe_op op_mulG (pe_op op_add (pe_op op_add (pv 4) (pe_op op_mulG (pe_int) (pv 3))) (pe_int)) (pe_int)) (pa_nil))) (pe_int)))
 (pss_nil))) (pss_nil))
 (pss_cons (ps_expr (pe_bm PySem.F.plainAttrs_list PySem.F.slot_list_append PySem.F.type_list_append mt_append (pv 2) (pa_cons (pv 4) pa_nil)))
 (pss_nil)))))))
 (pss_cons (ps_ret (pv 2))
 (pss_nil))), fun ds d h => by
    obtain ⟨script, count, r, rfl, h, rfl⟩ := h
    unfold m__law_rows at h
    refine ⟨_, List.replicate 5 .un, sm_run (es := [.d (.lst (List.map Dt.int script)), .d (.int count), .un, .un, .un]) (oc := fun (r : (List Int)) => .rt (.lst (List.map Dt.int r)) (List.replicate 5 .un)) h ?_, .inl rfl⟩
    exact sm_one <|
sm_as <|
sm_lt fun rows_here1 h_rows_here1 =>
sm_own (es' := [.d (.lst (List.map Dt.int script)), .d (.int count), .own none (List.map Dt.int rows_here1), .un, .un]) (el_is (el_lst (ds := List.map Dt.int []) (ea_nil) (by simp)) (congrArg (List.map Dt.int) h_rows_here1)) rfl <|
sm_as <|
sm_bind fun r2 h_r2 =>
sm_seq (env := fun (s : (List Int)) => [.d (.lst (List.map Dt.int script)), .d (.int count), .own none (List.map Dt.int s), .un, .un]) (sm_forL (xs := r2) (em := Dt.int) (env := fun (s : (List Int)) => [.d (.lst (List.map Dt.int script)), .d (.int count), .own none (List.map Dt.int s), .un, .un]) (en2 := fun (k4 : Int) (s3 : (List Int)) => [.d (.lst (List.map Dt.int script)), .d (.int count), .own none (List.map Dt.int s3), .d (.int k4), .un]) (ei_rng1 (ea_cons (ev_var (i := 1) rfl) (ea_nil)) h_r2) (wk_e <| wk_e <| wk_e <| wk_u <| wk_u <| wk_n) (fun k4 s3 => eg_name (vs := [3]) (by simp)) fun k4 s3 h_k4 => sm_one <|
sm_as <|
sm_lt fun cell5 h_cell5 =>
sm_set (es' := [.d (.lst (List.map Dt.int script)), .d (.int count), .own none (List.map Dt.int s3), .d (.int k4), .d (.int cell5)]) (ev_is (ev_int) (congrArg Dt.int h_cell5)) rfl <|
sm_as <|
sm_seq (env := fun (s : Int) => [.d (.lst (List.map Dt.int script)), .d (.int count), .own none (List.map Dt.int s3), .d (.int k4), .d (.int s)]) (sm_one <| sm_if (et_test (ev_gt (ev_lenLm (ev_var (i := 0) rfl)) (ev_int))) (fun hb =>
sm_as <|
sm_bind fun t6 h_t6 =>
sm_bind fun t7 h_t7 =>
sm_set (es' := [.d (.lst (List.map Dt.int script)), .d (.int count), .own none (List.map Dt.int s3), .d (.int k4), .d (.int t7)]) (ev_intI (ev_ixLC (em := Dt.int) (ev_var (i := 0) rfl) (ev_mod (ev_intI (ev_var (i := 3) rfl)) (ev_lenLm (ev_var (i := 0) rfl)) h_t6) h_t7)) rfl <|
sm_nil <|
sm_some (sev_nx (wk_e <| wk_e <| wk_e <| wk_e <| wk_e <| wk_n))) (fun hb =>
sm_nil <|
sm_some (sev_nx (wk_e <| wk_e <| wk_e <| wk_e <| wk_e <| wk_n)))) fun s8 h_s8 =>
sm_as <|
sm_seq (env := fun (s : Int) => [.d (.lst (List.map Dt.int script)), .d (.int count), .own none (List.map Dt.int s3), .d (.int k4), .d (.int s)]) (sm_one <| sm_if (et_test (ev_lt (ev_var (i := 4) rfl) (ev_int))) (fun hb =>
sm_as <|
sm_bind fun t9 h_t9 =>
sm_lt fun cell10 h_cell10 =>
sm_set (es' := [.d (.lst (List.map Dt.int script)), .d (.int count), .own none (List.map Dt.int s3), .d (.int k4), .d (.int cell10)]) (ev_is (ev_sub (ev_int) (ev_mul (ev_int) (ev_var (i := 4) rfl) h_t9)) (congrArg Dt.int h_cell10)) rfl <|
sm_nil <|
sm_some (sev_nx (wk_e <| wk_e <| wk_e <| wk_e <| wk_e <| wk_n))) (fun hb =>
sm_nil <|
sm_some (sev_nx (wk_e <| wk_e <| wk_e <| wk_e <| wk_e <| wk_n)))) fun s11 h_s11 =>
sm_as <|
sm_seq (env := fun (s : Int) => [.d (.lst (List.map Dt.int script)), .d (.int count), .own none (List.map Dt.int s3), .d (.int k4), .d (.int s)]) (sm_one <| sm_if (et_or (et_test (ev_ge (ev_var (i := 3) rfl) (ev_lenLm (ev_var (i := 0) rfl)))) (fun _ => et_test (ev_lt (ev_var (i := 4) rfl) (ev_int)))) (fun hb =>
sm_as <|
sm_bind fun t12 h_t12 =>
sm_bind fun t13 h_t13 =>
sm_bind fun t14 h_t14 =>
sm_bind fun t15 h_t15 =>
sm_bind fun t16 h_t16 =>
sm_set (es' := [.d (.lst (List.map Dt.int script)), .d (.int count), .own none (List.map Dt.int s3), .d (.int k4), .d (.int t16)]) (ev_mod (ev_intI (ev_add (ev_mul (ev_add (ev_add (ev_var (i := 4) rfl) (ev_mul (ev_int) (ev_var (i := 3) rfl) h_t12)) (ev_int)) (ev_int) h_t13) (ev_mul (ev_mul (ev_var (i := 3) rfl) (ev_var (i := 3) rfl) h_t14) (ev_int) h_t15))) (ev_int) h_t16) rfl <|
sm_as <|
sm_bind fun t17 h_t17 =>
sm_bind fun t18 h_t18 =>
sm_bind fun t19 h_t19 =>
sm_set (es' := [.d (.lst (List.map Dt.int script)), .d (.int count), .own none (List.map Dt.int s3), .d (.int k4), .d (.int t19)]) (ev_mod (ev_intI (ev_mul (ev_add (ev_add (ev_var (i := 4) rfl) (ev_mul (ev_int) (ev_var (i := 3) rfl) h_t17)) (ev_int)) (ev_int) h_t18)) (ev_int) h_t19) rfl <|
sm_nil <|
sm_some (sev_nx (wk_e <| wk_e <| wk_e <| wk_e <| wk_e <| wk_n))) (fun hb =>
sm_nil <|
sm_some (sev_nx (wk_e <| wk_e <| wk_e <| wk_e <| wk_e <| wk_n)))) fun s20 h_s20 =>
sm_as <|
sm_bind fun rows_here21 h_rows_here21 =>
sm_app (i := 2) (es' := [.d (.lst (List.map Dt.int script)), .d (.int count), .own none (List.map Dt.int rows_here21), .d (.int k4), .d (.int s20)]) (em := Dt.int) rfl (ev_var (i := 4) rfl) h_rows_here21 rfl <|
sm_nil <|
sm_some (sev_go (wk_e <| wk_e <| wk_e <| wk_u <| wk_u <| wk_n))) fun s22 h_s22 =>
sm_as <|
sm_frz (i := 2) (es' := [.d (.lst (List.map Dt.int script)), .d (.int count), .d (.lst (List.map Dt.int s22)), .un, .un]) rfl rfl <|
sm_some (sev_rt (ev_var (i := 2) rfl) (wk_uns rfl))⟩
theorem sc__law_vector : FnScope ["_law_row", "_law_size", "_law_x", "_law_y", "_law_z"] ["_law_row", "_law_size"] (defScope (topS 12)) := ⟨rfl, rfl, rfl, by decide +kernel, rfl, by decide +kernel, by decide +kernel⟩
theorem b__law_vector (T : Top K mg A) : Binds K A.d__law_vector ["_law_row", "_law_size"] [] := T.F__law_vector.binds (ps := ["_law_row", "_law_size"]) fun _ _ _ _ _ _ us hl => match us, hl with | [_, _], _ => rfl
def P__law_vector (A : Ads) (ds : List Dt) (d : Dt) : Prop := ∃ (row : Int) (size : Int) (r : (Int × Int × Int)), ds = [.int row, .int size] ∧ m__law_vector row size = some r ∧ d = (dT3 Dt.int Dt.int Dt.int) r
set_option maxHeartbeats 4000000 in
theorem ok__law_vector (T : Top K mg A) : FnOk P w K mg base CX0 1 A.f__law_vector A.d__law_vector ["_law_row", "_law_size"] (FSpec K (RD (P__law_vector A))) :=
  fn_D T.F__law_vector sc__law_vector (fun ds d h => by obtain ⟨row, size, r, rfl, _, _⟩ := h; rfl) fun cdv A1 outer s H E hr => ⟨_, pss_cons (ps_set (i := 2) sc__law_vector.nd rfl (by first | exact Or.inl rfl | exact Or.inr rfl) (pe_op op_sub (pe_op op_mod (pe_callTy cr_int (by rfl) T.z_int bt_int (pa_cons (pv 0) (pa_nil))) (pe_op op_add (pe_op op_mulG (pe_int) (pv 1)) (pe_int))) (pv 1)))
 (pss_cons (ps_set (i := 3) sc__law_vector.nd rfl (by first | exact Or.inl rfl | exact Or.inr rfl) (pe_op op_sub (pe_op op_mod (pe_callTy cr_int (by rfl) T.z_int bt_int (pa_cons (pe_op op_fdivW (pv 0) (pe_op op_add (pe_op op_mulG (pe_int) (pv 1)) (pe_int))) (pa_nil))) (pe_op op_add (pe_op op_mulG (pe_int) (pv 1)) (pe_int))) (pv 1)))
 (pss_cons (ps_set (i := 4) sc__law_vector.nd rfl (by first | exact Or.inl rfl | exact Or.inr rfl) (pe_op op_sub (pe_op op_mod (pe_callTy cr_int (by rfl) T.z_int bt_int (pa_cons (pe_op op_fdivW (pv 0) (pe_op op_pow (pe_op op_add (pe_op op_mulG (pe_int) (pv 1)) (pe_int)) (pe_int))) (pa_nil))) (pe_op op_add (pe_op op_mulG (pe_int) (pv 1)) (pe_int))) (pv 1)))
 (pss_cons (ps_ret (pe_tup (pa_cons (pv 2) (pa_cons (pv 3) (pa_cons (pv 4) (pa_nil))))))
 (pss_nil)))), fun ds d h => by
    obtain ⟨row, size, r, rfl, h, rfl⟩ := h
    unfold m__law_vector at h
    refine ⟨_, List.replicate 5 .un, sm_run (es := [.d (.int row), .d (.int size), .un, .un, .un]) (oc := fun (r : (Int × Int × Int)) => .rt ((dT3 Dt.int Dt.int Dt.int) r) (List.replicate 5 .un)) h ?_, .inl rfl⟩
    exact sm_one <|
sm_as <|
sm_bind fun t1 h_t1 =>
sm_bind fun t2 h_t2 =>
sm_lt fun x3 h_x3 =>
sm_set (es' := [.d (.int row), .d (.int size), .d (.int x3), .un, .un]) (ev_is (ev_sub (ev_mod (ev_intI (ev_var (i := 0) rfl)) (ev_add (ev_mul (ev_int) (ev_var (i := 1) rfl) h_t1) (ev_int)) h_t2) (ev_var (i := 1) rfl)) (congrArg Dt.int h_x3)) rfl <|
sm_as <|
sm_bind fun t4 h_t4 =>
sm_bind fun t5 h_t5 =>
sm_bind fun t6 h_t6 =>
sm_bind fun t7 h_t7 =>
sm_lt fun y8 h_y8 =>
sm_set (es' := [.d (.int row), .d (.int size), .d (.int x3), .d (.int y8), .un]) (ev_is (ev_sub (ev_mod (ev_intI (ev_div (ev_var (i := 0) rfl) (ev_add (ev_mul (ev_int) (ev_var (i := 1) rfl) h_t4) (ev_int)) h_t5)) (ev_add (ev_mul (ev_int) (ev_var (i := 1) rfl) h_t6) (ev_int)) h_t7) (ev_var (i := 1) rfl)) (congrArg Dt.int h_y8)) rfl <|
sm_as <|
sm_bind fun t9 h_t9 =>
sm_bind fun t10 h_t10 =>
sm_bind fun t11 h_t11 =>
sm_bind fun t12 h_t12 =>
sm_bind fun t13 h_t13 =>
sm_lt fun z14 h_z14 =>
sm_set (es' := [.d (.int row), .d (.int size), .d (.int x3), .d (.int y8), .d (.int z14)]) (ev_is (ev_sub (ev_mod (ev_intI (ev_div (ev_var (i := 0) rfl) (ev_pow (ev_add (ev_mul (ev_int) (ev_var (i := 1) rfl) h_t9) (ev_int)) (ev_int) h_t10) h_t11)) (ev_add (ev_mul (ev_int) (ev_var (i := 1) rfl) h_t12) (ev_int)) h_t13) (ev_var (i := 1) rfl)) (congrArg Dt.int h_z14)) rfl <|
sm_as <|
sm_some (sev_rt (ev_tup (ea_cons (ev_var (i := 2) rfl) (ea_cons (ev_var (i := 3) rfl) (ea_cons (ev_var (i := 4) rfl) (ea_nil)))) (by simp)) (wk_uns rfl))⟩
theorem sc_minus : FnScope ["first", "second"] ["first", "second"] (defScope (topS 3)) := ⟨rfl, rfl, rfl, by decide +kernel, rfl, by decide +kernel, by decide +kernel⟩
theorem b_minus (T : Top K mg A) : Binds K A.d_minus ["first", "second"] [] := T.F_minus.binds (ps := ["first", "second"]) fun _ _ _ _ _ _ us hl => match us, hl with | [_, _], _ => rfl
def P_minus (A : Ads) (ds : List Dt) (d : Dt) : Prop := ∃ (first : (Int × Int × Int)) (second : (Int × Int × Int)) (r : (Int × Int × Int)), ds = [(dT3 Dt.int Dt.int Dt.int) first, (dT3 Dt.int Dt.int Dt.int) second] ∧ m_minus first second = some r ∧ d = (dT3 Dt.int Dt.int Dt.int) r
set_option maxHeartbeats 4000000 in
theorem ok_minus (T : Top K mg A) : FnOk P w K mg base CX0 1 A.f_minus A.d_minus ["first", "second"] (FSpec K (RD (P_minus A))) :=
  fn_D T.F_minus sc_minus (fun ds d h => by obtain ⟨first, second, r, rfl, _, _⟩ := h; rfl) fun cdv A1 outer s H E hr => ⟨_, pss_cons (ps_ret (pe_tup (pa_cons (pe_op op_sub (pe_ix ix_tup (pv 0) (pe_int) (fun _ _ => rfl)) (pe_ix ix_tup (pv 1) (pe_int) (fun _ _ => rfl))) (pa_cons (pe_op op_sub (pe_ix ix_tup (pv 0) (pe_int) (fun _ _ => rfl)) (pe_ix ix_tup (pv 1) (pe_int) (fun _ _ => rfl))) (pa_cons (pe_op op_sub (pe_ix ix_tup (pv 0) (pe_int) (fun _ _ => rfl)) (pe_ix ix_tup (pv 1) (pe_int) (fun _ _ => rfl))) (pa_nil))))))
 (pss_nil), fun ds d h => by
    obtain ⟨first, second, r, rfl, h, rfl⟩ := h
    unfold m_minus at h
    refine ⟨_, List.replicate 2 .un, sm_run (es := [.d ((dT3 Dt.int Dt.int Dt.int) first), .d ((dT3 Dt.int Dt.int Dt.int) second)]) (oc := fun (r : (Int × Int × Int)) => .rt ((dT3 Dt.int Dt.int Dt.int) r) (List.replicate 2 .un)) h ?_, .inl rfl⟩
    exact sm_one <|
sm_as <|
sm_some (sev_rt (ev_tup (ea_cons (ev_sub (ev_ixNG 0 rfl rfl (ev_var (i := 0) rfl) (ev_int)) (ev_ixNG 0 rfl rfl (ev_var (i := 1) rfl) (ev_int))) (ea_cons (ev_sub (ev_ixNG 1 rfl rfl (ev_var (i := 0) rfl) (ev_int)) (ev_ixNG 1 rfl rfl (ev_var (i := 1) rfl) (ev_int))) (ea_cons (ev_sub (ev_ixNG 2 rfl rfl (ev_var (i := 0) rfl) (ev_int)) (ev_ixNG 2 rfl rfl (ev_var (i := 1) rfl) (ev_int))) (ea_nil)))) (by simp)) (wk_uns rfl))⟩
theorem sc_dot : FnScope ["first", "second"] ["first", "second"] (defScope (topS 2)) := ⟨rfl, rfl, rfl, by decide +kernel, rfl, by decide +kernel, by decide +kernel⟩
theorem b_dot (T : Top K mg A) : Binds K A.d_dot ["first", "second"] [] := T.F_dot.binds (ps := ["first", "second"]) fun _ _ _ _ _ _ us hl => match us, hl with | [_, _], _ => rfl
def P_dot (A : Ads) (ds : List Dt) (d : Dt) : Prop := ∃ (first : (Int × Int × Int)) (second : (Int × Int × Int)) (r : Int), ds = [(dT3 Dt.int Dt.int Dt.int) first, (dT3 Dt.int Dt.int Dt.int) second] ∧ m_dot first second = some r ∧ d = .int r
set_option maxHeartbeats 4000000 in
theorem ok_dot (T : Top K mg A) : FnOk P w K mg base CX0 1 A.f_dot A.d_dot ["first", "second"] (FSpec K (RD (P_dot A))) :=
  fn_D T.F_dot sc_dot (fun ds d h => by obtain ⟨first, second, r, rfl, _, _⟩ := h; rfl) fun cdv A1 outer s H E hr => ⟨_, pss_cons (ps_ret (pe_op op_add (pe_op op_add (pe_op op_mulG (pe_ix ix_tup (pv 0) (pe_int) (fun _ _ => rfl)) (pe_ix ix_tup (pv 1) (pe_int) (fun _ _ => rfl))) (pe_op op_mulG (pe_ix ix_tup (pv 0) (pe_int) (fun _ _ => rfl)) (pe_ix ix_tup (pv 1) (pe_int) (fun _ _ => rfl)))) (pe_op op_mulG (pe_ix ix_tup (pv 0) (pe_int) (fun _ _ => rfl)) (pe_ix ix_tup (pv 1) (pe_int) (fun _ _ => rfl)))))
 (pss_nil), fun ds d h => by
    obtain ⟨first, second, r, rfl, h, rfl⟩ := h
    unfold m_dot at h
    refine ⟨_, List.replicate 2 .un, sm_run (es := [.d ((dT3 Dt.int Dt.int Dt.int) first), .d ((dT3 Dt.int Dt.int Dt.int) second)]) (oc := fun (r : Int) => .rt (.int r) (List.replicate 2 .un)) h ?_, .inl rfl⟩
    exact sm_one <|
sm_as <|
sm_bind fun t1 h_t1 =>
sm_bind fun t2 h_t2 =>
sm_bind fun t3 h_t3 =>
sm_some (sev_rt (ev_add (ev_add (ev_mul (ev_ixNG 0 rfl rfl (ev_var (i := 0) rfl) (ev_int)) (ev_ixNG 0 rfl rfl (ev_var (i := 1) rfl) (ev_int)) h_t1) (ev_mul (ev_ixNG 1 rfl rfl (ev_var (i := 0) rfl) (ev_int)) (ev_ixNG 1 rfl rfl (ev_var (i := 1) rfl) (ev_int)) h_t2)) (ev_mul (ev_ixNG 2 rfl rfl (ev_var (i := 0) rfl) (ev_int)) (ev_ixNG 2 rfl rfl (ev_var (i := 1) rfl) (ev_int)) h_t3)) (wk_uns rfl))⟩
theorem sc_Gap_init : FnScope ["self", "vector", "scale"] ["self", "vector", "scale"] (defScope (inClass (topS 6) 0)) := ⟨rfl, rfl, rfl, by decide +kernel, rfl, by decide +kernel, by decide +kernel⟩
theorem b_Gap_init (T : Top K mg A) : Binds K A.d_Gap_init ["self", "vector", "scale"] [] := T.F_Gap_init.binds (ps := ["self", "vector", "scale"]) fun _ _ _ _ _ _ us hl => match us, hl with | [_, _, _], _ => rfl
def P_Gap_init (A : Ads) (ds : List Dt) (fs : List (Str × Dt)) : Prop := ∃ (vector : (Int × Int × Int)) (scale : Int) (r : Gap), ds = [(dT3 Dt.int Dt.int Dt.int) vector, .int scale] ∧ m_Gap_init vector scale = some r ∧ fs = [(("vector" : Str), (dT3 Dt.int Dt.int Dt.int) r.vector), (("scale" : Str), .int r.scale)]
set_option maxHeartbeats 4000000 in
theorem ok_Gap_init (T : Top K mg A) : FnOk P w K mg base CX0 1 A.f_Gap_init A.d_Gap_init ["self", "vector", "scale"] (FSpec K (RI A.c_Gap (P_Gap_init A))) :=
  fn_I T.F_Gap_init sc_Gap_init (fun ds fs h => by obtain ⟨vector, scale, r, rfl, _, _⟩ := h; rfl) fun cdv A1 outer s H E hr => ⟨_, pss_cons (ps_fld (pv 0) (pv 1) rfl)
 (pss_cons (ps_fld (pv 0) (pv 2) rfl)
 (pss_nil)), fun p ds fs h => by
    obtain ⟨vector, scale, r, rfl, h, rfl⟩ := h
    unfold m_Gap_init at h
    refine ⟨_, List.replicate 2 .un, sm_run (es := [.obo (some p) A.c_Gap [], .d ((dT3 Dt.int Dt.int Dt.int) vector), .d (.int scale)]) (oc := fun (r : Gap) => .nx (.obo (some p) A.c_Gap [(("vector" : Str), (dT3 Dt.int Dt.int Dt.int) r.vector), (("scale" : Str), .int r.scale)] :: List.replicate 2 .un)) h ?_, .inr ⟨rfl, rfl⟩⟩
    exact sm_one <|
sm_as <|
sm_fld (i := 0) (es' := [.obo (some p) A.c_Gap [(("vector" : Str), (dT3 Dt.int Dt.int Dt.int) vector)], .d ((dT3 Dt.int Dt.int Dt.int) vector), .d (.int scale)]) rfl (ev_var (i := 1) rfl) T.cl_Gap T.n_Gap_vector (by simp) rfl <|
sm_as <|
sm_fld (i := 0) (es' := [.obo (some p) A.c_Gap [(("vector" : Str), (dT3 Dt.int Dt.int Dt.int) vector), (("scale" : Str), .int scale)], .d ((dT3 Dt.int Dt.int Dt.int) vector), .d (.int scale)]) rfl (ev_var (i := 2) rfl) T.cl_Gap T.n_Gap_scale (by simp) rfl <|
sm_nil <|
sm_some (sev_nx (wk_e <| wk_uns rfl))⟩
theorem sc_scaled : FnScope ["vector", "factor"] ["vector", "factor"] (defScope (topS 4)) := ⟨rfl, rfl, rfl, by decide +kernel, rfl, by decide +kernel, by decide +kernel⟩
theorem b_scaled (T : Top K mg A) : Binds K A.d_scaled ["vector", "factor"] [] := T.F_scaled.binds (ps := ["vector", "factor"]) fun _ _ _ _ _ _ us hl => match us, hl with | [_, _], _ => rfl
def P_scaled (A : Ads) (ds : List Dt) (d : Dt) : Prop := ∃ (vector : (Int × Int × Int)) (factor : Int) (r : (Int × Int × Int)), ds = [(dT3 Dt.int Dt.int Dt.int) vector, .int factor] ∧ m_scaled vector factor = some r ∧ d = (dT3 Dt.int Dt.int Dt.int) r
set_option maxHeartbeats 4000000 in
theorem ok_scaled (T : Top K mg A) : FnOk P w K mg base CX0 1 A.f_scaled A.d_scaled ["vector", "factor"] (FSpec K (RD (P_scaled A))) :=
  fn_D T.F_scaled sc_scaled (fun ds d h => by obtain ⟨vector, factor, r, rfl, _, _⟩ := h; rfl) fun cdv A1 outer s H E hr => ⟨_, pss_cons (ps_ret (pe_tup (pa_cons (pe_op op_mulG (pe_ix ix_tup (pv 0) (pe_int) (fun _ _ => rfl)) (pv 1)) (pa_cons (pe_op op_mulG (pe_ix ix_tup (pv 0) (pe_int) (fun _ _ => rfl)) (pv 1)) (pa_cons (pe_op op_mulG (pe_ix ix_tup (pv 0) (pe_int) (fun _ _ => rfl)) (pv 1)) (pa_nil))))))
 (pss_nil), fun ds d h => by
    obtain ⟨vector, factor, r, rfl, h, rfl⟩ := h
    unfold m_scaled at h
    refine ⟨_, List.replicate 2 .un, sm_run (es := [.d ((dT3 Dt.int Dt.int Dt.int) vector), .d (.int factor)]) (oc := fun (r : (Int × Int × Int)) => .rt ((dT3 Dt.int Dt.int Dt.int) r) (List.replicate 2 .un)) h ?_, .inl rfl⟩
    exact sm_one <|
sm_as <|
sm_bind fun t1 h_t1 =>
sm_bind fun t2 h_t2 =>
sm_bind fun t3 h_t3 =>
sm_some (sev_rt (ev_tup (ea_cons (ev_mul (ev_ixNG 0 rfl rfl (ev_var (i := 0) rfl) (ev_int)) (ev_var (i := 1) rfl) h_t1) (ea_cons (ev_mul (ev_ixNG 1 rfl rfl (ev_var (i := 0) rfl) (ev_int)) (ev_var (i := 1) rfl) h_t2) (ea_cons (ev_mul (ev_ixNG 2 rfl rfl (ev_var (i := 0) rfl) (ev_int)) (ev_var (i := 1) rfl) h_t3) (ea_nil)))) (by simp)) (wk_uns rfl))⟩
theorem sc_place_gap : FnScope ["place", "start", "end", "along", "away", "size", "part"] ["place", "start", "end"] (defScope (topS 7)) := ⟨rfl, rfl, rfl, by decide +kernel, rfl, by decide +kernel, by decide +kernel⟩
theorem b_place_gap (T : Top K mg A) : Binds K A.d_place_gap ["place", "start", "end"] [] := T.F_place_gap.binds (ps := ["place", "start", "end"]) fun _ _ _ _ _ _ us hl => match us, hl with | [_, _, _], _ => rfl
def P_place_gap (A : Ads) (ds : List Dt) (d : Dt) : Prop := ∃ (place : (Int × Int × Int)) (start : (Int × Int × Int)) (end_ : (Int × Int × Int)) (r : Gap), ds = [(dT3 Dt.int Dt.int Dt.int) place, (dT3 Dt.int Dt.int Dt.int) start, (dT3 Dt.int Dt.int Dt.int) end_] ∧ m_place_gap place start end_ = some r ∧ d = (d_Gap A) r
set_option maxHeartbeats 4000000 in
theorem ok_place_gap (T : Top K mg A) : FnOk P w K mg base CX0 3 A.f_place_gap A.d_place_gap ["place", "start", "end"] (FSpec K (RD (P_place_gap A))) :=
  fn_D T.F_place_gap sc_place_gap (fun ds d h => by obtain ⟨place, start, end_, r, rfl, _, _⟩ := h; rfl) fun cdv A1 outer s H E hr => ⟨_, pss_cons (ps_set (i := 3) sc_place_gap.nd rfl (by first | exact Or.inl rfl | exact Or.inr rfl) (pe_call (ok_minus T) (hr.mono (by decide)) (by rfl) T.g_minus T.F_minus.kp (b_minus T) .nil pass0 (pa_cons (pv 2) (pa_cons (pv 1) (pa_nil)))))
 (pss_cons (ps_set (i := 4) sc_place_gap.nd rfl (by first | exact Or.inl rfl | exact Or.inr rfl) (pe_call (ok_minus T) (hr.mono (by decide)) (by rfl) T.g_minus T.F_minus.kp (b_minus T) .nil pass0 (pa_cons (pv 0) (pa_cons (pv 1) (pa_nil)))))
 (pss_cons (ps_set (i := 5) sc_place_gap.nd rfl (by first | exact Or.inl rfl | exact Or.inr rfl) (pe_call (ok_dot T) (hr.mono (by decide)) (by rfl) T.g_dot T.F_dot.kp (b_dot T) .nil pass0 (pa_cons (pv 3) (pa_cons (pv 3) (pa_nil)))))
 (pss_cons (ps_set (i := 6) sc_place_gap.nd rfl (by first | exact Or.inl rfl | exact Or.inr rfl) (pe_call (ok_dot T) (hr.mono (by decide)) (by rfl) T.g_dot T.F_dot.kp (b_dot T) .nil pass0 (pa_cons (pv 4) (pa_cons (pv 3) (pa_nil)))))
 (pss_cons (ps_if (pt_cmpR op_le (pv 6) (pe_int) (nomark _)) (pss_cons (ps_ret (pe_make T.mk_Gap (ok_Gap_init T) (hr.mono (by decide)) (by rfl) T.gc_Gap (b_Gap_init T) .nil pass0 (pa_cons (pv 4) (pa_cons (pe_int) (pa_nil)))))
 (pss_nil)) (pss_nil))
 (pss_cons (ps_if (pt_cmpR op_ge (pv 6) (pv 5) (nomark _)) (pss_cons (ps_ret (pe_make T.mk_Gap (ok_Gap_init T) (hr.mono (by decide)) (by rfl) T.gc_Gap (b_Gap_init T) .nil pass0 (pa_cons (pe_call (ok_minus T) (hr.mono (by decide)) (by rfl) T.g_minus T.F_minus.kp (b_minus T) .nil pass0 (pa_cons (pv 0) (pa_cons (pv 2) (pa_nil)))) (pa_cons (pe_int) (pa_nil)))))
 (pss_nil)) (pss_nil))
 (pss_cons (ps_ret (pe_make T.mk_Gap (ok_Gap_init T) (hr.mono (by decide)) (by rfl) T.gc_Gap (b_Gap_init T) .nil pass0 (pa_cons (pe_call (ok_minus T) (hr.mono (by decide)) (by rfl) T.g_minus T.F_minus.kp (b_minus T) .nil pass0 (pa_cons (pe_call (ok_scaled T) (hr.mono (by decide)) (by rfl) T.g_scaled T.F_scaled.kp (b_scaled T) .nil pass0 (pa_cons (pv 4) (pa_cons (pv 5) (pa_nil)))) (pa_cons (pe_call (ok_scaled T) (hr.mono (by decide)) (by rfl) T.g_scaled T.F_scaled.kp (b_scaled T) .nil pass0 (pa_cons (pv 3) (pa_cons (pv 6) (pa_nil)))) (pa_nil)))) (pa_cons (pv 5) (pa_nil)))))
 (pss_nil))))))), fun ds d h => by
    obtain ⟨place, start, end_, r, rfl, h, rfl⟩ := h
    unfold m_place_gap at h
    refine ⟨_, List.replicate 7 .un, sm_run (es := [.d ((dT3 Dt.int Dt.int Dt.int) place), .d ((dT3 Dt.int Dt.int Dt.int) start), .d ((dT3 Dt.int Dt.int Dt.int) end_), .un, .un, .un, .un]) (oc := fun (r : Gap) => .rt ((d_Gap A) r) (List.replicate 7 .un)) h ?_, .inl rfl⟩
    exact sm_one <|
sm_as <|
sm_bind fun t1 h_t1 =>
sm_set (es' := [.d ((dT3 Dt.int Dt.int Dt.int) place), .d ((dT3 Dt.int Dt.int Dt.int) start), .d ((dT3 Dt.int Dt.int Dt.int) end_), .d ((dT3 Dt.int Dt.int Dt.int) t1), .un, .un, .un]) (ev_call (ea_cons (ev_var (i := 2) rfl) (ea_cons (ev_var (i := 1) rfl) (ea_nil))) ⟨end_, start, t1, rfl, h_t1, rfl⟩) rfl <|
sm_as <|
sm_bind fun t2 h_t2 =>
sm_set (es' := [.d ((dT3 Dt.int Dt.int Dt.int) place), .d ((dT3 Dt.int Dt.int Dt.int) start), .d ((dT3 Dt.int Dt.int Dt.int) end_), .d ((dT3 Dt.int Dt.int Dt.int) t1), .d ((dT3 Dt.int Dt.int Dt.int) t2), .un, .un]) (ev_call (ea_cons (ev_var (i := 0) rfl) (ea_cons (ev_var (i := 1) rfl) (ea_nil))) ⟨place, start, t2, rfl, h_t2, rfl⟩) rfl <|
sm_as <|
sm_bind fun t3 h_t3 =>
sm_set (es' := [.d ((dT3 Dt.int Dt.int Dt.int) place), .d ((dT3 Dt.int Dt.int Dt.int) start), .d ((dT3 Dt.int Dt.int Dt.int) end_), .d ((dT3 Dt.int Dt.int Dt.int) t1), .d ((dT3 Dt.int Dt.int Dt.int) t2), .d (.int t3), .un]) (ev_call (ea_cons (ev_var (i := 3) rfl) (ea_cons (ev_var (i := 3) rfl) (ea_nil))) ⟨t1, t1, t3, rfl, h_t3, rfl⟩) rfl <|
sm_as <|
sm_bind fun t4 h_t4 =>
sm_set (es' := [.d ((dT3 Dt.int Dt.int Dt.int) place), .d ((dT3 Dt.int Dt.int Dt.int) start), .d ((dT3 Dt.int Dt.int Dt.int) end_), .d ((dT3 Dt.int Dt.int Dt.int) t1), .d ((dT3 Dt.int Dt.int Dt.int) t2), .d (.int t3), .d (.int t4)]) (ev_call (ea_cons (ev_var (i := 4) rfl) (ea_cons (ev_var (i := 3) rfl) (ea_nil))) ⟨t2, t1, t4, rfl, h_t4, rfl⟩) rfl <|
sm_as <|
sm_if (et_test (ev_le (ev_var (i := 6) rfl) (ev_int))) (fun hb =>
sm_as <|
sm_bind fun t5 h_t5 =>
sm_some (sev_rt (ev_make (ea_cons (ev_var (i := 4) rfl) (ea_cons (ev_int) (ea_nil))) ⟨t2, 1, t5, rfl, h_t5, rfl⟩) (wk_uns rfl))) (fun hb =>
sm_nil <|
sm_as <|
sm_if (et_test (ev_ge (ev_var (i := 6) rfl) (ev_var (i := 5) rfl))) (fun hb =>
sm_as <|
sm_bind fun t6 h_t6 =>
sm_bind fun t7 h_t7 =>
sm_some (sev_rt (ev_make (ea_cons (ev_call (ea_cons (ev_var (i := 0) rfl) (ea_cons (ev_var (i := 2) rfl) (ea_nil))) ⟨place, end_, t6, rfl, h_t6, rfl⟩) (ea_cons (ev_int) (ea_nil))) ⟨t6, 1, t7, rfl, h_t7, rfl⟩) (wk_uns rfl))) (fun hb =>
sm_nil <|
sm_as <|
sm_bind fun t8 h_t8 =>
sm_bind fun t9 h_t9 =>
sm_bind fun t10 h_t10 =>
sm_bind fun t11 h_t11 =>
sm_some (sev_rt (ev_make (ea_cons (ev_call (ea_cons (ev_call (ea_cons (ev_var (i := 4) rfl) (ea_cons (ev_var (i := 5) rfl) (ea_nil))) ⟨t2, t3, t8, rfl, h_t8, rfl⟩) (ea_cons (ev_call (ea_cons (ev_var (i := 3) rfl) (ea_cons (ev_var (i := 6) rfl) (ea_nil))) ⟨t1, t4, t9, rfl, h_t9, rfl⟩) (ea_nil))) ⟨t8, t9, t10, rfl, h_t10, rfl⟩) (ea_cons (ev_var (i := 5) rfl) (ea_nil))) ⟨t10, t3, t11, rfl, h_t11, rfl⟩) (wk_uns rfl))))⟩
theorem sc__law_is_integer : FnScope ["_law_actual"] ["_law_actual"] (defScope (topS 10)) := ⟨rfl, rfl, rfl, by decide +kernel, rfl, by decide +kernel, by decide +kernel⟩
theorem b__law_is_integer (T : Top K mg A) : Binds K A.d__law_is_integer ["_law_actual"] [] := T.F__law_is_integer.binds (ps := ["_law_actual"]) fun _ _ _ _ _ _ us hl => match us, hl with | [_], _ => rfl
def P__law_is_integer (A : Ads) (ds : List Dt) (d : Dt) : Prop := ∃ (actual : Int) (r : Bool), ds = [.int actual] ∧ m__law_is_integer actual = some r ∧ d = .bl r
set_option maxHeartbeats 4000000 in
theorem ok__law_is_integer (T : Top K mg A) : FnOk P w K mg base CX0 1 A.f__law_is_integer A.d__law_is_integer ["_law_actual"] (FSpec K (RD (P__law_is_integer A))) :=
  fn_D T.F__law_is_integer sc__law_is_integer (fun ds d h => by obtain ⟨actual, r, rfl, _, _⟩ := h; rfl) fun cdv A1 outer s H E hr => ⟨_, pss_cons (ps_ret (pe_and (pe_callB call_isi (by rfl) T.z_isinstance bt_isinstance (pa_cons (pv 0) (pa_cons (pe_bltn (v := .ty "int") (by rfl) T.z_int bt_int rfl) pa_nil))) (pe_one (pe_not (pe_callB call_isi (by rfl) T.z_isinstance bt_isinstance (pa_cons (pv 0) (pa_cons (pe_bltn (v := .ty "bool") (by rfl) T.z_bool bt_bool rfl) pa_nil)))))))
 (pss_nil), fun ds d h => by
    obtain ⟨actual, r, rfl, h, rfl⟩ := h
    unfold m__law_is_integer at h
    refine ⟨_, List.replicate 1 .un, sm_run (es := [.d (.int actual)]) (oc := fun (r : Bool) => .rt (.bl r) (List.replicate 1 .un)) h ?_, .inl rfl⟩
    exact sm_one <|
sm_as <|
sm_some (sev_rt (ev_andV (ev_isi (n := "int") (t := "int") rfl (by decide) (by decide) (by decide +kernel) (ev_var (i := 0) rfl) ev_ty) (fun _ => ev_notV (ev_isi (n := "bool") (t := "int") rfl (by decide) (by decide) (by decide +kernel) (ev_var (i := 0) rfl) ev_ty))) (wk_uns rfl))⟩
theorem sc__law_is_vector : FnScope ["_law_actual", "_law_part"] ["_law_actual"] (defScope (topS 11)) := ⟨rfl, rfl, rfl, by decide +kernel, rfl, by decide +kernel, by decide +kernel⟩
theorem b__law_is_vector (T : Top K mg A) : Binds K A.d__law_is_vector ["_law_actual"] [] := T.F__law_is_vector.binds (ps := ["_law_actual"]) fun _ _ _ _ _ _ us hl => match us, hl with | [_], _ => rfl
def P__law_is_vector (A : Ads) (ds : List Dt) (d : Dt) : Prop := ∃ (actual : (Int × Int × Int)) (r : Bool), ds = [(dT3 Dt.int Dt.int Dt.int) actual] ∧ m__law_is_vector actual = some r ∧ d = .bl r
set_option maxHeartbeats 4000000 in
theorem ok__law_is_vector (T : Top K mg A) : FnOk P w K mg base CX0 1 A.f__law_is_vector A.d__law_is_vector ["_law_actual"] (FSpec K (RD (P__law_is_vector A))) :=
  fn_D T.F__law_is_vector sc__law_is_vector (fun ds d h => by obtain ⟨actual, r, rfl, _, _⟩ := h; rfl) fun cdv A1 outer s H E hr => ⟨_, pss_cons (ps_if (PW.pt (pw_or (pt_not (pt_val (pe_callB call_isi (by rfl) T.z_isinstance bt_isinstance (pa_cons (pv 0) (pa_cons (pe_bltn (v := .ty "tuple") (by rfl) T.z_tuple bt_tuple rfl) pa_nil))))) (pw_or1 (pt_cmpR op_ne (pe_callB cr_lenS (by rfl) T.z_len bt_len (pa_cons (pv 0) (pa_nil))) (pe_int) (nomark _))))) (pss_cons (ps_ret (pe_bl))
 (pss_nil)) (pss_nil))
 (pss_cons (ps_ret (pe_callB (cr_all rfl) (by rfl) T.z_all bt_all (pa_cons (pe_lc (own := [("_law_part", 1)]) (g := gName 1) (tt := tYes) rfl sc__law_is_vector.nd (pi_tup (pv 0)) (blkOk_by (N := ["_law_actual", "_law_part"]) (sc := defScope (topS 11)) (by decide +kernel)) (fun _ _ _ _ _ => pg_name (i := 1) sc__law_is_vector.nd rfl (by first | exact Or.inl rfl | exact Or.inr rfl)) (fun _ _ _ _ _ => pts_nil) (fun _ _ _ _ _ => pe_and (pe_callB call_isi (by rfl) T.z_isinstance bt_isinstance (pa_cons (pv 1) (pa_cons (pe_bltn (v := .ty "int") (by rfl) T.z_int bt_int rfl) pa_nil))) (pe_one (pe_not (pe_callB call_isi (by rfl) T.z_isinstance bt_isinstance (pa_cons (pv 1) (pa_cons (pe_bltn (v := .ty "bool") (by rfl) T.z_bool bt_bool rfl) pa_nil))))))) (pa_nil))))
 (pss_nil)), fun ds d h => by
    obtain ⟨actual, r, rfl, h, rfl⟩ := h
    unfold m__law_is_vector at h
    refine ⟨_, List.replicate 2 .un, sm_run (es := [.d ((dT3 Dt.int Dt.int Dt.int) actual), .un]) (oc := fun (r : Bool) => .rt (.bl r) (List.replicate 2 .un)) h ?_, .inl rfl⟩
    exact sm_one <|
sm_as <|
sm_if (et_or (et_not (et_B (ev_isi (n := "tuple") (t := "tuple") rfl (by decide) (by decide) (by decide +kernel) (ev_var (i := 0) rfl) ev_ty))) (fun _ => et_test (ev_neI (ev_lenVN 3 (ev_var (i := 0) rfl) rfl) (ev_int)))) (fun hb =>
sm_as <|
sm_some (sev_rt (ev_bl) (wk_uns rfl))) (fun hb =>
sm_nil <|
sm_as <|
sm_some (sev_rt (ev_all (ns := [true && (!false), true && (!false), true && (!false)]) (ev_new (el_fix (vs := [1]) (xs := [actual.1, actual.2.1, actual.2.2]) (em := Dt.int) (ds := [Dt.bl (true && (!false)), Dt.bl (true && (!false)), Dt.bl (true && (!false))]) (en2 := fun (part1 : Int) => [.d ((dT3 Dt.int Dt.int Dt.int) actual), .d (.int part1)]) (ei_tup (ds := List.map Dt.int [actual.1, actual.2.1, actual.2.2]) (ev_var (i := 0) rfl)) (by simp) (fun part1 => eg_name (vs := [1]) (by simp)) (ae_c (ev_andV (ev_isi (n := "int") (t := "int") rfl (by decide) (by decide) (by decide +kernel) (ev_var (i := 1) rfl) ev_ty) (fun _ => ev_notV (ev_isi (n := "bool") (t := "int") rfl (by decide) (by decide) (by decide +kernel) (ev_var (i := 1) rfl) ev_ty))) <| ae_c (ev_andV (ev_isi (n := "int") (t := "int") rfl (by decide) (by decide) (by decide +kernel) (ev_var (i := 1) rfl) ev_ty) (fun _ => ev_notV (ev_isi (n := "bool") (t := "int") rfl (by decide) (by decide) (by decide +kernel) (ev_var (i := 1) rfl) ev_ty))) <| ae_c (ev_andV (ev_isi (n := "int") (t := "int") rfl (by decide) (by decide) (by decide +kernel) (ev_var (i := 1) rfl) ev_ty) (fun _ => ev_notV (ev_isi (n := "bool") (t := "int") rfl (by decide) (by decide) (by decide +kernel) (ev_var (i := 1) rfl) ev_ty))) <| ae_n) rfl))) (wk_uns rfl)))⟩
theorem sc__law_minus : FnScope ["_law_one", "_law_two"] ["_law_one", "_law_two"] (defScope (topS 14)) := ⟨rfl, rfl, rfl, by decide +kernel, rfl, by decide +kernel, by decide +kernel⟩
theorem b__law_minus (T : Top K mg A) : Binds K A.d__law_minus ["_law_one", "_law_two"] [] := T.F__law_minus.binds (ps := ["_law_one", "_law_two"]) fun _ _ _ _ _ _ us hl => match us, hl with | [_, _], _ => rfl
def P__law_minus (A : Ads) (ds : List Dt) (d : Dt) : Prop := ∃ (one : (Int × Int × Int)) (two : (Int × Int × Int)) (r : (Int × Int × Int)), ds = [(dT3 Dt.int Dt.int Dt.int) one, (dT3 Dt.int Dt.int Dt.int) two] ∧ m__law_minus one two = some r ∧ d = (dT3 Dt.int Dt.int Dt.int) r
set_option maxHeartbeats 4000000 in
theorem ok__law_minus (T : Top K mg A) : FnOk P w K mg base CX0 1 A.f__law_minus A.d__law_minus ["_law_one", "_law_two"] (FSpec K (RD (P__law_minus A))) :=
  fn_D T.F__law_minus sc__law_minus (fun ds d h => by obtain ⟨one, two, r, rfl, _, _⟩ := h; rfl) fun cdv A1 outer s H E hr => ⟨_, pss_cons (ps_ret (pe_tup (pa_cons (pe_op op_sub (pe_ix ix_tup (pv 0) (pe_int) (fun _ _ => rfl)) (pe_ix ix_tup (pv 1) (pe_int) (fun _ _ => rfl))) (pa_cons (pe_op op_sub (pe_ix ix_tup (pv 0) (pe_int) (fun _ _ => rfl)) (pe_ix ix_tup (pv 1) (pe_int) (fun _ _ => rfl))) (pa_cons (pe_op op_sub (pe_ix ix_tup (pv 0) (pe_int) (fun _ _ => rfl)) (pe_ix ix_tup (pv 1) (pe_int) (fun _ _ => rfl))) (pa_nil))))))
 (pss_nil), fun ds d h => by
    obtain ⟨one, two, r, rfl, h, rfl⟩ := h
    unfold m__law_minus at h
    refine ⟨_, List.replicate 2 .un, sm_run (es := [.d ((dT3 Dt.int Dt.int Dt.int) one), .d ((dT3 Dt.int Dt.int Dt.int) two)]) (oc := fun (r : (Int × Int × Int)) => .rt ((dT3 Dt.int Dt.int Dt.int) r) (List.replicate 2 .un)) h ?_, .inl rfl⟩
    exact sm_one <|
sm_as <|
sm_some (sev_rt (ev_tup (ea_cons (ev_sub (ev_ixNG 0 rfl rfl (ev_var (i := 0) rfl) (ev_int)) (ev_ixNG 0 rfl rfl (ev_var (i := 1) rfl) (ev_int))) (ea_cons (ev_sub (ev_ixNG 1 rfl rfl (ev_var (i := 0) rfl) (ev_int)) (ev_ixNG 1 rfl rfl (ev_var (i := 1) rfl) (ev_int))) (ea_cons (ev_sub (ev_ixNG 2 rfl rfl (ev_var (i := 0) rfl) (ev_int)) (ev_ixNG 2 rfl rfl (ev_var (i := 1) rfl) (ev_int))) (ea_nil)))) (by simp)) (wk_uns rfl))⟩
theorem sc__law_dot : FnScope ["_law_one", "_law_two"] ["_law_one", "_law_two"] (defScope (topS 13)) := ⟨rfl, rfl, rfl, by decide +kernel, rfl, by decide +kernel, by decide +kernel⟩
theorem b__law_dot (T : Top K mg A) : Binds K A.d__law_dot ["_law_one", "_law_two"] [] := T.F__law_dot.binds (ps := ["_law_one", "_law_two"]) fun _ _ _ _ _ _ us hl => match us, hl with | [_, _], _ => rfl
def P__law_dot (A : Ads) (ds : List Dt) (d : Dt) : Prop := ∃ (one : (Int × Int × Int)) (two : (Int × Int × Int)) (r : Int), ds = [(dT3 Dt.int Dt.int Dt.int) one, (dT3 Dt.int Dt.int Dt.int) two] ∧ m__law_dot one two = some r ∧ d = .int r
set_option maxHeartbeats 4000000 in
theorem ok__law_dot (T : Top K mg A) : FnOk P w K mg base CX0 1 A.f__law_dot A.d__law_dot ["_law_one", "_law_two"] (FSpec K (RD (P__law_dot A))) :=
  fn_D T.F__law_dot sc__law_dot (fun ds d h => by obtain ⟨one, two, r, rfl, _, _⟩ := h; rfl) fun cdv A1 outer s H E hr => ⟨_, pss_cons (ps_ret (pe_op op_add (pe_op op_add (pe_op op_mulG (pe_ix ix_tup (pv 0) (pe_int) (fun _ _ => rfl)) (pe_ix ix_tup (pv 1) (pe_int) (fun _ _ => rfl))) (pe_op op_mulG (pe_ix ix_tup (pv 0) (pe_int) (fun _ _ => rfl)) (pe_ix ix_tup (pv 1) (pe_int) (fun _ _ => rfl)))) (pe_op op_mulG (pe_ix ix_tup (pv 0) (pe_int) (fun _ _ => rfl)) (pe_ix ix_tup (pv 1) (pe_int) (fun _ _ => rfl)))))
 (pss_nil), fun ds d h => by
    obtain ⟨one, two, r, rfl, h, rfl⟩ := h
    unfold m__law_dot at h
    refine ⟨_, List.replicate 2 .un, sm_run (es := [.d ((dT3 Dt.int Dt.int Dt.int) one), .d ((dT3 Dt.int Dt.int Dt.int) two)]) (oc := fun (r : Int) => .rt (.int r) (List.replicate 2 .un)) h ?_, .inl rfl⟩
    exact sm_one <|
sm_as <|
sm_bind fun t1 h_t1 =>
sm_bind fun t2 h_t2 =>
sm_bind fun t3 h_t3 =>
sm_some (sev_rt (ev_add (ev_add (ev_mul (ev_ixNG 0 rfl rfl (ev_var (i := 0) rfl) (ev_int)) (ev_ixNG 0 rfl rfl (ev_var (i := 1) rfl) (ev_int)) h_t1) (ev_mul (ev_ixNG 1 rfl rfl (ev_var (i := 0) rfl) (ev_int)) (ev_ixNG 1 rfl rfl (ev_var (i := 1) rfl) (ev_int)) h_t2)) (ev_mul (ev_ixNG 2 rfl rfl (ev_var (i := 0) rfl) (ev_int)) (ev_ixNG 2 rfl rfl (ev_var (i := 1) rfl) (ev_int)) h_t3)) (wk_uns rfl))⟩
theorem sc__law_between : FnScope ["_law_start", "_law_end", "_law_over", "_law_under", "_law_k"] ["_law_start", "_law_end", "_law_over", "_law_under"] (defScope (topS 15)) := ⟨rfl, rfl, rfl, by decide +kernel, rfl, by decide +kernel, by decide +kernel⟩
theorem b__law_between (T : Top K mg A) : Binds K A.d__law_between ["_law_start", "_law_end", "_law_over", "_law_under"] [] := T.F__law_between.binds (ps := ["_law_start", "_law_end", "_law_over", "_law_under"]) fun _ _ _ _ _ _ us hl => match us, hl with | [_, _, _, _], _ => rfl
def P__law_between (A : Ads) (ds : List Dt) (d : Dt) : Prop := ∃ (start : (Int × Int × Int)) (end_ : (Int × Int × Int)) (over : Int) (under : Int) (r : (Int × Int × Int)), ds = [(dT3 Dt.int Dt.int Dt.int) start, (dT3 Dt.int Dt.int Dt.int) end_, .int over, .int under] ∧ m__law_between start end_ over under = some r ∧ d = (dT3 Dt.int Dt.int Dt.int) r
set_option maxHeartbeats 4000000 in
theorem ok__law_between (T : Top K mg A) : FnOk P w K mg base CX0 1 A.f__law_between A.d__law_between ["_law_start", "_law_end", "_law_over", "_law_under"] (FSpec K (RD (P__law_between A))) :=
  fn_D T.F__law_between sc__law_between (fun ds d h => by obtain ⟨start, end_, over, under, r, rfl, _, _⟩ := h; rfl) fun cdv A1 outer s H E hr => ⟨_, pss_cons (ps_ret (pe_callTy cr_tupS (by rfl) T.z_tuple bt_tuple (pa_cons (pe_lc (own := [("_law_k", 4)]) (g := gName 4) (tt := tYes) rfl sc__law_between.nd (pi_range1 (by rfl) T.z_range (pa_cons (pe_int) (pa_nil))) (blkOk_by (N := ["_law_start", "_law_end", "_law_over", "_law_under", "_law_k"]) (sc := defScope (topS 15)) (by decide +kernel)) (fun _ _ _ _ _ => pg_name (i := 4) sc__law_between.nd rfl (by first | exact Or.inl rfl | exact Or.inr rfl)) (fun _ _ _ _ _ => pts_nil) (fun _ _ _ _ _ => pe_op op_add (pe_op op_mulG (pe_ix ix_tup (pv 0) (pv 4) (fun _ _ => rfl)) (pv 3)) (pe_op op_mulG (pe_op op_sub (pe_ix ix_tup (pv 1) (pv 4) (fun _ _ => rfl)) (pe_ix ix_tup (pv 0) (pv 4) (fun _ _ => rfl))) (pv 2)))) (pa_nil))))
 (pss_nil), fun ds d h => by
    obtain ⟨start, end_, over, under, r, rfl, h, rfl⟩ := h
    unfold m__law_between at h
    refine ⟨_, List.replicate 5 .un, sm_run (es := [.d ((dT3 Dt.int Dt.int Dt.int) start), .d ((dT3 Dt.int Dt.int Dt.int) end_), .d (.int over), .d (.int under), .un]) (oc := fun (r : (Int × Int × Int)) => .rt ((dT3 Dt.int Dt.int Dt.int) r) (List.replicate 5 .un)) h ?_, .inl rfl⟩
    exact sm_one <|
sm_as <|
sm_bind fun t2 h_t2 =>
sm_bind fun t3 h_t3 =>
sm_bind fun t4 h_t4 =>
sm_bind fun t5 h_t5 =>
sm_bind fun t6 h_t6 =>
sm_bind fun t7 h_t7 =>
sm_some (sev_rt (ev_tupL (ev_new (el_fix (vs := [4]) (xs := [0, 1, 2]) (em := Dt.int) (ds := [Dt.int (t2 + t3), Dt.int (t4 + t5), Dt.int (t6 + t7)]) (en2 := fun (k1 : Int) => [.d ((dT3 Dt.int Dt.int Dt.int) start), .d ((dT3 Dt.int Dt.int Dt.int) end_), .d (.int over), .d (.int under), .d (.int k1)]) (ei_rng1 (xs := [0, 1, 2]) (ea_cons (ev_int) (ea_nil)) (by decide)) (by simp) (fun k1 => eg_name (vs := [4]) (by simp)) (ae_c (ev_add (ev_mul (ev_ixNG 0 rfl rfl (ev_var (i := 0) rfl) (ev_var (i := 4) rfl)) (ev_var (i := 3) rfl) h_t2) (ev_mul (ev_sub (ev_ixNG 0 rfl rfl (ev_var (i := 1) rfl) (ev_var (i := 4) rfl)) (ev_ixNG 0 rfl rfl (ev_var (i := 0) rfl) (ev_var (i := 4) rfl))) (ev_var (i := 2) rfl) h_t3)) <| ae_c (ev_add (ev_mul (ev_ixNG 1 rfl rfl (ev_var (i := 0) rfl) (ev_var (i := 4) rfl)) (ev_var (i := 3) rfl) h_t4) (ev_mul (ev_sub (ev_ixNG 1 rfl rfl (ev_var (i := 1) rfl) (ev_var (i := 4) rfl)) (ev_ixNG 1 rfl rfl (ev_var (i := 0) rfl) (ev_var (i := 4) rfl))) (ev_var (i := 2) rfl) h_t5)) <| ae_c (ev_add (ev_mul (ev_ixNG 2 rfl rfl (ev_var (i := 0) rfl) (ev_var (i := 4) rfl)) (ev_var (i := 3) rfl) h_t6) (ev_mul (ev_sub (ev_ixNG 2 rfl rfl (ev_var (i := 1) rfl) (ev_var (i := 4) rfl)) (ev_ixNG 2 rfl rfl (ev_var (i := 0) rfl) (ev_var (i := 4) rfl))) (ev_var (i := 2) rfl) h_t7)) <| ae_n) rfl))) (wk_uns rfl))⟩
def P__law_dot_2 (A : Ads) (ds : List Dt) (d : Dt) : Prop := ∃ (one : (Int × Int × Int)) (two : (Int × Int × Int)) (r : Int), ds = [(dF3 Dt.int Dt.int Dt.int) one, (dF3 Dt.int Dt.int Dt.int) two] ∧ m__law_dot_2 one two = some r ∧ d = .int r
set_option maxHeartbeats 4000000 in
theorem ok__law_dot_2 (T : Top K mg A) : FnOk P w K mg base CX0 1 A.f__law_dot A.d__law_dot ["_law_one", "_law_two"] (FSpec K (RD (P__law_dot_2 A))) :=
  fn_D T.F__law_dot sc__law_dot (fun ds d h => by obtain ⟨one, two, r, rfl, _, _⟩ := h; rfl) fun cdv A1 outer s H E hr => ⟨_, pss_cons (ps_ret (pe_op op_add (pe_op op_add (pe_op op_mulG (pe_ix ix_list (pv 0) (pe_int) (fun _ _ => rfl)) (pe_ix ix_list (pv 1) (pe_int) (fun _ _ => rfl))) (pe_op op_mulG (pe_ix ix_list (pv 0) (pe_int) (fun _ _ => rfl)) (pe_ix ix_list (pv 1) (pe_int) (fun _ _ => rfl)))) (pe_op op_mulG (pe_ix ix_list (pv 0) (pe_int) (fun _ _ => rfl)) (pe_ix ix_list (pv 1) (pe_int) (fun _ _ => rfl)))))
 (pss_nil), fun ds d h => by
    obtain ⟨one, two, r, rfl, h, rfl⟩ := h
    unfold m__law_dot_2 at h
    refine ⟨_, List.replicate 2 .un, sm_run (es := [.d ((dF3 Dt.int Dt.int Dt.int) one), .d ((dF3 Dt.int Dt.int Dt.int) two)]) (oc := fun (r : Int) => .rt (.int r) (List.replicate 2 .un)) h ?_, .inl rfl⟩
    exact sm_one <|
sm_as <|
sm_bind fun t1 h_t1 =>
sm_bind fun t2 h_t2 =>
sm_bind fun t3 h_t3 =>
sm_some (sev_rt (ev_add (ev_add (ev_mul (ev_ixLG 0 rfl rfl (ev_var (i := 0) rfl) (ev_int)) (ev_ixLG 0 rfl rfl (ev_var (i := 1) rfl) (ev_int)) h_t1) (ev_mul (ev_ixLG 1 rfl rfl (ev_var (i := 0) rfl) (ev_int)) (ev_ixLG 1 rfl rfl (ev_var (i := 1) rfl) (ev_int)) h_t2)) (ev_mul (ev_ixLG 2 rfl rfl (ev_var (i := 0) rfl) (ev_int)) (ev_ixLG 2 rfl rfl (ev_var (i := 1) rfl) (ev_int)) h_t3)) (wk_uns rfl))⟩
theorem sc_law : FnScope ["_law_script", "_law_rows_here", "_law_size", "_law_place", "_law_start", "_law_end", "_law_gap", "_law_along", "_law_whole", "_law_part", "_law_over", "_law_under", "_law_near", "_law_k", "_law_square", "_law_far", "_law_away", "_law_j"] ["_law_script"] (defScope (topS 16)) := ⟨rfl, rfl, rfl, by decide +kernel, rfl, by decide +kernel, by decide +kernel⟩
theorem b_law (T : Top K mg A) : Binds K A.d_law ["_law_script"] [] := T.F_law.binds (ps := ["_law_script"]) fun _ _ _ _ _ _ us hl => match us, hl with | [_], _ => rfl
def P_law (A : Ads) (ds : List Dt) (d : Dt) : Prop := ∃ (script : (List Int)) (r : Bool), ds = [.lst (List.map Dt.int script)] ∧ m_law script = some r ∧ d = .bl r
set_option maxHeartbeats 4000000 in
theorem ok_law (T : Top K mg A) : FnOk P w K mg base CX0 4 A.f_law A.d_law ["_law_script"] (FSpec K (RD (P_law A))) :=
  fn_D T.F_law sc_law (fun ds d h => by obtain ⟨script, r, rfl, _, _⟩ := h; rfl) fun cdv A1 outer s H E hr => ⟨_, pss_cons (ps_set (i := 1) sc_law.nd rfl (by first | exact Or.inl rfl | exact Or.inr rfl) (pe_call (ok__law_rows T) (hr.mono (by decide)) (by rfl) T.g__law_rows T.F__law_rows.kp (b__law_rows T) .nil pass0 (pa_cons (pv 0) (pa_cons (pe_int) (pa_nil)))))
 (pss_cons (ps_set (i := 2) sc_law.nd rfl (by first | exact Or.inl rfl | exact Or.inr rfl) (pe_int))
 (pss_cons (ps_if (pt_cmpR op_eq (pe_op op_mod (pe_ix ix_list (pv 1) (pe_int) (fun _ _ => rfl)) (pe_int)) (pe_int) (nomark _)) (pss_cons (ps_set (i := 2) sc_law.nd rfl (by first | exact Or.inl rfl | exact Or.inr rfl) (pe_int))
 (pss_nil)) (pss_nil))
 (pss_cons (ps_set (i := 3) sc_law.nd rfl (by first | exact Or.inl rfl | exact Or.inr rfl) (pe_call (ok__law_vector T) (hr.mono (by decide)) (by rfl) T.g__law_vector T.F__law_vector.kp (b__law_vector T) .nil pass0 (pa_cons (pe_op op_add (pe_op op_mulG (pe_ix ix_list (pv 1) (pe_int) (fun _ _ => rfl)) (pe_int)) (pe_ix ix_list (pv 1) (pe_int) (fun _ _ => rfl))) (pa_cons (pv 2) (pa_nil)))))
 (pss_cons (ps_set (i := 4) sc_law.nd rfl (by first | exact Or.inl rfl | exact Or.inr rfl) (pe_call (ok__law_vector T) (hr.mono (by decide)) (by rfl) T.g__law_vector T.F__law_vector.kp (b__law_vector T) .nil pass0 (pa_cons (pe_op op_add (pe_op op_mulG (pe_ix ix_list (pv 1) (pe_int) (fun _ _ => rfl)) (pe_int)) (pe_ix ix_list (pv 1) (pe_int) (fun _ _ => rfl))) (pa_cons (pv 2) (pa_nil)))))
 (pss_cons (ps_set (i := 5) sc_law.nd rfl (by first | exact Or.inl rfl | exact Or.inr rfl) (pe_call (ok__law_vector T) (hr.mono (by decide)) (by rfl) T.g__law_vector T.F__law_vector.kp (b__law_vector T) .nil pass0 (pa_cons (pe_op op_add (pe_op op_mulG (pe_ix ix_list (pv 1) (pe_int) (fun _ _ => rfl)) (pe_int)) (pe_ix ix_list (pv 1) (pe_int) (fun _ _ => rfl))) (pa_cons (pv 2) (pa_nil)))))
 (pss_cons (ps_if (pt_cmpR op_eq (pe_op op_mod (pe_op op_fdivW (pe_ix ix_list (pv 1) (pe_int) (fun _ _ => rfl)) (pe_int)) (pe_int)) (pe_int) (nomark _)) (pss_cons (ps_set (i := 5) sc_law.nd rfl (by first | exact Or.inl rfl | exact Or.inr rfl) (pv 4))
 (pss_nil)) (pss_nil))
 (pss_cons (ps_set (i := 6) sc_law.nd rfl (by first | exact Or.inl rfl | exact Or.inr rfl) (pe_call (ok_place_gap T) (hr.mono (by decide)) (by rfl) T.g_place_gap T.F_place_gap.kp (b_place_gap T) .nil pass0 (pa_cons (pv 3) (pa_cons (pv 4) (pa_cons (pv 5) (pa_nil))))))
 (pss_cons (ps_if (PW.pt (pw_or (pt_not (pt_val (pe_callB call_isi (by rfl) T.z_isinstance bt_isinstance (pa_cons (pv 6) (pa_cons (pe_glob (v := .ref A.c_Gap) (by rfl) T.gc_Gap rfl) pa_nil))))) (pw_or (pt_not (pt_val (pe_call (ok__law_is_integer T) (hr.mono (by decide)) (by rfl) T.g__law_is_integer T.F__law_is_integer.kp (b__law_is_integer T) .nil pass0 (pa_cons (pe_fld (pv 6) rfl) (pa_nil))))) (pw_or (pt_cmpR op_lt (pe_fld (pv 6) rfl) (pe_int) (nomark _)) (pw_or1 (pt_not (pt_val (pe_call (ok__law_is_vector T) (hr.mono (by decide)) (by rfl) T.g__law_is_vector T.F__law_is_vector.kp (b__law_is_vector T) .nil pass0 (pa_cons (pe_fld (pv 6) rfl) (pa_nil)))))))))) (pss_cons (ps_ret (pe_bl))
 (pss_nil)) (pss_nil))
 (pss_cons (ps_set (i := 7) sc_law.nd rfl (by first | exact Or.inl rfl | exact Or.inr rfl) (pe_call (ok__law_minus T) (hr.mono (by decide)) (by rfl) T.g__law_minus T.F__law_minus.kp (b__law_minus T) .nil pass0 (pa_cons (pv 5) (pa_cons (pv 4) (pa_nil)))))
 (pss_cons (ps_set (i := 8) sc_law.nd rfl (by first | exact Or.inl rfl | exact Or.inr rfl) (pe_call (ok__law_dot T) (hr.mono (by decide)) (by rfl) T.g__law_dot T.F__law_dot.kp (b__law_dot T) .nil pass0 (pa_cons (pv 7) (pa_cons (pv 7) (pa_nil)))))
 (pss_cons (ps_set (i := 9) sc_law.nd rfl (by first | exact Or.inl rfl | exact Or.inr rfl) (pe_call (ok__law_dot T) (hr.mono (by decide)) (by rfl) T.g__law_dot T.F__law_dot.kp (b__law_dot T) .nil pass0 (pa_cons (pe_call (ok__law_minus T) (hr.mono (by decide)) (by rfl) T.g__law_minus T.F__law_minus.kp (b__law_minus T) .nil pass0 (pa_cons (pv 3) (pa_cons (pv 4) (pa_nil)))) (pa_cons (pv 7) (pa_nil)))))
 (pss_cons (ps_set (i := 10) sc_law.nd rfl (by first | exact Or.inl rfl | exact Or.inr rfl) (pe_callB (cr_max2 rfl) (by rfl) T.z_max bt_max (pa_cons (pe_int) (pa_cons (pe_callB (cr_min2 rfl) (by rfl) T.z_min bt_min (pa_cons (pv 9) (pa_cons (pv 8) (pa_nil)))) (pa_nil)))))
 (pss_cons (ps_set (i := 11) sc_law.nd rfl (by first | exact Or.inl rfl | exact Or.inr rfl) (pe_callB (cr_max2 rfl) (by rfl) T.z_max bt_max (pa_cons (pe_int) (pa_cons (pv 8) (pa_nil)))))
 (pss_cons (ps_set (i := 12) sc_law.nd rfl (by first | exact Or.inl rfl | exact Or.inr rfl) (pe_call (ok__law_between T) (hr.mono (by decide)) (by rfl) T.g__law_between T.F__law_between.kp (b__law_between T) .nil pass0 (pa_cons (pv 4) (pa_cons (pv 5) (pa_cons (pv 10) (pa_cons (pv 11) (pa_nil)))))))
 (pss_cons (ps_for PassesOwn.never rfl (pi_range1 (by rfl) T.z_range (pa_cons (pe_int) (pa_nil))) (pg_name (i := 13) sc_law.nd rfl (by first | exact Or.inl rfl | exact Or.inr rfl)) (pss_cons (ps_if (pt_cmpR op_ne (pe_op op_mulG (pe_ix ix_tup (pe_fld (pv 6) rfl) (pv 13) (fun _ _ => rfl)) (pv 11)) (pe_op op_mulG (pe_op op_sub (pe_op op_mulG (pe_ix ix_tup (pv 3) (pv 13) (fun _ _ => rfl)) (pv 11)) (pe_ix ix_tup (pv 12) (pv 13) (fun _ _ => rfl))) (pe_fld (pv 6) rfl)) (nomark _)) (pss_cons (ps_ret (pe_bl))
 (pss_nil)) (pss_nil))
 (pss_nil)))
 (pss_cons (ps_if (pt_cmpR op_ne (pe_fld (pv 6) rfl) (pe_ifExp (pt_chain op_lt op_lt (pe_int) (pv 9) (pv 8)) (pv 8) (pe_int)) (nomark _)) (pss_cons (ps_ret (pe_bl))
 (pss_nil)) (pss_nil))
 (pss_cons (ps_set (i := 14) sc_law.nd rfl (by first | exact Or.inl rfl | exact Or.inr rfl) (pe_call (ok__law_dot T) (hr.mono (by decide)) (by rfl) T.g__law_dot T.F__law_dot.kp (b__law_dot T) .nil pass0 (pa_cons (pe_fld (pv 6) rfl) (pa_cons (pe_fld (pv 6) rfl) (pa_nil)))))
 (pss_cons (ps_for PassesOwn.never rfl (pi_range1 (by rfl) T.z_range (pa_cons (pe_int) (pa_nil))) (pg_name (i := 13) sc_law.nd rfl (by first | exact Or.inl rfl | exact Or.inr rfl)) (pss_cons (ps_set (i := 15) sc_law.nd rfl (by first | exact Or.inl rfl | exact Or.inr rfl) (pe_call (ok__law_between T) (hr.mono (by decide)) (by rfl) T.g__law_between T.F__law_between.kp (b__law_between T) .nil pass0 (pa_cons (pv 4) (pa_cons (pv 5) (pa_cons (pv 13) (pa_cons (pe_int) (pa_nil)))))))
 (pss_cons (ps_setLc (i := 16) (own := [("_law_j", 17)]) (g := gName 17) (tt := tYes) rfl sc_law.nd rfl rfl (sw_true rfl rfl rfl (by decide +kernel)) (pi_range1 (by rfl) T.z_range (pa_cons (pe_int) (pa_nil))) (blkOk_by (N := ["_law_script", "_law_rows_here", "_law_size", "_law_place", "_law_start", "_law_end", "_law_gap", "_law_along", "_law_whole", "_law_part", "_law_over", "_law_under", "_law_near", "_law_k", "_law_square", "_law_far", "_law_away", "_law_j"]) (sc := defScope (topS 16)) (by decide +kernel)) (fun _ _ _ _ _ => pg_name (i := 17) sc_law.nd rfl (by first | exact Or.inl rfl | exact Or.inr rfl)) (fun _ _ _ _ _ => pts_nil) (fun _ _ _ _ _ => pe_op op_sub (pe_op op_mulG (pe_ix ix_tup (pv 3) (pv 17) (fun _ _ => rfl)) (pe_int)) (pe_ix ix_tup (pv 15) (pv 17) (fun _ _ => rfl))))
 (pss_cons (ps_if (pt_cmpR op_lt (pe_op op_mulG (pe_op op_mulG (pe_call (ok__law_dot_2 T) (hr.mono (by decide)) (by rfl) T.g__law_dot T.F__law_dot.kp (b__law_dot T) .nil pass0 (pa_cons (pv 16) (pa_cons (pv 16) (pa_nil)))) (pe_fld (pv 6) rfl)) (pe_fld (pv 6) rfl)) (pe_op op_mulG (pv 14) (pe_int)) (nomark _)) (pss_cons (ps_ret (pe_bl))
 (pss_nil)) (pss_nil))
 (pss_nil)))))
 (pss_cons (ps_ret (pe_bl))
 (pss_nil)))))))))))))))))))), fun ds d h => by
    obtain ⟨script, r, rfl, h, rfl⟩ := h
    unfold m_law at h
    refine ⟨_, List.replicate 18 .un, sm_run (es := [.d (.lst (List.map Dt.int script)), .un, .un, .un, .un, .un, .un, .un, .un, .un, .un, .un, .un, .un, .un, .un, .un, .un]) (oc := fun (r : Bool) => .rt (.bl r) (List.replicate 18 .un)) h ?_, .inl rfl⟩
    exact sm_one <|
sm_as <|
sm_bind fun t1 h_t1 =>
sm_set (es' := [.d (.lst (List.map Dt.int script)), .d (.lst (List.map Dt.int t1)), .un, .un, .un, .un, .un, .un, .un, .un, .un, .un, .un, .un, .un, .un, .un, .un]) (ev_call (ea_cons (ev_var (i := 0) rfl) (ea_cons (ev_int) (ea_nil))) ⟨script, 8, t1, rfl, h_t1, rfl⟩) rfl <|
sm_as <|
sm_lt fun size2 h_size2 =>
sm_set (es' := [.d (.lst (List.map Dt.int script)), .d (.lst (List.map Dt.int t1)), .d (.int size2), .un, .un, .un, .un, .un, .un, .un, .un, .un, .un, .un, .un, .un, .un, .un]) (ev_is (ev_int) (congrArg Dt.int h_size2)) rfl <|
sm_as <|
sm_bind fun t3 h_t3 =>
sm_bind fun t4 h_t4 =>
sm_seq (env := fun (s : Int) => [.d (.lst (List.map Dt.int script)), .d (.lst (List.map Dt.int t1)), .d (.int s), .un, .un, .un, .un, .un, .un, .un, .un, .un, .un, .un, .un, .un, .un, .un]) (sm_one <| sm_if (et_test (ev_eqI (ev_mod (ev_ixLC (em := Dt.int) (ev_var (i := 1) rfl) (ev_int) h_t3) (ev_int) h_t4) (ev_int))) (fun hb =>
sm_as <|
sm_lt fun size5 h_size5 =>
sm_set (es' := [.d (.lst (List.map Dt.int script)), .d (.lst (List.map Dt.int t1)), .d (.int size5), .un, .un, .un, .un, .un, .un, .un, .un, .un, .un, .un, .un, .un, .un, .un]) (ev_is (ev_int) (congrArg Dt.int h_size5)) rfl <|
sm_nil <|
sm_some (sev_nx (wk_e <| wk_e <| wk_e <| wk_u <| wk_u <| wk_u <| wk_u <| wk_u <| wk_u <| wk_u <| wk_u <| wk_u <| wk_u <| wk_u <| wk_u <| wk_u <| wk_u <| wk_u <| wk_n))) (fun hb =>
sm_nil <|
sm_some (sev_nx (wk_e <| wk_e <| wk_e <| wk_u <| wk_u <| wk_u <| wk_u <| wk_u <| wk_u <| wk_u <| wk_u <| wk_u <| wk_u <| wk_u <| wk_u <| wk_u <| wk_u <| wk_u <| wk_n)))) fun s6 h_s6 =>
sm_as <|
sm_bind fun t7 h_t7 =>
sm_bind fun t8 h_t8 =>
sm_bind fun t9 h_t9 =>
sm_bind fun t10 h_t10 =>
sm_set (es' := [.d (.lst (List.map Dt.int script)), .d (.lst (List.map Dt.int t1)), .d (.int s6), .d ((dT3 Dt.int Dt.int Dt.int) t10), .un, .un, .un, .un, .un, .un, .un, .un, .un, .un, .un, .un, .un, .un]) (ev_call (ea_cons (ev_add (ev_mul (ev_ixLC (em := Dt.int) (ev_var (i := 1) rfl) (ev_int) h_t7) (ev_int) h_t8) (ev_ixLC (em := Dt.int) (ev_var (i := 1) rfl) (ev_int) h_t9)) (ea_cons (ev_var (i := 2) rfl) (ea_nil))) ⟨t8 + t9, s6, t10, rfl, h_t10, rfl⟩) rfl <|
sm_as <|
sm_bind fun t11 h_t11 =>
sm_bind fun t12 h_t12 =>
sm_bind fun t13 h_t13 =>
sm_bind fun t14 h_t14 =>
sm_set (es' := [.d (.lst (List.map Dt.int script)), .d (.lst (List.map Dt.int t1)), .d (.int s6), .d ((dT3 Dt.int Dt.int Dt.int) t10), .d ((dT3 Dt.int Dt.int Dt.int) t14), .un, .un, .un, .un, .un, .un, .un, .un, .un, .un, .un, .un, .un]) (ev_call (ea_cons (ev_add (ev_mul (ev_ixLC (em := Dt.int) (ev_var (i := 1) rfl) (ev_int) h_t11) (ev_int) h_t12) (ev_ixLC (em := Dt.int) (ev_var (i := 1) rfl) (ev_int) h_t13)) (ea_cons (ev_var (i := 2) rfl) (ea_nil))) ⟨t12 + t13, s6, t14, rfl, h_t14, rfl⟩) rfl <|
sm_as <|
sm_bind fun t15 h_t15 =>
sm_bind fun t16 h_t16 =>
sm_bind fun t17 h_t17 =>
sm_bind fun t18 h_t18 =>
sm_set (es' := [.d (.lst (List.map Dt.int script)), .d (.lst (List.map Dt.int t1)), .d (.int s6), .d ((dT3 Dt.int Dt.int Dt.int) t10), .d ((dT3 Dt.int Dt.int Dt.int) t14), .d ((dT3 Dt.int Dt.int Dt.int) t18), .un, .un, .un, .un, .un, .un, .un, .un, .un, .un, .un, .un]) (ev_call (ea_cons (ev_add (ev_mul (ev_ixLC (em := Dt.int) (ev_var (i := 1) rfl) (ev_int) h_t15) (ev_int) h_t16) (ev_ixLC (em := Dt.int) (ev_var (i := 1) rfl) (ev_int) h_t17)) (ea_cons (ev_var (i := 2) rfl) (ea_nil))) ⟨t16 + t17, s6, t18, rfl, h_t18, rfl⟩) rfl <|
sm_as <|
sm_bind fun t19 h_t19 =>
sm_bind fun t20 h_t20 =>
sm_bind fun t21 h_t21 =>
sm_seq (env := fun (s : (Int × Int × Int)) => [.d (.lst (List.map Dt.int script)), .d (.lst (List.map Dt.int t1)), .d (.int s6), .d ((dT3 Dt.int Dt.int Dt.int) t10), .d ((dT3 Dt.int Dt.int Dt.int) t14), .d ((dT3 Dt.int Dt.int Dt.int) s), .un, .un, .un, .un, .un, .un, .un, .un, .un, .un, .un, .un]) (sm_one <| sm_if (et_test (ev_eqI (ev_mod (ev_div (ev_ixLC (em := Dt.int) (ev_var (i := 1) rfl) (ev_int) h_t19) (ev_int) h_t20) (ev_int) h_t21) (ev_int))) (fun hb =>
sm_as <|
sm_set (es' := [.d (.lst (List.map Dt.int script)), .d (.lst (List.map Dt.int t1)), .d (.int s6), .d ((dT3 Dt.int Dt.int Dt.int) t10), .d ((dT3 Dt.int Dt.int Dt.int) t14), .d ((dT3 Dt.int Dt.int Dt.int) t14), .un, .un, .un, .un, .un, .un, .un, .un, .un, .un, .un, .un]) (ev_var (i := 4) rfl) rfl <|
sm_nil <|
sm_some (sev_nx (wk_e <| wk_e <| wk_e <| wk_e <| wk_e <| wk_e <| wk_u <| wk_u <| wk_u <| wk_u <| wk_u <| wk_u <| wk_u <| wk_u <| wk_u <| wk_u <| wk_u <| wk_u <| wk_n))) (fun hb =>
sm_nil <|
sm_some (sev_nx (wk_e <| wk_e <| wk_e <| wk_e <| wk_e <| wk_e <| wk_u <| wk_u <| wk_u <| wk_u <| wk_u <| wk_u <| wk_u <| wk_u <| wk_u <| wk_u <| wk_u <| wk_u <| wk_n)))) fun s22 h_s22 =>
sm_as <|
sm_bind fun t23 h_t23 =>
sm_set (es' := [.d (.lst (List.map Dt.int script)), .d (.lst (List.map Dt.int t1)), .d (.int s6), .d ((dT3 Dt.int Dt.int Dt.int) t10), .d ((dT3 Dt.int Dt.int Dt.int) t14), .d ((dT3 Dt.int Dt.int Dt.int) s22), .d ((d_Gap A) t23), .un, .un, .un, .un, .un, .un, .un, .un, .un, .un, .un]) (ev_call (ea_cons (ev_var (i := 3) rfl) (ea_cons (ev_var (i := 4) rfl) (ea_cons (ev_var (i := 5) rfl) (ea_nil)))) ⟨t10, t14, s22, t23, rfl, h_t23, rfl⟩) rfl <|
sm_as <|
sm_bind fun b28 h_b28 =>
sm_if (et_orC (et_not (et_B (ev_isiC T.cl_Gap T.ia_Gap T.ib_Gap T.ic_Gap T.id_Gap (ev_var (i := 6) rfl)))) (fun _ => et_bnd fun t24 h_t24 => et_bnd fun b27 h_b27 => et_pure (et_orC (et_not (et_B (ev_call (ea_cons (ev_fld (ev_var (i := 6) rfl) T.cl_Gap T.n_Gap_scale rfl) (ea_nil)) ⟨t23.scale, t24, rfl, h_t24, rfl⟩))) (fun _ => et_bnd fun b26 h_b26 => et_pure (et_orC (et_test (ev_lt (ev_fld (ev_var (i := 6) rfl) T.cl_Gap T.n_Gap_scale rfl) (ev_int))) (fun _ => et_bnd fun t25 h_t25 => et_pure (et_not (et_B (ev_call (ea_cons (ev_fld (ev_var (i := 6) rfl) T.cl_Gap T.n_Gap_vector rfl) (ea_nil)) ⟨t23.vector, t25, rfl, h_t25, rfl⟩)))) h_b26)) h_b27)) h_b28) (fun hb =>
sm_as <|
sm_some (sev_rt (ev_bl) (wk_uns rfl))) (fun hb =>
sm_nil <|
sm_as <|
sm_bind fun t29 h_t29 =>
sm_set (es' := [.d (.lst (List.map Dt.int script)), .d (.lst (List.map Dt.int t1)), .d (.int s6), .d ((dT3 Dt.int Dt.int Dt.int) t10), .d ((dT3 Dt.int Dt.int Dt.int) t14), .d ((dT3 Dt.int Dt.int Dt.int) s22), .d ((d_Gap A) t23), .d ((dT3 Dt.int Dt.int Dt.int) t29), .un, .un, .un, .un, .un, .un, .un, .un, .un, .un]) (ev_call (ea_cons (ev_var (i := 5) rfl) (ea_cons (ev_var (i := 4) rfl) (ea_nil))) ⟨s22, t14, t29, rfl, h_t29, rfl⟩) rfl <|
sm_as <|
sm_bind fun t30 h_t30 =>
sm_set (es' := [.d (.lst (List.map Dt.int script)), .d (.lst (List.map Dt.int t1)), .d (.int s6), .d ((dT3 Dt.int Dt.int Dt.int) t10), .d ((dT3 Dt.int Dt.int Dt.int) t14), .d ((dT3 Dt.int Dt.int Dt.int) s22), .d ((d_Gap A) t23), .d ((dT3 Dt.int Dt.int Dt.int) t29), .d (.int t30), .un, .un, .un, .un, .un, .un, .un, .un, .un]) (ev_call (ea_cons (ev_var (i := 7) rfl) (ea_cons (ev_var (i := 7) rfl) (ea_nil))) ⟨t29, t29, t30, rfl, h_t30, rfl⟩) rfl <|
sm_as <|
sm_bind fun t31 h_t31 =>
sm_bind fun t32 h_t32 =>
sm_set (es' := [.d (.lst (List.map Dt.int script)), .d (.lst (List.map Dt.int t1)), .d (.int s6), .d ((dT3 Dt.int Dt.int Dt.int) t10), .d ((dT3 Dt.int Dt.int Dt.int) t14), .d ((dT3 Dt.int Dt.int Dt.int) s22), .d ((d_Gap A) t23), .d ((dT3 Dt.int Dt.int Dt.int) t29), .d (.int t30), .d (.int t32), .un, .un, .un, .un, .un, .un, .un, .un]) (ev_call (ea_cons (ev_call (ea_cons (ev_var (i := 3) rfl) (ea_cons (ev_var (i := 4) rfl) (ea_nil))) ⟨t10, t14, t31, rfl, h_t31, rfl⟩) (ea_cons (ev_var (i := 7) rfl) (ea_nil))) ⟨t31, t29, t32, rfl, h_t32, rfl⟩) rfl <|
sm_as <|
sm_lt fun over33 h_over33 =>
sm_set (es' := [.d (.lst (List.map Dt.int script)), .d (.lst (List.map Dt.int t1)), .d (.int s6), .d ((dT3 Dt.int Dt.int Dt.int) t10), .d ((dT3 Dt.int Dt.int Dt.int) t14), .d ((dT3 Dt.int Dt.int Dt.int) s22), .d ((d_Gap A) t23), .d ((dT3 Dt.int Dt.int Dt.int) t29), .d (.int t30), .d (.int t32), .d (.int over33), .un, .un, .un, .un, .un, .un, .un]) (ev_is (ev_max2 (ev_int) (ev_min2 (ev_var (i := 9) rfl) (ev_var (i := 8) rfl))) (congrArg Dt.int h_over33)) rfl <|
sm_as <|
sm_lt fun under34 h_under34 =>
sm_set (es' := [.d (.lst (List.map Dt.int script)), .d (.lst (List.map Dt.int t1)), .d (.int s6), .d ((dT3 Dt.int Dt.int Dt.int) t10), .d ((dT3 Dt.int Dt.int Dt.int) t14), .d ((dT3 Dt.int Dt.int Dt.int) s22), .d ((d_Gap A) t23), .d ((dT3 Dt.int Dt.int Dt.int) t29), .d (.int t30), .d (.int t32), .d (.int over33), .d (.int under34), .un, .un, .un, .un, .un, .un]) (ev_is (ev_max2 (ev_int) (ev_var (i := 8) rfl)) (congrArg Dt.int h_under34)) rfl <|
sm_as <|
sm_bind fun t35 h_t35 =>
sm_set (es' := [.d (.lst (List.map Dt.int script)), .d (.lst (List.map Dt.int t1)), .d (.int s6), .d ((dT3 Dt.int Dt.int Dt.int) t10), .d ((dT3 Dt.int Dt.int Dt.int) t14), .d ((dT3 Dt.int Dt.int Dt.int) s22), .d ((d_Gap A) t23), .d ((dT3 Dt.int Dt.int Dt.int) t29), .d (.int t30), .d (.int t32), .d (.int over33), .d (.int under34), .d ((dT3 Dt.int Dt.int Dt.int) t35), .un, .un, .un, .un, .un]) (ev_call (ea_cons (ev_var (i := 4) rfl) (ea_cons (ev_var (i := 5) rfl) (ea_cons (ev_var (i := 10) rfl) (ea_cons (ev_var (i := 11) rfl) (ea_nil))))) ⟨t14, s22, over33, under34, t35, rfl, h_t35, rfl⟩) rfl <|
sm_as <|
sm_thenF (env := fun (s : Unit) => [.d (.lst (List.map Dt.int script)), .d (.lst (List.map Dt.int t1)), .d (.int s6), .d ((dT3 Dt.int Dt.int Dt.int) t10), .d ((dT3 Dt.int Dt.int Dt.int) t14), .d ((dT3 Dt.int Dt.int Dt.int) s22), .d ((d_Gap A) t23), .d ((dT3 Dt.int Dt.int Dt.int) t29), .d (.int t30), .d (.int t32), .d (.int over33), .d (.int under34), .d ((dT3 Dt.int Dt.int Dt.int) t35), .un, .un, .un, .un, .un]) (ed := fun r => .bl r) (ee := fun _ => List.replicate 18 .un) (sm_for (xs := rng 0 3) (em := Dt.int) (env := fun (s : Unit) => [.d (.lst (List.map Dt.int script)), .d (.lst (List.map Dt.int t1)), .d (.int s6), .d ((dT3 Dt.int Dt.int Dt.int) t10), .d ((dT3 Dt.int Dt.int Dt.int) t14), .d ((dT3 Dt.int Dt.int Dt.int) s22), .d ((d_Gap A) t23), .d ((dT3 Dt.int Dt.int Dt.int) t29), .d (.int t30), .d (.int t32), .d (.int over33), .d (.int under34), .d ((dT3 Dt.int Dt.int Dt.int) t35), .un, .un, .un, .un, .un]) (en2 := fun (k37 : Int) (s36 : Unit) => [.d (.lst (List.map Dt.int script)), .d (.lst (List.map Dt.int t1)), .d (.int s6), .d ((dT3 Dt.int Dt.int Dt.int) t10), .d ((dT3 Dt.int Dt.int Dt.int) t14), .d ((dT3 Dt.int Dt.int Dt.int) s22), .d ((d_Gap A) t23), .d ((dT3 Dt.int Dt.int Dt.int) t29), .d (.int t30), .d (.int t32), .d (.int over33), .d (.int under34), .d ((dT3 Dt.int Dt.int Dt.int) t35), .d (.int k37), .un, .un, .un, .un]) (ei_rng1 (ea_cons (ev_int) (ea_nil)) (rngC_of (by decide))) (wk_e <| wk_e <| wk_e <| wk_e <| wk_e <| wk_e <| wk_e <| wk_e <| wk_e <| wk_e <| wk_e <| wk_e <| wk_e <| wk_u <| wk_u <| wk_u <| wk_u <| wk_u <| wk_n) (fun k37 s36 => eg_name (vs := [13]) (by simp)) fun k37 s36 h_k37 => sm_one <|
sm_as <|
sm_bind fun t38 h_t38 =>
sm_bind fun t39 h_t39 =>
sm_bind fun t40 h_t40 =>
sm_bind fun t41 h_t41 =>
sm_bind fun t42 h_t42 =>
sm_bind fun t43 h_t43 =>
sm_if (et_test (ev_neI (ev_mul (ev_ixTC (em := Dt.int) (xs := [t23.vector.1, t23.vector.2.1, t23.vector.2.2]) (ev_fld (ev_var (i := 6) rfl) T.cl_Gap T.n_Gap_vector rfl) (ev_var (i := 13) rfl) h_t38) (ev_var (i := 11) rfl) h_t39) (ev_mul (ev_sub (ev_mul (ev_ixTC (em := Dt.int) (xs := [t10.1, t10.2.1, t10.2.2]) (ev_var (i := 3) rfl) (ev_var (i := 13) rfl) h_t40) (ev_var (i := 11) rfl) h_t41) (ev_ixTC (em := Dt.int) (xs := [t35.1, t35.2.1, t35.2.2]) (ev_var (i := 12) rfl) (ev_var (i := 13) rfl) h_t42)) (ev_fld (ev_var (i := 6) rfl) T.cl_Gap T.n_Gap_scale rfl) h_t43))) (fun hb =>
sm_as <|
sm_some (sev_rt (ev_bl) (wk_uns rfl))) (fun hb =>
sm_nil <|
sm_nil <|
sm_some (sev_go (wk_e <| wk_e <| wk_e <| wk_e <| wk_e <| wk_e <| wk_e <| wk_e <| wk_e <| wk_e <| wk_e <| wk_e <| wk_e <| wk_u <| wk_u <| wk_u <| wk_u <| wk_u <| wk_n)))) (fun s44 =>
sm_as <|
sm_if (et_test (ev_neI (ev_fld (ev_var (i := 6) rfl) T.cl_Gap T.n_Gap_scale rfl) (ev_ifP (em := Dt.int) (et_test (ev_chain (ev_int) (ev_var (i := 9) rfl) c_lt (fun _ => ev_var (i := 8) rfl) (fun _ => c_lt))) (ev_var (i := 8) rfl) (ev_int)))) (fun hb =>
sm_as <|
sm_some (sev_rt (ev_bl) (wk_uns rfl))) (fun hb =>
sm_nil <|
sm_as <|
sm_bind fun t45 h_t45 =>
sm_set (es' := [.d (.lst (List.map Dt.int script)), .d (.lst (List.map Dt.int t1)), .d (.int s6), .d ((dT3 Dt.int Dt.int Dt.int) t10), .d ((dT3 Dt.int Dt.int Dt.int) t14), .d ((dT3 Dt.int Dt.int Dt.int) s22), .d ((d_Gap A) t23), .d ((dT3 Dt.int Dt.int Dt.int) t29), .d (.int t30), .d (.int t32), .d (.int over33), .d (.int under34), .d ((dT3 Dt.int Dt.int Dt.int) t35), .un, .d (.int t45), .un, .un, .un]) (ev_call (ea_cons (ev_fld (ev_var (i := 6) rfl) T.cl_Gap T.n_Gap_vector rfl) (ea_cons (ev_fld (ev_var (i := 6) rfl) T.cl_Gap T.n_Gap_vector rfl) (ea_nil))) ⟨t23.vector, t23.vector, t45, rfl, h_t45, rfl⟩) rfl <|
sm_as <|
sm_thenF (env := fun (s : Unit) => [.d (.lst (List.map Dt.int script)), .d (.lst (List.map Dt.int t1)), .d (.int s6), .d ((dT3 Dt.int Dt.int Dt.int) t10), .d ((dT3 Dt.int Dt.int Dt.int) t14), .d ((dT3 Dt.int Dt.int Dt.int) s22), .d ((d_Gap A) t23), .d ((dT3 Dt.int Dt.int Dt.int) t29), .d (.int t30), .d (.int t32), .d (.int over33), .d (.int under34), .d ((dT3 Dt.int Dt.int Dt.int) t35), .un, .d (.int t45), .un, .un, .un]) (ed := fun r => .bl r) (ee := fun _ => List.replicate 18 .un) (sm_for (xs := rng 0 9) (em := Dt.int) (env := fun (s : Unit) => [.d (.lst (List.map Dt.int script)), .d (.lst (List.map Dt.int t1)), .d (.int s6), .d ((dT3 Dt.int Dt.int Dt.int) t10), .d ((dT3 Dt.int Dt.int Dt.int) t14), .d ((dT3 Dt.int Dt.int Dt.int) s22), .d ((d_Gap A) t23), .d ((dT3 Dt.int Dt.int Dt.int) t29), .d (.int t30), .d (.int t32), .d (.int over33), .d (.int under34), .d ((dT3 Dt.int Dt.int Dt.int) t35), .un, .d (.int t45), .un, .un, .un]) (en2 := fun (k47 : Int) (s46 : Unit) => [.d (.lst (List.map Dt.int script)), .d (.lst (List.map Dt.int t1)), .d (.int s6), .d ((dT3 Dt.int Dt.int Dt.int) t10), .d ((dT3 Dt.int Dt.int Dt.int) t14), .d ((dT3 Dt.int Dt.int Dt.int) s22), .d ((d_Gap A) t23), .d ((dT3 Dt.int Dt.int Dt.int) t29), .d (.int t30), .d (.int t32), .d (.int over33), .d (.int under34), .d ((dT3 Dt.int Dt.int Dt.int) t35), .d (.int k47), .d (.int t45), .un, .un, .un]) (ei_rng1 (ea_cons (ev_int) (ea_nil)) (rngC_of (by decide))) (wk_e <| wk_e <| wk_e <| wk_e <| wk_e <| wk_e <| wk_e <| wk_e <| wk_e <| wk_e <| wk_e <| wk_e <| wk_e <| wk_u <| wk_e <| wk_u <| wk_u <| wk_u <| wk_n) (fun k47 s46 => eg_name (vs := [13]) (by simp)) fun k47 s46 h_k47 => sm_one <|
sm_as <|
sm_bind fun t48 h_t48 =>
sm_set (es' := [.d (.lst (List.map Dt.int script)), .d (.lst (List.map Dt.int t1)), .d (.int s6), .d ((dT3 Dt.int Dt.int Dt.int) t10), .d ((dT3 Dt.int Dt.int Dt.int) t14), .d ((dT3 Dt.int Dt.int Dt.int) s22), .d ((d_Gap A) t23), .d ((dT3 Dt.int Dt.int Dt.int) t29), .d (.int t30), .d (.int t32), .d (.int over33), .d (.int under34), .d ((dT3 Dt.int Dt.int Dt.int) t35), .d (.int k47), .d (.int t45), .d ((dT3 Dt.int Dt.int Dt.int) t48), .un, .un]) (ev_call (ea_cons (ev_var (i := 4) rfl) (ea_cons (ev_var (i := 5) rfl) (ea_cons (ev_var (i := 13) rfl) (ea_cons (ev_int) (ea_nil))))) ⟨t14, s22, k47, 8, t48, rfl, h_t48, rfl⟩) rfl <|
sm_as <|
sm_bind fun t50 h_t50 =>
sm_bind fun t51 h_t51 =>
sm_bind fun t52 h_t52 =>
sm_lt fun away53 h_away53 =>
sm_set (es' := [.d (.lst (List.map Dt.int script)), .d (.lst (List.map Dt.int t1)), .d (.int s6), .d ((dT3 Dt.int Dt.int Dt.int) t10), .d ((dT3 Dt.int Dt.int Dt.int) t14), .d ((dT3 Dt.int Dt.int Dt.int) s22), .d ((d_Gap A) t23), .d ((dT3 Dt.int Dt.int Dt.int) t29), .d (.int t30), .d (.int t32), .d (.int over33), .d (.int under34), .d ((dT3 Dt.int Dt.int Dt.int) t35), .d (.int k47), .d (.int t45), .d ((dT3 Dt.int Dt.int Dt.int) t48), .d ((dF3 Dt.int Dt.int Dt.int) away53), .un]) (ev_is (ev_new (el_fix (vs := [17]) (xs := [0, 1, 2]) (em := Dt.int) (ds := [Dt.int (t50 - t48.1), Dt.int (t51 - t48.2.1), Dt.int (t52 - t48.2.2)]) (en2 := fun (j49 : Int) => [.d (.lst (List.map Dt.int script)), .d (.lst (List.map Dt.int t1)), .d (.int s6), .d ((dT3 Dt.int Dt.int Dt.int) t10), .d ((dT3 Dt.int Dt.int Dt.int) t14), .d ((dT3 Dt.int Dt.int Dt.int) s22), .d ((d_Gap A) t23), .d ((dT3 Dt.int Dt.int Dt.int) t29), .d (.int t30), .d (.int t32), .d (.int over33), .d (.int under34), .d ((dT3 Dt.int Dt.int Dt.int) t35), .d (.int k47), .d (.int t45), .d ((dT3 Dt.int Dt.int Dt.int) t48), .un, .d (.int j49)]) (ei_rng1 (xs := [0, 1, 2]) (ea_cons (ev_int) (ea_nil)) (by decide)) (by simp) (fun j49 => eg_name (vs := [17]) (by simp)) (ae_c (ev_sub (ev_mul (ev_ixNG 0 rfl rfl (ev_var (i := 3) rfl) (ev_var (i := 17) rfl)) (ev_int) h_t50) (ev_ixNG 0 rfl rfl (ev_var (i := 15) rfl) (ev_var (i := 17) rfl))) <| ae_c (ev_sub (ev_mul (ev_ixNG 1 rfl rfl (ev_var (i := 3) rfl) (ev_var (i := 17) rfl)) (ev_int) h_t51) (ev_ixNG 1 rfl rfl (ev_var (i := 15) rfl) (ev_var (i := 17) rfl))) <| ae_c (ev_sub (ev_mul (ev_ixNG 2 rfl rfl (ev_var (i := 3) rfl) (ev_var (i := 17) rfl)) (ev_int) h_t52) (ev_ixNG 2 rfl rfl (ev_var (i := 15) rfl) (ev_var (i := 17) rfl))) <| ae_n) rfl)) (congrArg (dF3 Dt.int Dt.int Dt.int) h_away53)) rfl <|
sm_as <|
sm_bind fun t54 h_t54 =>
sm_bind fun t55 h_t55 =>
sm_bind fun t56 h_t56 =>
sm_bind fun t57 h_t57 =>
sm_if (et_test (ev_lt (ev_mul (ev_mul (ev_call (ea_cons (ev_var (i := 16) rfl) (ea_cons (ev_var (i := 16) rfl) (ea_nil))) ⟨away53, away53, t54, rfl, h_t54, rfl⟩) (ev_fld (ev_var (i := 6) rfl) T.cl_Gap T.n_Gap_scale rfl) h_t55) (ev_fld (ev_var (i := 6) rfl) T.cl_Gap T.n_Gap_scale rfl) h_t56) (ev_mul (ev_var (i := 14) rfl) (ev_int) h_t57))) (fun hb =>
sm_as <|
sm_some (sev_rt (ev_bl) (wk_uns rfl))) (fun hb =>
sm_nil <|
sm_nil <|
sm_some (sev_go (wk_e <| wk_e <| wk_e <| wk_e <| wk_e <| wk_e <| wk_e <| wk_e <| wk_e <| wk_e <| wk_e <| wk_e <| wk_e <| wk_u <| wk_e <| wk_u <| wk_u <| wk_u <| wk_n)))) (fun s58 =>
sm_as <|
sm_some (sev_rt (ev_bl) (wk_uns rfl))) (fun _ => rfl))) (fun _ => rfl))⟩
end G

namespace G
open PySem L2 DL PyProof.Rows
def LawT (K : PySem.W.Frag) : Sp := FSpec K (RD fun ds d => ∃ (ns : List Int) (r : Bool), ds = [.lst (ns.map Dt.int)] ∧ m_law ns = some r ∧ d = .bl r)
theorem all_mk {l : PySem.W.OpenLaw} {w : World} {K : PySem.W.Frag} {h : Heap} {mg : Str → Option Value} {fa c_Gap f0 f1 f2 f3 f4 f5 f6 f7 f8 f9 f10 f11 f12 : Addr} (X : K.In h) (G : h.Ns mainGlobals mg) (hfa : mg "law" = some (.ref fa))
    {od0 an0 : Option Addr} {sl0 : Array (Option Value)} {oc0 kV0 dc0 pm0 cd0 ct0 : Value}
    {od1 an1 : Option Addr} {sl1 : Array (Option Value)} {oc1 kV1 dc1 pm1 cd1 ct1 : Value}
    {od2 an2 : Option Addr} {sl2 : Array (Option Value)} {oc2 kV2 dc2 pm2 cd2 ct2 : Value}
    {od3 an3 : Option Addr} {sl3 : Array (Option Value)} {oc3 kV3 dc3 pm3 cd3 ct3 : Value}
    {od4 an4 : Option Addr} {sl4 : Array (Option Value)} {oc4 kV4 dc4 pm4 cd4 ct4 : Value}
    {od5 an5 : Option Addr} {sl5 : Array (Option Value)} {oc5 kV5 dc5 pm5 cd5 ct5 : Value}
    {od6 an6 : Option Addr} {sl6 : Array (Option Value)} {oc6 kV6 dc6 pm6 cd6 ct6 : Value}
    {od7 an7 : Option Addr} {sl7 : Array (Option Value)} {oc7 kV7 dc7 pm7 cd7 ct7 : Value}
    {od8 an8 : Option Addr} {sl8 : Array (Option Value)} {oc8 kV8 dc8 pm8 cd8 ct8 : Value}
    {od9 an9 : Option Addr} {sl9 : Array (Option Value)} {oc9 kV9 dc9 pm9 cd9 ct9 : Value}
    {od10 an10 : Option Addr} {sl10 : Array (Option Value)} {oc10 kV10 dc10 pm10 cd10 ct10 : Value}
    {od11 an11 : Option Addr} {sl11 : Array (Option Value)} {oc11 kV11 dc11 pm11 cd11 ct11 : Value}
    {od12 an12 : Option Addr} {sl12 : Array (Option Value)} {oc12 kV12 dc12 pm12 cd12 ct12 : Value}
    (x_Gap : PySem.W.nsIn K mainGlobals "Gap" = some (some (.ref c_Gap)))
    (pg_Gap : PySem.W.plainGet K c_Gap Str.empty = true)
    (hd_Gap : PySem.W.hasDictIn K c_Gap = true)
    (po_Gap : PySem.W.plainOver K c_Gap = true)
    (sa_Gap : PySem.W.findIn K (.ref c_Gap) "__setattr__" = some (some (.builtin "object.__setattr__")))
    (mk_Gap : PySem.W.makesIn K c_Gap = true)
    (kc_Gap : PySem.W.keepIn K (.ref c_Gap) = true)
    (a0 : PySem.W.nsIn K mainGlobals "_law_rows" = some (some (.ref f0)))
    (l0 : K.lookup f0 = some ⟨oc0, od0, .func (PySem.W.fnOf "_law_rows" "_law_rows" (defArgs (topS 9)) (defBody (topS 9)) (defScope (topS 9)) .none kV0 dc0 pm0 an0 cd0 ct0), sl0⟩)
    (c0 : PySem.W.codeIn K cd0 "_law_rows" = true)
    (k0 : PySem.W.keepIn K (.ref f0) = true)
    (a1 : PySem.W.nsIn K mainGlobals "_law_vector" = some (some (.ref f1)))
    (l1 : K.lookup f1 = some ⟨oc1, od1, .func (PySem.W.fnOf "_law_vector" "_law_vector" (defArgs (topS 12)) (defBody (topS 12)) (defScope (topS 12)) .none kV1 dc1 pm1 an1 cd1 ct1), sl1⟩)
    (c1 : PySem.W.codeIn K cd1 "_law_vector" = true)
    (k1 : PySem.W.keepIn K (.ref f1) = true)
    (a2 : PySem.W.nsIn K mainGlobals "minus" = some (some (.ref f2)))
    (l2 : K.lookup f2 = some ⟨oc2, od2, .func (PySem.W.fnOf "minus" "minus" (defArgs (topS 3)) (defBody (topS 3)) (defScope (topS 3)) .none kV2 dc2 pm2 an2 cd2 ct2), sl2⟩)
    (c2 : PySem.W.codeIn K cd2 "minus" = true)
    (k2 : PySem.W.keepIn K (.ref f2) = true)
    (a3 : PySem.W.nsIn K mainGlobals "dot" = some (some (.ref f3)))
    (l3 : K.lookup f3 = some ⟨oc3, od3, .func (PySem.W.fnOf "dot" "dot" (defArgs (topS 2)) (defBody (topS 2)) (defScope (topS 2)) .none kV3 dc3 pm3 an3 cd3 ct3), sl3⟩)
    (c3 : PySem.W.codeIn K cd3 "dot" = true)
    (k3 : PySem.W.keepIn K (.ref f3) = true)
    (a4 : PySem.W.findIn K (.ref c_Gap) "__init__" = some (some (.ref f4)))
    (i4 : PySem.W.isFn K (.ref f4) = true)
    (l4 : K.lookup f4 = some ⟨oc4, od4, .func (PySem.W.fnOf "__init__" "Gap.__init__" (defArgs (inClass (topS 6) 0)) (defBody (inClass (topS 6) 0)) (defScope (inClass (topS 6) 0)) .none kV4 dc4 pm4 an4 cd4 ct4), sl4⟩)
    (c4 : PySem.W.codeIn K cd4 "Gap.__init__" = true)
    (k4 : PySem.W.keepIn K (.ref f4) = true)
    (a5 : PySem.W.nsIn K mainGlobals "scaled" = some (some (.ref f5)))
    (l5 : K.lookup f5 = some ⟨oc5, od5, .func (PySem.W.fnOf "scaled" "scaled" (defArgs (topS 4)) (defBody (topS 4)) (defScope (topS 4)) .none kV5 dc5 pm5 an5 cd5 ct5), sl5⟩)
    (c5 : PySem.W.codeIn K cd5 "scaled" = true)
    (k5 : PySem.W.keepIn K (.ref f5) = true)
    (a6 : PySem.W.nsIn K mainGlobals "place_gap" = some (some (.ref f6)))
    (l6 : K.lookup f6 = some ⟨oc6, od6, .func (PySem.W.fnOf "place_gap" "place_gap" (defArgs (topS 7)) (defBody (topS 7)) (defScope (topS 7)) .none kV6 dc6 pm6 an6 cd6 ct6), sl6⟩)
    (c6 : PySem.W.codeIn K cd6 "place_gap" = true)
    (k6 : PySem.W.keepIn K (.ref f6) = true)
    (a7 : PySem.W.nsIn K mainGlobals "_law_is_integer" = some (some (.ref f7)))
    (l7 : K.lookup f7 = some ⟨oc7, od7, .func (PySem.W.fnOf "_law_is_integer" "_law_is_integer" (defArgs (topS 10)) (defBody (topS 10)) (defScope (topS 10)) .none kV7 dc7 pm7 an7 cd7 ct7), sl7⟩)
    (c7 : PySem.W.codeIn K cd7 "_law_is_integer" = true)
    (k7 : PySem.W.keepIn K (.ref f7) = true)
    (a8 : PySem.W.nsIn K mainGlobals "_law_is_vector" = some (some (.ref f8)))
    (l8 : K.lookup f8 = some ⟨oc8, od8, .func (PySem.W.fnOf "_law_is_vector" "_law_is_vector" (defArgs (topS 11)) (defBody (topS 11)) (defScope (topS 11)) .none kV8 dc8 pm8 an8 cd8 ct8), sl8⟩)
    (c8 : PySem.W.codeIn K cd8 "_law_is_vector" = true)
    (k8 : PySem.W.keepIn K (.ref f8) = true)
    (a9 : PySem.W.nsIn K mainGlobals "_law_minus" = some (some (.ref f9)))
    (l9 : K.lookup f9 = some ⟨oc9, od9, .func (PySem.W.fnOf "_law_minus" "_law_minus" (defArgs (topS 14)) (defBody (topS 14)) (defScope (topS 14)) .none kV9 dc9 pm9 an9 cd9 ct9), sl9⟩)
    (c9 : PySem.W.codeIn K cd9 "_law_minus" = true)
    (k9 : PySem.W.keepIn K (.ref f9) = true)
    (a10 : PySem.W.nsIn K mainGlobals "_law_dot" = some (some (.ref f10)))
    (l10 : K.lookup f10 = some ⟨oc10, od10, .func (PySem.W.fnOf "_law_dot" "_law_dot" (defArgs (topS 13)) (defBody (topS 13)) (defScope (topS 13)) .none kV10 dc10 pm10 an10 cd10 ct10), sl10⟩)
    (c10 : PySem.W.codeIn K cd10 "_law_dot" = true)
    (k10 : PySem.W.keepIn K (.ref f10) = true)
    (a11 : PySem.W.nsIn K mainGlobals "_law_between" = some (some (.ref f11)))
    (l11 : K.lookup f11 = some ⟨oc11, od11, .func (PySem.W.fnOf "_law_between" "_law_between" (defArgs (topS 15)) (defBody (topS 15)) (defScope (topS 15)) .none kV11 dc11 pm11 an11 cd11 ct11), sl11⟩)
    (c11 : PySem.W.codeIn K cd11 "_law_between" = true)
    (k11 : PySem.W.keepIn K (.ref f11) = true)
    (a12 : PySem.W.nsIn K mainGlobals "law" = some (some (.ref f12)))
    (l12 : K.lookup f12 = some ⟨oc12, od12, .func (PySem.W.fnOf "law" "law" (defArgs (topS 16)) (defBody (topS 16)) (defScope (topS 16)) .none kV12 dc12 pm12 an12 cd12 ct12), sl12⟩)
    (c12 : PySem.W.codeIn K cd12 "law" = true)
    (k12 : PySem.W.keepIn K (.ref f12) = true)
    (n_Gap_vector : PySem.W.findIn K (.ref c_Gap) "vector" = some none)
    (n_Gap_scale : PySem.W.findIn K (.ref c_Gap) "scale" = some none)
    (ia_Gap : PySem.W.findIn K (.ref c_Gap) "__class__" = some (some (.builtin "object.__class__")))
    (ib_Gap : PySem.W.specialIn K (.builtin "object.__class__") "__get__" = some (some (.builtin "getset_descriptor.__get__")))
    (ic_Gap : PySem.W.takesIn K (.builtin "object.__class__") = some true)
    (id_Gap : PySem.W.mroIn K c_Gap (.type "object") = some true)
    (z_all : PySem.W.nsIn K mainGlobals "all" = some none)
    (z_bool : PySem.W.nsIn K mainGlobals "bool" = some none)
    (z_int : PySem.W.nsIn K mainGlobals "int" = some none)
    (z_isinstance : PySem.W.nsIn K mainGlobals "isinstance" = some none)
    (z_len : PySem.W.nsIn K mainGlobals "len" = some none)
    (z_max : PySem.W.nsIn K mainGlobals "max" = some none)
    (z_min : PySem.W.nsIn K mainGlobals "min" = some none)
    (z_range : PySem.W.nsIn K mainGlobals "range" = some none)
    (z_tuple : PySem.W.nsIn K mainGlobals "tuple" = some none)
    : ∃ fd : FuncData, (∀ (s : Shared) (v : Value), BindsTo s fd ⟨[v], []⟩ [("_law_script", v)]) ∧ ∀ base : Heap, K.In base → base.Ns mainGlobals mg → FnOk l.prog w K mg base CX0 4 fa fd ["_law_script"] (LawT K) := by
  have e := hfa.symm.trans (PySem.W.mg_of X G a12)
  cases e
  have T : Top K mg { c_Gap := c_Gap, f__law_rows := f0, d__law_rows := PySem.W.fnOf "_law_rows" "_law_rows" (defArgs (topS 9)) (defBody (topS 9)) (defScope (topS 9)) .none kV0 dc0 pm0 an0 cd0 ct0, f__law_vector := f1, d__law_vector := PySem.W.fnOf "_law_vector" "_law_vector" (defArgs (topS 12)) (defBody (topS 12)) (defScope (topS 12)) .none kV1 dc1 pm1 an1 cd1 ct1, f_minus := f2, d_minus := PySem.W.fnOf "minus" "minus" (defArgs (topS 3)) (defBody (topS 3)) (defScope (topS 3)) .none kV2 dc2 pm2 an2 cd2 ct2, f_dot := f3, d_dot := PySem.W.fnOf "dot" "dot" (defArgs (topS 2)) (defBody (topS 2)) (defScope (topS 2)) .none kV3 dc3 pm3 an3 cd3 ct3, f_Gap_init := f4, d_Gap_init := PySem.W.fnOf "__init__" "Gap.__init__" (defArgs (inClass (topS 6) 0)) (defBody (inClass (topS 6) 0)) (defScope (inClass (topS 6) 0)) .none kV4 dc4 pm4 an4 cd4 ct4, f_scaled := f5, d_scaled := PySem.W.fnOf "scaled" "scaled" (defArgs (topS 4)) (defBody (topS 4)) (defScope (topS 4)) .none kV5 dc5 pm5 an5 cd5 ct5, f_place_gap := f6, d_place_gap := PySem.W.fnOf "place_gap" "place_gap" (defArgs (topS 7)) (defBody (topS 7)) (defScope (topS 7)) .none kV6 dc6 pm6 an6 cd6 ct6, f__law_is_integer := f7, d__law_is_integer := PySem.W.fnOf "_law_is_integer" "_law_is_integer" (defArgs (topS 10)) (defBody (topS 10)) (defScope (topS 10)) .none kV7 dc7 pm7 an7 cd7 ct7, f__law_is_vector := f8, d__law_is_vector := PySem.W.fnOf "_law_is_vector" "_law_is_vector" (defArgs (topS 11)) (defBody (topS 11)) (defScope (topS 11)) .none kV8 dc8 pm8 an8 cd8 ct8, f__law_minus := f9, d__law_minus := PySem.W.fnOf "_law_minus" "_law_minus" (defArgs (topS 14)) (defBody (topS 14)) (defScope (topS 14)) .none kV9 dc9 pm9 an9 cd9 ct9, f__law_dot := f10, d__law_dot := PySem.W.fnOf "_law_dot" "_law_dot" (defArgs (topS 13)) (defBody (topS 13)) (defScope (topS 13)) .none kV10 dc10 pm10 an10 cd10 ct10, f__law_between := f11, d__law_between := PySem.W.fnOf "_law_between" "_law_between" (defArgs (topS 15)) (defBody (topS 15)) (defScope (topS 15)) .none kV11 dc11 pm11 an11 cd11 ct11, f_law := fa, d_law := PySem.W.fnOf "law" "law" (defArgs (topS 16)) (defBody (topS 16)) (defScope (topS 16)) .none kV12 dc12 pm12 an12 cd12 ct12 } := { F__law_rows := fun_mk (st := (topS 9)) l0 c0 k0, g__law_rows := PySem.W.mg_of X G a0, F__law_vector := fun_mk (st := (topS 12)) l1 c1 k1, g__law_vector := PySem.W.mg_of X G a1, F_minus := fun_mk (st := (topS 3)) l2 c2 k2, g_minus := PySem.W.mg_of X G a2, F_dot := fun_mk (st := (topS 2)) l3 c3 k3, g_dot := PySem.W.mg_of X G a3, F_Gap_init := fun_mk (st := (inClass (topS 6) 0)) l4 c4 k4, F_scaled := fun_mk (st := (topS 4)) l5 c5 k5, g_scaled := PySem.W.mg_of X G a5, F_place_gap := fun_mk (st := (topS 7)) l6 c6 k6, g_place_gap := PySem.W.mg_of X G a6, F__law_is_integer := fun_mk (st := (topS 10)) l7 c7 k7, g__law_is_integer := PySem.W.mg_of X G a7, F__law_is_vector := fun_mk (st := (topS 11)) l8 c8 k8, g__law_is_vector := PySem.W.mg_of X G a8, F__law_minus := fun_mk (st := (topS 14)) l9 c9 k9, g__law_minus := PySem.W.mg_of X G a9, F__law_dot := fun_mk (st := (topS 13)) l10 c10 k10, g__law_dot := PySem.W.mg_of X G a10, F__law_between := fun_mk (st := (topS 15)) l11 c11 k11, g__law_between := PySem.W.mg_of X G a11, F_law := fun_mk (st := (topS 16)) l12 c12 k12, g_law := PySem.W.mg_of X G a12, gc_Gap := PySem.W.mg_of X G x_Gap, cl_Gap := ⟨pg_Gap, hd_Gap, po_Gap, sa_Gap⟩, mk_Gap := ⟨mk_Gap, a4, i4, kc_Gap⟩, n_Gap_vector := n_Gap_vector, n_Gap_scale := n_Gap_scale, ia_Gap := ia_Gap, ib_Gap := ib_Gap, ic_Gap := ic_Gap, id_Gap := id_Gap, z_all := PySem.W.mg_none_of X G z_all, z_bool := PySem.W.mg_none_of X G z_bool, z_int := PySem.W.mg_none_of X G z_int, z_isinstance := PySem.W.mg_none_of X G z_isinstance, z_len := PySem.W.mg_none_of X G z_len, z_max := PySem.W.mg_none_of X G z_max, z_min := PySem.W.mg_none_of X G z_min, z_range := PySem.W.mg_none_of X G z_range, z_tuple := PySem.W.mg_none_of X G z_tuple }
  exact ⟨PySem.W.fnOf "law" "law" (defArgs (topS 16)) (defBody (topS 16)) (defScope (topS 16)) .none kV12 dc12 pm12 an12 cd12 ct12, fun s v => .of_eq rfl, fun base _ _ => (ok_law T).imp fun vs H Q E h => h⟩
end G
open PySem PySem.W PyProof.Rows
set_option maxRecDepth 100000 in
set_option maxHeartbeats 0 in
theorem PySem.Challenge.cw_armwarrant_k03_place_and_line_holds : PySem.Challenge.rw_armwarrant_k03_place_and_line.Holds := by
  w_on; o_law; k_head; (case hw => w_witness2)
  k_fill
  refine L2.walk_ofB (l := PySem.Challenge.rw_armwarrant_k03_place_and_line) (n := 63) (k := 4) (x := "_law_script") (CX := fun _ => L2.CX0) (sp := fun w => G.LawT _) rfl (by decide) rfl ⟨rfl, by decide, by decide⟩ (fun w h Y => PySem.W.kIn_of Y) ?F (fun _ H a ns hl hb _ hS => DL.law_sp (G.law_true ns hl hb) hS) (fun _ _ _ _ _ h => h)
  case F =>
    intro w mg fa h KX GN hmg
    refine' _root_.G.all_mk KX GN hmg ?x_Gap ?pg_Gap ?hd_Gap ?po_Gap ?sa_Gap ?mk_Gap ?kc_Gap ?a0 ?l0 ?c0 ?k0 ?a1 ?l1 ?c1 ?k1 ?a2 ?l2 ?c2 ?k2 ?a3 ?l3 ?c3 ?k3 ?a4 ?i4 ?l4 ?c4 ?k4 ?a5 ?l5 ?c5 ?k5 ?a6 ?l6 ?c6 ?k6 ?a7 ?l7 ?c7 ?k7 ?a8 ?l8 ?c8 ?k8 ?a9 ?l9 ?c9 ?k9 ?a10 ?l10 ?c10 ?k10 ?a11 ?l11 ?c11 ?k11 ?a12 ?l12 ?c12 ?k12 ?n_Gap_vector ?n_Gap_scale ?ia_Gap ?ib_Gap ?ic_Gap ?id_Gap ?z_all ?z_bool ?z_int ?z_isinstance ?z_len ?z_max ?z_min ?z_range ?z_tuple
    (case x_Gap => k_is); (case pg_Gap => k_is); (case hd_Gap => k_is); (case po_Gap => k_is); (case sa_Gap => k_is); (case mk_Gap => k_is)
    (case kc_Gap => k_is); (case a0 => k_is); (case l0 => k_is); (case c0 => k_is); (case k0 => k_is); (case a1 => k_is)
    (case l1 => k_is); (case c1 => k_is); (case k1 => k_is); (case a2 => k_is); (case l2 => k_is); (case c2 => k_is)
    (case k2 => k_is); (case a3 => k_is); (case l3 => k_is); (case c3 => k_is); (case k3 => k_is); (case a4 => k_is)
    (case i4 => k_is); (case l4 => k_is); (case c4 => k_is); (case k4 => k_is); (case a5 => k_is); (case l5 => k_is)
    (case c5 => k_is); (case k5 => k_is); (case a6 => k_is); (case l6 => k_is); (case c6 => k_is); (case k6 => k_is)
    (case a7 => k_is); (case l7 => k_is); (case c7 => k_is); (case k7 => k_is); (case a8 => k_is); (case l8 => k_is)
    (case c8 => k_is); (case k8 => k_is); (case a9 => k_is); (case l9 => k_is); (case c9 => k_is); (case k9 => k_is)
    (case a10 => k_is); (case l10 => k_is); (case c10 => k_is); (case k10 => k_is); (case a11 => k_is); (case l11 => k_is)
    (case c11 => k_is); (case k11 => k_is); (case a12 => k_is); (case l12 => k_is); (case c12 => k_is); (case k12 => k_is)
    (case n_Gap_vector => k_is); (case n_Gap_scale => k_is); (case ia_Gap => k_is); (case ib_Gap => k_is); (case ic_Gap => k_is); (case id_Gap => k_is)
    (case z_all => k_is); (case z_bool => k_is); (case z_int => k_is); (case z_isinstance => k_is); (case z_len => k_is); (case z_max => k_is)
    (case z_min => k_is); (case z_range => k_is); (case z_tuple => k_is)
