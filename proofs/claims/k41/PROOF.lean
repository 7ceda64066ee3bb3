import PyProof.Rows.All
import Wide.All
import OpenK.AllK
import Wide.FinOn
import HandS.ForMost
import HandS.Wide
import HandS.EndBits
import HandS.Gcd
import HandS.WideBits
import HandS.IsInst
import HandS.Flt
import HandS.More
import Flt.RightSqrt
import HandS.Style
import HandS.Steps
import HandS.MakeKwOnly
import HandS.TupAny
import KE.KExcSuper
import HandS.ExcField
import HandS.ExcOwn
import HandS.CallSlots
import HandS.WordsExc
import HandS.Comp
import PyProof.WalkInts
import HandS.SortKw
import PySem.Challenge.RW_armwarrant_k41_whole_extents
set_option Elab.async false
set_option linter.all false
set_option maxRecDepth 100000
set_option maxHeartbeats 4000000
/-! Dl: what a def does, told over data (Dt) and slots (Sl); heaps are dealt with once, here. -/
namespace DL
open PySem L2

/-! ### data -/
inductive Dt where
  | non | bl (b : Bool) | int (i : Int) | str (s : Str)
  | ty (n : String)
  | tup (xs : List Dt) | lst (xs : List Dt) | obj (C : Addr) (fs : List (Str × Dt))

mutual
inductive Rep (K : PySem.W.Frag) (H : Hp) : V → Dt → Prop
  | non : Rep K H .non .non
  | bl (b : Bool) : Rep K H (.bl b) (.bl b)
  | int (i : Int) : Rep K H (.int i) (.int i)
  | str (s : Str) : Rep K H (.str s) (.str s)
  | ty (n : String) : Rep K H (.ty n) (.ty n)
  | tup {a : Addr} {xs : List V} {ds : List Dt} : SqT K H a xs → Reps K H xs ds → Rep K H (.ref a) (.tup ds)
  | lst {a : Addr} {xs : List V} {ds : List Dt} : SqL K H a xs → Reps K H xs ds → Rep K H (.ref a) (.lst ds)
  | obj {a C dx : Addr} {fs : List (Str × V)} {gs : List (Str × Dt)} : H a = some (.ins C dx fs) → RepF K H fs gs → Rep K H (.ref a) (.obj C gs)
inductive Reps (K : PySem.W.Frag) (H : Hp) : List V → List Dt → Prop
  | nil : Reps K H [] []
  | cons {v : V} {d : Dt} {vs : List V} {ds : List Dt} : Rep K H v d → Reps K H vs ds → Reps K H (v :: vs) (d :: ds)
inductive RepF (K : PySem.W.Frag) (H : Hp) : List (Str × V) → List (Str × Dt) → Prop
  | nil : RepF K H [] []
  | cons {f : Str} {v : V} {d : Dt} {vs : List (Str × V)} {ds : List (Str × Dt)} : Rep K H v d → RepF K H vs ds → RepF K H ((f, v) :: vs) ((f, d) :: ds)
end

theorem sqT_mono {K : PySem.W.Frag} {H H' : Hp} {a : Addr} {xs : List V} (e : Same H H') (h : SqT K H a xs) : SqT K H' a xs := by
  rcases h with (h | ⟨o, h⟩) | h
  · exact .inl (.inl (e _ _ h))
  · exact .inl (.inr ⟨o, e _ _ h⟩)
  · exact .inr h

mutual
theorem Rep.mono {K : PySem.W.Frag} {H H' : Hp} (e : Same H H') : ∀ {v : V} {d : Dt}, Rep K H v d → Rep K H' v d
  | _, _, .non => .non
  | _, _, .bl b => .bl b
  | _, _, .int i => .int i
  | _, _, .str s => .str s
  | _, _, .ty n => .ty n
  | _, _, .tup h r => .tup (sqT_mono e h) (Reps.mono e r)
  | _, _, .lst h r => .lst (e.seq h) (Reps.mono e r)
  | _, _, .obj h r => .obj (e _ _ h) (RepF.mono e r)
theorem Reps.mono {K : PySem.W.Frag} {H H' : Hp} (e : Same H H') : ∀ {vs : List V} {ds : List Dt}, Reps K H vs ds → Reps K H' vs ds
  | _, _, .nil => .nil
  | _, _, .cons h r => .cons (Rep.mono e h) (Reps.mono e r)
theorem RepF.mono {K : PySem.W.Frag} {H H' : Hp} (e : Same H H') : ∀ {vs : List (Str × V)} {ds : List (Str × Dt)}, RepF K H vs ds → RepF K H' vs ds
  | _, _, .nil => .nil
  | _, _, .cons h r => .cons (Rep.mono e h) (RepF.mono e r)
end
theorem Reps.length {K : PySem.W.Frag} {H : Hp} : ∀ {vs : List V} {ds : List Dt}, Reps K H vs ds → vs.length = ds.length
  | _, _, .nil => rfl
  | _, _, .cons _ r => congrArg (· + 1) r.length
theorem Reps.get {K : PySem.W.Frag} {H : Hp} : ∀ {vs : List V} {ds : List Dt} {i : Nat} {d : Dt}, Reps K H vs ds → ds[i]? = some d → ∃ v, vs[i]? = some v ∧ Rep K H v d
  | _, _, _, _, .nil, e => by simp at e
  | _, _, 0, _, .cons h r, e => by simp at e; subst e; exact ⟨_, rfl, h⟩
  | _, _, i + 1, _, .cons h r, e => by
    obtain ⟨v, h1, h2⟩ := Reps.get (i := i) r (by simpa using e)
    exact ⟨v, by simpa using h1, h2⟩
theorem Reps.get' {K : PySem.W.Frag} {H : Hp} : ∀ {vs : List V} {ds : List Dt} {i : Nat} {v : V}, Reps K H vs ds → vs[i]? = some v → ∃ d, ds[i]? = some d ∧ Rep K H v d
  | _, _, _, _, .nil, e => by simp at e
  | _, _, 0, _, .cons h r, e => by simp at e; subst e; exact ⟨_, rfl, h⟩
  | _, _, i + 1, _, .cons h r, e => by
    obtain ⟨v, h1, h2⟩ := Reps.get' (i := i) r (by simpa using e)
    exact ⟨v, by simpa using h1, h2⟩
theorem Reps.append {K : PySem.W.Frag} {H : Hp} : ∀ {vs ws : List V} {ds es : List Dt}, Reps K H vs ds → Reps K H ws es → Reps K H (vs ++ ws) (ds ++ es)
  | _, _, _, _, .nil, s => s
  | _, _, _, _, .cons h r, s => .cons h (Reps.append r s)
theorem Reps.set {K : PySem.W.Frag} {H : Hp} {v : V} {d : Dt} (hv : Rep K H v d) : ∀ {vs : List V} {ds : List Dt} (i : Nat), Reps K H vs ds → Reps K H (vs.set i v) (ds.set i d)
  | _, _, _, .nil => .nil
  | _, _, 0, .cons _ r => .cons hv r
  | _, _, i + 1, .cons h r => .cons h (Reps.set hv i r)
theorem Reps.take {K : PySem.W.Frag} {H : Hp} : ∀ {vs : List V} {ds : List Dt} (n : Nat), Reps K H vs ds → Reps K H (vs.take n) (ds.take n)
  | _, _, 0, _ => .nil
  | _, _, _ + 1, .nil => .nil
  | _, _, n + 1, .cons h r => .cons h (Reps.take n r)
theorem Reps.drop {K : PySem.W.Frag} {H : Hp} : ∀ {vs : List V} {ds : List Dt} (n : Nat), Reps K H vs ds → Reps K H (vs.drop n) (ds.drop n)
  | _, _, 0, r => r
  | _, _, _ + 1, .nil => .nil
  | _, _, n + 1, .cons h r => Reps.drop n r
theorem RepF.lookup {K : PySem.W.Frag} {H : Hp} {f : Str} {d : Dt} : ∀ {vs : List (Str × V)} {ds : List (Str × Dt)}, RepF K H vs ds → ds.lookup f = some d → ∃ v, vs.lookup f = some v ∧ Rep K H v d
  | _, _, .nil, e => by cases e
  | _, _, .cons (f := g) h r, e => by
    rw [List.lookup_cons] at e ⊢
    cases q : f == g with
    | true => rw [q] at e; cases e; exact ⟨_, rfl, h⟩
    | false => rw [q] at e; exact RepF.lookup r e
theorem RepF.lookup_none {K : PySem.W.Frag} {H : Hp} {f : Str} : ∀ {vs : List (Str × V)} {ds : List (Str × Dt)}, RepF K H vs ds → ds.lookup f = none → vs.lookup f = none
  | _, _, .nil, e => rfl
  | _, _, .cons (f := g) h r, e => by
    rw [List.lookup_cons] at e ⊢
    cases q : f == g with
    | true => rw [q] at e; cases e
    | false => rw [q] at e; exact RepF.lookup_none r e
def putD (f : Str) (d : Dt) : List (Str × Dt) → List (Str × Dt)
  | [] => [(f, d)]
  | (g, e) :: r => if g = f then (g, d) :: r else (g, e) :: putD f d r
end DL

namespace DL
open PySem L2

/-! ### slots and states -/
inductive Sl where
  | un
  | d (x : Dt)
  | own (p : Option Addr) (xs : List Dt)
  | obo (p : Option Addr) (C : Addr) (fs : List (Str × Dt))

def Sl.isOwn : Sl → Bool
  | .own _ _ => true
  | .obo _ _ _ => true
  | _ => false

def SlOk (K : PySem.W.Frag) (F G H : Hp) (o : Option V) : Sl → Prop
  | .un => True
  | .d x => ∃ v, o = some v ∧ Rep K G v x
  | .own a xs => ∃ p vs, o = some (.ref p) ∧ G p = none ∧ F p = none ∧ H p = some (.lst vs) ∧ Reps K G vs xs ∧ ∀ q, a = some q → q = p
  | .obo a C fs => ∃ p dx vs, o = some (.ref p) ∧ G p = none ∧ F p = none ∧ H p = some (.ins C dx vs) ∧ RepF K G vs fs ∧ ∀ q, a = some q → q = p

/-- F: what is another's, G: what is known and stands, H: the heap -/
structure Stt (K : PySem.W.Frag) (F G H : Hp) (σ : L2.St) (es : List Sl) : Prop where
  f : Same F H
  g : Same G H
  dj : ∀ a o, F a = some o → G a = none
  len : σ.length = es.length
  sl : ∀ (i : Nat) (s : Sl), es[i]? = some s → ∃ o, σ[i]? = some o ∧ SlOk K F G H o s
  ow : ∀ (i j : Nat) (s t : Sl), i ≠ j → es[i]? = some s → es[j]? = some t → s.isOwn = true → t.isOwn = true → σ[i]? ≠ σ[j]?

section
variable {K : PySem.W.Frag} {F G H F' G' H' : Hp} {σ σ' : L2.St} {es : List Sl}

theorem not_some {H : Hp} {a : Addr} (h : ∀ o, H a = some o → False) : H a = none := by
  cases q : H a with
  | none => rfl
  | some o => exact (h o q).elim
theorem Stt.fnone (s : Stt K F G H σ es) {p : Addr} (h : H p = none) : F p = none := not_some fun o q => by
  have := s.f p o q
  rw [h] at this
  cases this
theorem Stt.gnone (s : Stt K F G H σ es) {p : Addr} (h : H p = none) : G p = none := not_some fun o q => by
  have := s.g p o q
  rw [h] at this
  cases this
theorem same_upd {H : Hp} {p : Addr} {o : HO} (h : H p = none) : Same H (upd H p o) := fun a u e => by
  rw [upd_ne (ne_of_none e h)]
  exact e
/-- heaps grow -/
theorem SlOk.grow {o : Option V} {s : Sl} (h : SlOk K F G H o s) (eg : Same G G') (eh : ∀ p u, G p = none → F p = none → H p = some u → H' p = some u) (hn : ∀ p, G p = none → (∃ u, H p = some u) → F p = none → G' p = none ∧ F' p = none) : SlOk K F' G' H' o s := by
  cases s with
  | un => trivial
  | d x =>
    obtain ⟨v, e, r⟩ := h
    exact ⟨v, e, r.mono eg⟩
  | own a xs =>
    obtain ⟨p, vs, e, g, f, hp, r, an⟩ := h
    obtain ⟨g', f'⟩ := hn p g ⟨_, hp⟩ f
    exact ⟨p, vs, e, g', f', eh p _ g f hp, r.mono eg, an⟩
  | obo a C fs =>
    obtain ⟨p, dx, vs, e, g, f, hp, r, an⟩ := h
    obtain ⟨g', f'⟩ := hn p g ⟨_, hp⟩ f
    exact ⟨p, dx, vs, e, g', f', eh p _ g f hp, r.mono eg, an⟩
/-- a new object that is known from now on -/
theorem Stt.new (s : Stt K F G H σ es) {p : Addr} {o : HO} (h : H p = none) : Stt K F (upd G p o) (upd H p o) σ es where
  f := s.f.trans (same_upd h)
  g := fun a u e => by
    by_cases q : a = p
    · subst q
      rw [upd_same] at e ⊢
      exact e
    · rw [upd_ne q] at e ⊢
      exact s.g a u e
  dj := fun a u e => by
    have : a ≠ p := fun q => by
      subst q
      rw [s.fnone h] at e
      cases e
    rw [upd_ne this]
    exact s.dj a u e
  len := s.len
  sl := fun i t e => by
    obtain ⟨x, hx, k⟩ := s.sl i t e
    refine ⟨x, hx, k.grow (same_upd (s.gnone h)) (fun q u _ _ e => by rw [upd_ne (ne_of_none e h)]; exact e) fun q g ⟨u, hu⟩ f => ⟨by rw [upd_ne (ne_of_none hu h)]; exact g, f⟩⟩
  ow := s.ow
/-- a new object that is nobody's -/
theorem Stt.lay (s : Stt K F G H σ es) {p : Addr} {o : HO} (h : H p = none) : Stt K F G (upd H p o) σ es where
  f := s.f.trans (same_upd h)
  g := s.g.trans (same_upd h)
  dj := s.dj
  len := s.len
  sl := fun i t e => by
    obtain ⟨x, hx, k⟩ := s.sl i t e
    exact ⟨x, hx, k.grow (Same.refl _) (fun q u _ _ e => by rw [upd_ne (ne_of_none e h)]; exact e) fun q g _ f => ⟨g, f⟩⟩
  ow := s.ow
/-- what of H is not known -/
def rem (G H : Hp) : Hp := fun a => match G a with
  | none => H a
  | some _ => none
theorem rem_some {G H : Hp} {a : Addr} {o : HO} (h : rem G H a = some o) : H a = some o ∧ G a = none := by
  unfold rem at h
  cases q : G a with
  | none => rw [q] at h; exact ⟨h, rfl⟩
  | some x => rw [q] at h; cases h
theorem rem_of {G H : Hp} {a : Addr} (h : G a = none) : rem G H a = H a := by
  unfold rem
  rw [h]
/-- behind a call: all that was not known stands -/
theorem Stt.after (s : Stt K F G H σ es) (f : Same (rem G H) H') (g : Same G' H') (dj : ∀ a o, rem G H a = some o → G' a = none) (gg : Same G G') : Stt K F G' H' σ es where
  f := fun a o e => f a o (by rw [rem_of (s.dj a o e)]; exact s.f a o e)
  g := g
  dj := fun a o e => dj a o (by rw [rem_of (s.dj a o e)]; exact s.f a o e)
  len := s.len
  sl := fun i t e => by
    obtain ⟨x, hx, k⟩ := s.sl i t e
    exact ⟨x, hx, k.grow gg (fun q u hg _ e => f q u (by rw [rem_of hg]; exact e)) fun q hg ⟨u, hu⟩ hf => ⟨dj q u (by rw [rem_of hg]; exact hu), hf⟩⟩
  ow := s.ow

/-- a slot is set to data -/
theorem Stt.set (s : Stt K F G H σ es) {i : Nat} {v : V} {d : Dt} (r : Rep K G v d) : Stt K F G H (σ.set i (some v)) (es.set i (.d d)) where
  f := s.f
  g := s.g
  dj := s.dj
  len := by rw [List.length_set, List.length_set]; exact s.len
  sl := fun j t e => by
    by_cases q : i = j
    · subst q
      have hj : i < es.length := by
        have := (List.getElem?_eq_some_iff.mp e).1
        rwa [List.length_set] at this
      rw [List.getElem?_set_self hj] at e
      cases e
      exact ⟨some v, List.getElem?_set_self (by rw [s.len]; exact hj), v, rfl, r⟩
    · rw [List.getElem?_set_ne q] at e
      rw [List.getElem?_set_ne q]
      exact s.sl j t e
  ow := fun a b t u ne ea eb ha hb => by
    have na : i ≠ a := fun q => by
      subst q
      have hj : i < es.length := by
        have := (List.getElem?_eq_some_iff.mp ea).1
        rwa [List.length_set] at this
      rw [List.getElem?_set_self hj] at ea
      cases ea
      cases ha
    have nb : i ≠ b := fun q => by
      subst q
      have hj : i < es.length := by
        have := (List.getElem?_eq_some_iff.mp eb).1
        rwa [List.length_set] at this
      rw [List.getElem?_set_self hj] at eb
      cases eb
      cases hb
    rw [List.getElem?_set_ne na] at ea
    rw [List.getElem?_set_ne nb] at eb
    rw [List.getElem?_set_ne na, List.getElem?_set_ne nb]
    exact s.ow a b t u ne ea eb ha hb
/-- a slot is set to an object that is laid just now -/
theorem Stt.setOwn (s : Stt K F G H σ es) {i : Nat} {p : Addr} {t : Sl} {H' : Hp} (hn : H p = none) (eh : ∀ a o, H a = some o → H' a = some o) (ht : t.isOwn = true) (k : SlOk K F G H' (some (.ref p)) t) : Stt K F G H' (σ.set i (some (.ref p))) (es.set i t) where
  f := fun a o e => eh a o (s.f a o e)
  g := fun a o e => eh a o (s.g a o e)
  dj := s.dj
  len := by rw [List.length_set, List.length_set]; exact s.len
  sl := fun j u e => by
    by_cases q : i = j
    · subst q
      have hj : i < es.length := by
        have := (List.getElem?_eq_some_iff.mp e).1
        rwa [List.length_set] at this
      rw [List.getElem?_set_self hj] at e
      cases e
      exact ⟨_, List.getElem?_set_self (by rw [s.len]; exact hj), k⟩
    · rw [List.getElem?_set_ne q] at e
      rw [List.getElem?_set_ne q]
      obtain ⟨x, hx, k⟩ := s.sl j u e
      exact ⟨x, hx, k.grow (Same.refl _) (fun q u _ _ e => eh q u e) fun q g _ f => ⟨g, f⟩⟩
  ow := fun a b u w ne ea eb ha hb => by
    have other : ∀ j z, i ≠ j → (es.set i t)[j]? = some z → z.isOwn = true → σ[j]? ≠ some (some (.ref p)) := fun j z nj ej hz q => by
      rw [List.getElem?_set_ne nj] at ej
      obtain ⟨x, hx, k⟩ := s.sl j z ej
      rw [hx] at q
      cases q
      cases z with
      | un => cases hz
      | d x => cases hz
      | own a xs =>
        obtain ⟨p', vs, e, _, _, hp, _⟩ := k
        cases e
        rw [hn] at hp
        cases hp
      | obo a C fs =>
        obtain ⟨p', dx, vs, e, _, _, hp, _⟩ := k
        cases e
        rw [hn] at hp
        cases hp
    by_cases na : i = a
    · subst na
      have hj : i < es.length := by
        have := (List.getElem?_eq_some_iff.mp ea).1
        rwa [List.length_set] at this
      rw [List.getElem?_set_self (by rw [s.len]; exact hj), List.getElem?_set_ne ne]
      exact fun q => other b w ne eb hb q.symm
    · by_cases nb : i = b
      · subst nb
        have hj : i < es.length := by
          have := (List.getElem?_eq_some_iff.mp eb).1
          rwa [List.length_set] at this
        rw [List.getElem?_set_self (by rw [s.len]; exact hj), List.getElem?_set_ne na]
        exact other a u na ea ha
      · rw [List.getElem?_set_ne na] at ea ⊢
        rw [List.getElem?_set_ne nb] at eb ⊢
        exact s.ow a b u w ne ea eb ha hb
/-- slots forgotten -/
def Wk : List Sl → List Sl → Prop
  | [], [] => True
  | a :: as, b :: bs => (b = .un ∨ a = b) ∧ Wk as bs
  | _, _ => False
theorem Wk.len : ∀ {as bs : List Sl}, Wk as bs → as.length = bs.length
  | [], [], _ => rfl
  | _ :: _, _ :: _, h => congrArg (· + 1) (Wk.len h.2)
  | [], _ :: _, h => h.elim
  | _ :: _, [], h => h.elim
theorem Wk.get : ∀ {as bs : List Sl} {i : Nat} {b : Sl}, Wk as bs → bs[i]? = some b → ∃ a, as[i]? = some a ∧ (b = .un ∨ a = b)
  | [], [], _, _, _, e => by simp at e
  | a :: as, b :: bs, 0, c, h, e => by simp at e; subst e; exact ⟨a, rfl, h.1⟩
  | a :: as, b :: bs, i + 1, c, h, e => by
    obtain ⟨x, h1, h2⟩ := Wk.get (i := i) h.2 (by simpa using e)
    exact ⟨x, by simpa using h1, h2⟩
  | [], _ :: _, _, _, h, _ => h.elim
  | _ :: _, [], _, _, h, _ => h.elim
theorem Wk.refl : ∀ (as : List Sl), Wk as as
  | [] => trivial
  | _ :: as => ⟨.inr rfl, Wk.refl as⟩
theorem Stt.wk (s : Stt K F G H σ es) {fs : List Sl} (w : Wk es fs) : Stt K F G H σ fs where
  f := s.f
  g := s.g
  dj := s.dj
  len := by rw [s.len, w.len]
  sl := fun i t e => by
    obtain ⟨a, ha, q⟩ := w.get e
    obtain ⟨x, hx, k⟩ := s.sl i a ha
    refine ⟨x, hx, ?_⟩
    rcases q with q | q
    · subst q; trivial
    · subst q; exact k
  ow := fun i j t u ne ei ej hi hj => by
    obtain ⟨a, ha, q⟩ := w.get ei
    obtain ⟨b, hb, q'⟩ := w.get ej
    have ea : a = t := by
      rcases q with q | q
      · subst q; cases hi
      · exact q
    have eb : b = u := by
      rcases q' with q | q
      · subst q; cases hj
      · exact q
    subst ea eb
    exact s.ow i j a b ne ha hb hi hj
end

/-! ### what an expression gives -/
def Ev (K : PySem.W.Frag) (te : TE) (es : List Sl) (d : Dt) : Prop := ∀ F G H σ, Stt K F G H σ es → ∀ Q : VK, (∀ v G' H', Stt K F G' H' σ es → Same G G' → Rep K G' v d → Q v H') → te σ H Q
def EvT (K : PySem.W.Frag) (t : TT) (es : List Sl) (b : Bool) : Prop := ∀ F G H σ, Stt K F G H σ es → ∀ Q : Bool → Hp → Prop, (∀ G' H', Stt K F G' H' σ es → Same G G' → Q b H') → t σ H Q
def EvA (K : PySem.W.Frag) (ta : TA) (es : List Sl) (ds : List Dt) : Prop := ∀ F G H σ, Stt K F G H σ es → ∀ Q : List V → Hp → Prop, (∀ vs G' H', Stt K F G' H' σ es → Same G G' → Reps K G' vs ds → Q vs H') → ta σ H Q
def EvO (K : PySem.W.Frag) (t : TO) (es : List Sl) (o : Option Int) : Prop := ∀ F G H σ, Stt K F G H σ es → ∀ Q : Option Int → Hp → Prop, (∀ G' H', Stt K F G' H' σ es → Same G G' → Q o H') → t σ H Q
/-- a two-place operation on data -/
def R2D (K : PySem.W.Frag) (r : R2) (a b c : Dt) : Prop := ∀ F G H σ es x y, Stt K F G H σ es → Rep K G x a → Rep K G y b → ∀ Q : VK, (∀ v G' H', Stt K F G' H' σ es → Same G G' → Rep K G' v c → Q v H') → r x y H Q
def R1D (K : PySem.W.Frag) (r : V → Hp → VK → Prop) (a c : Dt) : Prop := ∀ F G H σ es x, Stt K F G H σ es → Rep K G x a → ∀ Q : VK, (∀ v G' H', Stt K F G' H' σ es → Same G G' → Rep K G' v c → Q v H') → r x H Q
def RLD (K : PySem.W.Frag) (r : List V → Hp → VK → Prop) (as : List Dt) (c : Dt) : Prop := ∀ F G H σ es xs, Stt K F G H σ es → Reps K G xs as → ∀ Q : VK, (∀ v G' H', Stt K F G' H' σ es → Same G G' → Rep K G' v c → Q v H') → r xs H Q

section
variable {K : PySem.W.Frag} {es : List Sl} {ta tb te : TE} {t u : TT} {a b c d : Dt} {r : R2}

theorem ev_is (h : Ev K te es a) (e : a = b) : Ev K te es b := e ▸ h
theorem et_is {x y : Bool} (h : EvT K t es x) (e : x = y) : EvT K t es y := e ▸ h
theorem ev_var {i : Nat} (h : es[i]? = some (.d d)) : Ev K (tVar i) es d := fun F G H σ s Q q => by
  obtain ⟨o, ho, v, e, r⟩ := s.sl i _ h
  subst e
  exact ⟨v, ho, q v G H s (Same.refl _) r⟩
theorem ev_int {i : Int} : Ev K (tC (.int i)) es (.int i) := fun F G H σ s Q q => q _ G H s (Same.refl _) (.int i)
theorem ev_bl {i : Bool} : Ev K (tC (.bl i)) es (.bl i) := fun F G H σ s Q q => q _ G H s (Same.refl _) (.bl i)
theorem ev_str {i : Str} : Ev K (tC (.str i)) es (.str i) := fun F G H σ s Q q => q _ G H s (Same.refl _) (.str i)
theorem ev_non : Ev K (tC .non) es .non := fun F G H σ s Q q => q _ G H s (Same.refl _) .non
theorem ev_op (ha : Ev K ta es a) (hb : Ev K tb es b) (hr : R2D K r a b c) : Ev K (tOp r ta tb) es c := fun F G H σ s Q q =>
  ha F G H σ s _ fun x G1 H1 s1 g1 r1 => hb F G1 H1 σ s1 _ fun y G2 H2 s2 g2 r2 => hr F G2 H2 σ es x y s2 (r1.mono g2) r2 Q fun v G3 H3 s3 g3 r3 => q v G3 H3 s3 (g1.trans (g2.trans g3)) r3
theorem ev_un {r : V → Hp → VK → Prop} (ha : Ev K ta es a) (hr : R1D K r a c) : Ev K (tUn r ta) es c := fun F G H σ s Q q =>
  ha F G H σ s _ fun x G1 H1 s1 g1 r1 => hr F G1 H1 σ es x s1 r1 Q fun v G3 H3 s3 g3 r3 => q v G3 H3 s3 (g1.trans g3) r3
theorem ea_nil : EvA K tNil es [] := fun F G H σ s Q q => q [] G H s (Same.refl _) .nil
theorem ea_cons {tr : TA} {ds : List Dt} (ha : Ev K ta es a) (hr : EvA K tr es ds) : EvA K (tCons ta tr) es (a :: ds) := fun F G H σ s Q q =>
  ha F G H σ s _ fun x G1 H1 s1 g1 r1 => hr F G1 H1 σ s1 _ fun xs G2 H2 s2 g2 r2 => q _ G2 H2 s2 (g1.trans g2) (.cons (r1.mono g2) r2)
theorem ev_tup {t : TA} {ds : List Dt} (h : EvA K t es ds) (hl : ds.length ≤ 100000) : Ev K (tTup t) es (.tup ds) := fun F G H σ s Q q =>
  h F G H σ s _ fun xs G1 H1 s1 g1 r1 => ⟨by rw [r1.length]; exact Nat.le_trans hl (by decide), fun p hp =>
    q _ _ _ (s1.new hp) (g1.trans (same_upd (s1.gnone hp))) (.tup (.inl (.inl upd_same)) (r1.mono (same_upd (s1.gnone hp))))⟩
theorem ev_cb {t : TA} {r : List V → Hp → VK → Prop} {ds : List Dt} (h : EvA K t es ds) (hr : RLD K r ds c) : Ev K (tCB r t) es c := fun F G H σ s Q q =>
  h F G H σ s _ fun xs G1 H1 s1 g1 r1 => hr F G1 H1 σ es xs s1 r1 Q fun v G2 H2 s2 g2 r2 => q v G2 H2 s2 (g1.trans g2) r2

/-! ### operations on ints -/
theorem r2_I0 {g : Int → Int → V} {i j : Int} {c : Dt} (hg : ∀ G, Rep K G (g i j) c) : R2D K (rI0 g) (.int i) (.int j) c := fun F G H σ es x y s rx ry Q q => by
  cases rx
  cases ry
  exact ⟨i, j, rfl, rfl, q _ G H s (Same.refl _) (hg G)⟩
theorem r2_I {C : Int → Int → Prop} {g : Int → Int → V} {i j : Int} {c : Dt} (hc : C i j) (hg : ∀ G, Rep K G (g i j) c) : R2D K (rI C g) (.int i) (.int j) c := fun F G H σ es x y s rx ry Q q => by
  cases rx
  cases ry
  exact ⟨i, j, rfl, rfl, hc, q _ G H s (Same.refl _) (hg G)⟩
theorem r2_int {g : Int → Int → Int} {i j : Int} : R2D K (rI0 fun i j => .int (g i j)) (.int i) (.int j) (.int (g i j)) := r2_I0 fun _ => .int _
theorem r2_bl {g : Int → Int → Bool} {i j : Int} : R2D K (rI0 fun i j => .bl (g i j)) (.int i) (.int j) (.bl (g i j)) := r2_I0 fun _ => .bl _
theorem r2_intC {C : Int → Int → Prop} {g : Int → Int → Int} {i j : Int} (hc : C i j) : R2D K (rI C fun i j => .int (g i j)) (.int i) (.int j) (.int (g i j)) := r2_I hc fun _ => .int _
theorem r1_int {g : Int → Int} {i : Int} : R1D K (rU fun i => .int (g i)) (.int i) (.int (g i)) := fun F G H σ es x s rx Q q => by
  cases rx
  exact ⟨i, rfl, q _ G H s (Same.refl _) (.int _)⟩
theorem r1_neg {i : Int} : R1D K (rU fun i => .int (-i)) (.int i) (.int (-i)) := r1_int

/-! the operations that ask something, as partial functions -/
def mulC (i j : Int) : Option Int := if i.natAbs.log2 + j.natAbs.log2 < 100000000 then some (i * j) else none
def divC (i j : Int) : Option Int := if 0 < j ∧ j.natAbs.log2 < 9000 then some (i / j) else none
def modC (i j : Int) : Option Int := if 0 < j then some (i % j) else none
def powC (i j : Int) : Option Int := if 0 ≤ j ∧ ((i.natAbs.log2 : Int) + 1) * j ≤ 134217728 then some (i ^ j.toNat) else none
def shlC (i j : Int) : Option Int := if 0 ≤ j ∧ (i.natAbs.log2 : Int) + 1 + j ≤ 134217728 then some (i * 2 ^ j.toNat) else none
def shrC (i j : Int) : Option Int := if 0 ≤ j then some (i / 2 ^ j.toNat) else none
theorem bits_lg (x : Int) : (Builtin.Int.intBits x : Int) ≤ (x.natAbs.log2 : Int) + 1 := by
  unfold Builtin.Int.intBits
  split <;> omega
def CPowG (i j : Int) : Prop := 0 ≤ j ∧ ((i.natAbs.log2 : Int) + 1) * j ≤ 134217728
def CShlG (i j : Int) : Prop := 0 ≤ j ∧ (i.natAbs.log2 : Int) + 1 + j ≤ 134217728
theorem CPowG.ok {i j : Int} (h : CPowG i j) : (Builtin.Int.intBits i : Int) * j ≤ 2 ^ 27 := by
  have := Int.mul_le_mul_of_nonneg_right (bits_lg i) h.1
  have := h.2
  omega
theorem CShlG.ok {i j : Int} (h : CShlG i j) : (Builtin.Int.intBits i : Int) + j ≤ 2 ^ 27 := by
  have := bits_lg i
  have := h.2
  omega
theorem op_powG {X : Cx} : OpR X (binaryOp .Pow) (rI CPowG fun i j => .int (i ^ j.toNat)) := opI fun _ _ _ _ _ _ _ hc q => PyProof.Rows.pow_int hc.1 hc.ok q
theorem op_shlG {X : Cx} : OpR X (binaryOp .LShift) (rI CShlG fun i j => .int (i * 2 ^ j.toNat)) := opI fun _ _ _ _ _ _ _ hc q => PyProof.Rows.lshift_int hc.1 hc.ok q
/-- * of two factors of together less than a hundred million bits -/
def CMulG (i j : Int) : Prop := i.natAbs.log2 + j.natAbs.log2 < 100000000
theorem CMulG.ok {i j : Int} (h : CMulG i j) : IntMulOk i j := by
  have b : ∀ x : Int, Builtin.Int.intBits x ≤ x.natAbs.log2 + 1 := fun x => by
    unfold Builtin.Int.intBits
    split <;> omega
  have h1 := b i
  have h2 := b j
  have h3 : i.natAbs.log2 + j.natAbs.log2 < 100000000 := h
  have e : bitsLine = 134217728 := by decide
  unfold IntMulOk
  intro z
  rw [Bool.and_eq_true] at z
  have z2 := z.2
  unfold Builtin.Int.intTooBig at z2
  have z3 := of_decide_eq_true z2
  rw [e] at z3
  omega
theorem op_mulG {X : Cx} : OpR X (binaryOp .Mult) (rI CMulG fun i j => .int (i * j)) := opI fun _ _ _ _ _ _ _ hc q => PyProof.Rows.mul_int q hc.ok
theorem ite_some {α : Type} {p : Prop} [Decidable p] {x y : α} (h : (if p then some x else none) = some y) : p ∧ x = y := by
  by_cases q : p
  · rw [if_pos q] at h
    exact ⟨q, Option.some.inj h⟩
  · rw [if_neg q] at h
    cases h
theorem ev_mul {i j k : Int} (ha : Ev K ta es (.int i)) (hb : Ev K tb es (.int j)) (h : mulC i j = some k) : Ev K (tOp (rI CMulG fun i j => .int (i * j)) ta tb) es (.int k) := by
  obtain ⟨h1, h2⟩ := ite_some h
  subst h2
  exact ev_op ha hb (r2_intC h1)
theorem ev_div {i j k : Int} (ha : Ev K ta es (.int i)) (hb : Ev K tb es (.int j)) (h : divC i j = some k) : Ev K (tOp (rI CDivW fun i j => .int (i / j)) ta tb) es (.int k) := by
  obtain ⟨h1, h2⟩ := ite_some h
  subst h2
  exact ev_op ha hb (r2_intC h1)
theorem ev_mod {i j k : Int} (ha : Ev K ta es (.int i)) (hb : Ev K tb es (.int j)) (h : modC i j = some k) : Ev K (tOp (rI (fun _ j => 0 < j) fun i j => .int (i % j)) ta tb) es (.int k) := by
  obtain ⟨h1, h2⟩ := ite_some h
  subst h2
  exact ev_op ha hb (r2_I h1 fun _ => .int _)
theorem ev_pow {i j k : Int} (ha : Ev K ta es (.int i)) (hb : Ev K tb es (.int j)) (h : powC i j = some k) : Ev K (tOp (rI CPowG fun i j => .int (i ^ j.toNat)) ta tb) es (.int k) := by
  obtain ⟨h1, h2⟩ := ite_some h
  subst h2
  exact ev_op ha hb (r2_intC h1)
theorem ev_shl {i j k : Int} (ha : Ev K ta es (.int i)) (hb : Ev K tb es (.int j)) (h : shlC i j = some k) : Ev K (tOp (rI CShlG fun i j => .int (i * 2 ^ j.toNat)) ta tb) es (.int k) := by
  obtain ⟨h1, h2⟩ := ite_some h
  subst h2
  exact ev_op ha hb (r2_intC h1)
theorem ev_shr {i j k : Int} (ha : Ev K ta es (.int i)) (hb : Ev K tb es (.int j)) (h : shrC i j = some k) : Ev K (tOp (rI (fun _ j => 0 ≤ j) fun i j => .int (i / 2 ^ j.toNat)) ta tb) es (.int k) := by
  obtain ⟨h1, h2⟩ := ite_some h
  subst h2
  exact ev_op ha hb (r2_I h1 fun _ => .int _)
theorem ev_add {i j : Int} (ha : Ev K ta es (.int i)) (hb : Ev K tb es (.int j)) : Ev K (tOp (rI0 fun i j => .int (i + j)) ta tb) es (.int (i + j)) := ev_op ha hb r2_int
theorem ev_sub {i j : Int} (ha : Ev K ta es (.int i)) (hb : Ev K tb es (.int j)) : Ev K (tOp (rI0 fun i j => .int (i - j)) ta tb) es (.int (i - j)) := ev_op ha hb r2_int
theorem ev_neg {i : Int} (ha : Ev K ta es (.int i)) : Ev K (tUn (rU fun i => .int (-i)) ta) es (.int (-i)) := ev_un ha r1_neg
theorem ev_lt {i j : Int} (ha : Ev K ta es (.int i)) (hb : Ev K tb es (.int j)) : Ev K (tOp (rI0 fun i j => .bl (decide (i < j))) ta tb) es (.bl (decide (i < j))) := ev_op ha hb r2_bl
theorem ev_le {i j : Int} (ha : Ev K ta es (.int i)) (hb : Ev K tb es (.int j)) : Ev K (tOp (rI0 fun i j => .bl (decide (i ≤ j))) ta tb) es (.bl (decide (i ≤ j))) := ev_op ha hb r2_bl
theorem ev_gt {i j : Int} (ha : Ev K ta es (.int i)) (hb : Ev K tb es (.int j)) : Ev K (tOp (rI0 fun i j => .bl (decide (j < i))) ta tb) es (.bl (decide (j < i))) := ev_op ha hb r2_bl
theorem ev_ge {i j : Int} (ha : Ev K ta es (.int i)) (hb : Ev K tb es (.int j)) : Ev K (tOp (rI0 fun i j => .bl (decide (j ≤ i))) ta tb) es (.bl (decide (j ≤ i))) := ev_op ha hb r2_bl
/-- what is one value without objects -/
def fl : Dt → V
  | .non => .non | .bl b => .bl b | .int i => .int i | .str s => .str s | _ => .ref 0
def isFl : Dt → Bool
  | .non => true | .bl _ => true | .int _ => true | .str _ => true | _ => false
theorem rep_fl {G : Hp} {x : V} {d : Dt} (h : isFl d = true) (r : Rep K G x d) : x = fl d := by
  cases r <;> first | rfl | cases h
theorem r2_eq {a b : Dt} (h : scal (fl a) (fl b) = true) (ha : isFl a = true) (hb : isFl b = true) : R2D K rEq a b (.bl (decide (fl a = fl b))) := fun F G H σ es x y s rx ry Q q => by
  rw [rep_fl ha rx, rep_fl hb ry]
  exact ⟨h, q _ G H s (Same.refl _) (.bl _)⟩
theorem r2_ne {a b : Dt} (h : scal (fl a) (fl b) = true) (ha : isFl a = true) (hb : isFl b = true) : R2D K rNe a b (.bl (!decide (fl a = fl b))) := fun F G H σ es x y s rx ry Q q => by
  rw [rep_fl ha rx, rep_fl hb ry]
  exact ⟨h, q _ G H s (Same.refl _) (.bl _)⟩
theorem dec_congr {p q : Prop} [Decidable p] [Decidable q] (h : p ↔ q) : decide p = decide q := by
  by_cases e : p
  · rw [decide_eq_true e, decide_eq_true (h.mp e)]
  · rw [decide_eq_false e, decide_eq_false fun z => e (h.mpr z)]
theorem ev_eqI {i j : Int} (ha : Ev K ta es (.int i)) (hb : Ev K tb es (.int j)) : Ev K (tOp rEq ta tb) es (.bl (decide (i = j))) := by
  have h : Ev K (tOp rEq ta tb) es (.bl (decide (V.int i = V.int j))) := ev_op ha hb (r2_eq rfl rfl rfl)
  rwa [dec_congr ⟨fun q : V.int i = V.int j => V.int.inj q, fun q => congrArg _ q⟩] at h
theorem ev_neI {i j : Int} (ha : Ev K ta es (.int i)) (hb : Ev K tb es (.int j)) : Ev K (tOp rNe ta tb) es (.bl (!decide (i = j))) := by
  have h : Ev K (tOp rNe ta tb) es (.bl (!decide (V.int i = V.int j))) := ev_op ha hb (r2_ne rfl rfl rfl)
  rwa [dec_congr ⟨fun q : V.int i = V.int j => V.int.inj q, fun q => congrArg _ q⟩] at h
theorem ev_eqB {i j : Bool} (ha : Ev K ta es (.bl i)) (hb : Ev K tb es (.bl j)) : Ev K (tOp rEq ta tb) es (.bl (decide (i = j))) := by
  have h : Ev K (tOp rEq ta tb) es (.bl (decide (V.bl i = V.bl j))) := ev_op ha hb (r2_eq rfl rfl rfl)
  rwa [dec_congr ⟨fun q : V.bl i = V.bl j => V.bl.inj q, fun q => congrArg _ q⟩] at h
theorem ev_neB {i j : Bool} (ha : Ev K ta es (.bl i)) (hb : Ev K tb es (.bl j)) : Ev K (tOp rNe ta tb) es (.bl (!decide (i = j))) := by
  have h : Ev K (tOp rNe ta tb) es (.bl (!decide (V.bl i = V.bl j))) := ev_op ha hb (r2_ne rfl rfl rfl)
  rwa [dec_congr ⟨fun q : V.bl i = V.bl j => V.bl.inj q, fun q => congrArg _ q⟩] at h
theorem ev_eqS {i j : Str} (ha : Ev K ta es (.str i)) (hb : Ev K tb es (.str j)) : Ev K (tOp rEq ta tb) es (.bl (decide (i = j))) := by
  have h : Ev K (tOp rEq ta tb) es (.bl (decide (V.str i = V.str j))) := ev_op ha hb (r2_eq rfl rfl rfl)
  rwa [dec_congr ⟨fun q : V.str i = V.str j => V.str.inj q, fun q => congrArg _ q⟩] at h
theorem ev_neS {i j : Str} (ha : Ev K ta es (.str i)) (hb : Ev K tb es (.str j)) : Ev K (tOp rNe ta tb) es (.bl (!decide (i = j))) := by
  have h : Ev K (tOp rNe ta tb) es (.bl (!decide (V.str i = V.str j))) := ev_op ha hb (r2_ne rfl rfl rfl)
  rwa [dec_congr ⟨fun q : V.str i = V.str j => V.str.inj q, fun q => congrArg _ q⟩] at h

/-! ### tests, and, or, not, if -/
theorem et_test {b : Bool} (h : Ev K te es (.bl b)) : EvT K (tTest te) es b := fun F G H σ s Q q => h F G H σ s _ fun v G1 H1 s1 g1 r1 => by
  cases r1
  exact ⟨b, rfl, q G1 H1 s1 g1⟩
theorem et_B {b : Bool} (h : Ev K te es (.bl b)) : EvT K (tB te) es b := fun F G H σ s Q q => h F G H σ s _ fun v G1 H1 s1 g1 r1 => by
  cases r1
  exact ⟨b, rfl, q G1 H1 s1 g1⟩
theorem et_not {b : Bool} (h : EvT K t es b) : EvT K (tNot t) es (!b) := fun F G H σ s Q q => h F G H σ s _ fun G1 H1 s1 g1 => q G1 H1 s1 g1
theorem et_and {x y : Bool} (h1 : EvT K t es x) (h2 : x = true → EvT K u es y) : EvT K (tAnd t u) es (x && y) := fun F G H σ s Q q => h1 F G H σ s _ fun G1 H1 s1 g1 => by
  cases x with
  | true =>
    show u σ H1 Q
    exact h2 rfl F G1 H1 σ s1 Q fun G2 H2 s2 g2 => q G2 H2 s2 (g1.trans g2)
  | false => exact q G1 H1 s1 g1
theorem et_or {x y : Bool} (h1 : EvT K t es x) (h2 : x = false → EvT K u es y) : EvT K (tOr t u) es (x || y) := fun F G H σ s Q q => h1 F G H σ s _ fun G1 H1 s1 g1 => by
  cases x with
  | false =>
    show u σ H1 Q
    exact h2 rfl F G1 H1 σ s1 Q fun G2 H2 s2 g2 => q G2 H2 s2 (g1.trans g2)
  | true => exact q G1 H1 s1 g1
theorem et_andC {x z : Bool} {m : Option Bool} (h1 : EvT K t es x) (h2 : x = true → ∀ y, m = some y → EvT K u es y) (h : (if x = true then m else some false) = some z) : EvT K (tAnd t u) es z := by
  cases x with
  | true => exact et_is (et_and h1 fun e => h2 e z h) rfl
  | false =>
    have e : false = z := Option.some.inj h
    exact et_is (et_and (y := true) h1 fun e => nomatch e) e
theorem et_orC {x z : Bool} {m : Option Bool} (h1 : EvT K t es x) (h2 : x = false → ∀ y, m = some y → EvT K u es y) (h : (if x = true then some true else m) = some z) : EvT K (tOr t u) es z := by
  cases x with
  | false => exact et_is (et_or h1 fun e => h2 e z h) rfl
  | true =>
    have e : true = z := Option.some.inj h
    exact et_is (et_or (y := true) h1 fun e => nomatch e) e
theorem ev_notV {x : Bool} (h1 : Ev K ta es (.bl x)) : Ev K (tNotV ta) es (.bl (!x)) := fun F G H σ s Q q => h1 F G H σ s _ fun v G1 H1 s1 g1 r1 => by
  cases r1
  exact ⟨x, rfl, q _ G1 H1 s1 g1 (.bl _)⟩
theorem ev_andV {x y : Bool} (h1 : Ev K ta es (.bl x)) (h2 : x = true → Ev K tb es (.bl y)) : Ev K (tAndV ta tb) es (.bl (x && y)) := fun F G H σ s Q q => h1 F G H σ s _ fun v G1 H1 s1 g1 r1 => by
  cases r1
  refine ⟨x, rfl, ?_⟩
  cases x with
  | true =>
    show tb σ H1 Q
    exact h2 rfl F G1 H1 σ s1 Q fun v G2 H2 s2 g2 r2 => q v G2 H2 s2 (g1.trans g2) r2
  | false => exact q _ G1 H1 s1 g1 (.bl _)
theorem ev_orV {x y : Bool} (h1 : Ev K ta es (.bl x)) (h2 : x = false → Ev K tb es (.bl y)) : Ev K (tOrV ta tb) es (.bl (x || y)) := fun F G H σ s Q q => h1 F G H σ s _ fun v G1 H1 s1 g1 r1 => by
  cases r1
  refine ⟨x, rfl, ?_⟩
  cases x with
  | false =>
    show tb σ H1 Q
    exact h2 rfl F G1 H1 σ s1 Q fun v G2 H2 s2 g2 r2 => q v G2 H2 s2 (g1.trans g2) r2
  | true => exact q _ G1 H1 s1 g1 (.bl _)
theorem ev_andVC {x z : Bool} {m : Option Bool} (h1 : Ev K ta es (.bl x)) (h2 : x = true → ∀ y, m = some y → Ev K tb es (.bl y)) (h : (if x = true then m else some false) = some z) : Ev K (tAndV ta tb) es (.bl z) := by
  cases x with
  | true => exact ev_is (ev_andV h1 fun e => h2 e z h) rfl
  | false =>
    have e : false = z := Option.some.inj h
    exact ev_is (ev_andV (y := true) h1 fun e => nomatch e) (congrArg _ e)
theorem ev_orVC {x z : Bool} {m : Option Bool} (h1 : Ev K ta es (.bl x)) (h2 : x = false → ∀ y, m = some y → Ev K tb es (.bl y)) (h : (if x = true then some true else m) = some z) : Ev K (tOrV ta tb) es (.bl z) := by
  cases x with
  | false => exact ev_is (ev_orV h1 fun e => h2 e z h) rfl
  | true =>
    have e : true = z := Option.some.inj h
    exact ev_is (ev_orV (y := true) h1 fun e => nomatch e) (congrArg _ e)
theorem ev_if {x : Bool} (h : EvT K t es x) (h1 : x = true → Ev K ta es d) (h2 : x = false → Ev K tb es d) : Ev K (tIf t ta tb) es d := fun F G H σ s Q q => h F G H σ s _ fun G1 H1 s1 g1 => by
  cases x with
  | true =>
    show ta σ H1 Q
    exact h1 rfl F G1 H1 σ s1 Q fun v G2 H2 s2 g2 r2 => q v G2 H2 s2 (g1.trans g2) r2
  | false =>
    show tb σ H1 Q
    exact h2 rfl F G1 H1 σ s1 Q fun v G2 H2 s2 g2 r2 => q v G2 H2 s2 (g1.trans g2) r2
/-- a if t else b, both without asking -/
theorem ev_ifP {α : Type} {x : Bool} {p q : α} {em : α → Dt} (h : EvT K t es x) (h1 : Ev K ta es (em p)) (h2 : Ev K tb es (em q)) : Ev K (tIf t ta tb) es (em (if x = true then p else q)) := by
  cases x with
  | true => exact ev_if h (fun _ => h1) fun e => nomatch e
  | false => exact ev_if h (fun e => nomatch e) fun _ => h2
theorem ev_ifC {α : Type} {x : Bool} {p q : Option α} {em : α → Dt} {z : α} (h : EvT K t es x) (h1 : x = true → ∀ y, p = some y → Ev K ta es (em y)) (h2 : x = false → ∀ y, q = some y → Ev K tb es (em y)) (e : (if x = true then p else q) = some z) : Ev K (tIf t ta tb) es (em z) := by
  cases x with
  | true => exact ev_if h (fun _ => h1 rfl z e) fun e => nomatch e
  | false => exact ev_if h (fun e => nomatch e) fun _ => h2 rfl z e
/-- a op1 b op2 c -/
theorem ev_chain {r r' : R2} {tc : TE} {x y : Bool} (ha : Ev K ta es a) (hb : Ev K tb es b) (hr : R2D K r a b (.bl x)) (hc : x = true → Ev K tc es c) (hr' : x = true → R2D K r' b c (.bl y)) : Ev K (tChain r r' ta tb tc) es (.bl (x && y)) := fun F G H σ s Q q =>
  ha F G H σ s _ fun v1 G1 H1 s1 g1 r1 => hb F G1 H1 σ s1 _ fun v2 G2 H2 s2 g2 r2 => hr F G2 H2 σ es v1 v2 s2 (r1.mono g2) r2 _ fun z G3 H3 s3 g3 r3 => by
    cases r3
    refine ⟨x, rfl, ?_⟩
    cases x with
    | true =>
      show tc σ H3 fun w' H4 => r' v2 w' H4 Q
      exact hc rfl F G3 H3 σ s3 _ fun v4 G4 H4 s4 g4 r4 => hr' rfl F G4 H4 σ es v2 v4 s4 ((r2.mono g3).mono g4) r4 Q fun v5 G5 H5 s5 g5 r5 => q v5 G5 H5 s5 (g1.trans (g2.trans (g3.trans (g4.trans g5)))) r5
    | false => exact q _ G3 H3 s3 (g1.trans (g2.trans g3)) (.bl _)
theorem ev_chainC {r r' : R2} {tc : TE} {α : Type} {em : α → Dt} {x z : Bool} {m : Option α} {f : α → Bool} (ha : Ev K ta es a) (hb : Ev K tb es b) (hr : R2D K r a b (.bl x)) (hc : x = true → ∀ w, m = some w → Ev K tc es (em w)) (hr' : ∀ w, R2D K r' b (em w) (.bl (f w)))
    (h : (if x = true then m.bind fun w => some (f w) else some false) = some z) : Ev K (tChain r r' ta tb tc) es (.bl z) := by
  cases x with
  | true =>
    cases hm : m with
    | none => rw [hm] at h; cases h
    | some w =>
      rw [hm] at h
      have e : f w = z := Option.some.inj h
      exact ev_is (ev_chain ha hb hr (fun e => hc e w hm) fun _ => hr' w) (congrArg _ e)
  | false =>
    have e : false = z := Option.some.inj h
    exact ev_is (ev_chain (c := .non) (y := true) ha hb hr (fun e => nomatch e) fun e => nomatch e) (congrArg _ e)
theorem c_lt {i j : Int} : R2D K (rI0 fun i j => .bl (decide (i < j))) (.int i) (.int j) (.bl (decide (i < j))) := r2_bl
theorem c_le {i j : Int} : R2D K (rI0 fun i j => .bl (decide (i ≤ j))) (.int i) (.int j) (.bl (decide (i ≤ j))) := r2_bl
theorem c_gt {i j : Int} : R2D K (rI0 fun i j => .bl (decide (j < i))) (.int i) (.int j) (.bl (decide (j < i))) := r2_bl
theorem c_ge {i j : Int} : R2D K (rI0 fun i j => .bl (decide (j ≤ i))) (.int i) (.int j) (.bl (decide (j ≤ i))) := r2_bl
theorem c_eq {i j : Int} : R2D K rEq (.int i) (.int j) (.bl (decide (i = j))) := fun F G H σ es x y s rx ry Q q => by
  cases rx
  cases ry
  refine ⟨rfl, q _ G H s (Same.refl _) ?_⟩
  rw [dec_congr ⟨fun q : V.int i = V.int j => V.int.inj q, fun q => congrArg _ q⟩]
  exact .bl _

/-! ### subscripts, fields -/
def atC {α : Type} (xs : List α) (i : Int) : Option α := atI xs i
theorem atI_map {α β : Type} (f : α → β) (xs : List α) (i : Int) : atI (xs.map f) i = (atI xs i).map f := by
  unfold atI
  rw [List.length_map]
  cases ixN xs.length i with
  | none => rfl
  | some j =>
    show (xs.map f)[j]? = (xs[j]?).map f
    rw [List.getElem?_map]
theorem reps_at {G : Hp} {vs : List V} {ds : List Dt} {i : Int} {d : Dt} (r : Reps K G vs ds) (h : atI ds i = some d) : ∃ v, atI vs i = some v ∧ Rep K G v d := by
  unfold atI at h ⊢
  rw [r.length]
  cases q : ixN ds.length i with
  | none => rw [q] at h; cases h
  | some j =>
    rw [q] at h
    exact r.get h
theorem ev_ixT {ds : List Dt} {i : Int} (ha : Ev K ta es (.tup ds)) (hb : Ev K tb es (.int i)) (h : atI ds i = some d) : Ev K (tOp (rIxT K) ta tb) es d := ev_op ha hb fun F G H σ es x y s rx ry Q q => by
  cases rx with
  | tup hs r =>
    cases ry
    obtain ⟨v, hv, rv⟩ := reps_at r h
    exact ⟨_, _, i, v, rfl, rfl, sqT_mono s.g hs, hv, q v G H s (Same.refl _) rv⟩
theorem ev_ixL {ds : List Dt} {i : Int} (ha : Ev K ta es (.lst ds)) (hb : Ev K tb es (.int i)) (h : atI ds i = some d) : Ev K (tOp (rIxL K) ta tb) es d := ev_op ha hb fun F G H σ es x y s rx ry Q q => by
  cases rx with
  | lst hs r =>
    cases ry
    obtain ⟨v, hv, rv⟩ := reps_at r h
    exact ⟨_, _, i, v, rfl, rfl, s.g.seq hs, hv, q v G H s (Same.refl _) rv⟩
/-- at an index that is not written -/
theorem ev_ixTC {α : Type} {em : α → Dt} {xs : List α} {i : Int} {x : α} (ha : Ev K ta es (.tup (xs.map em))) (hb : Ev K tb es (.int i)) (h : atC xs i = some x) : Ev K (tOp (rIxT K) ta tb) es (em x) :=
  ev_ixT ha hb (by rw [atI_map, show atI xs i = some x from h]; rfl)
theorem ev_ixLC {α : Type} {em : α → Dt} {xs : List α} {i : Int} {x : α} (ha : Ev K ta es (.lst (xs.map em))) (hb : Ev K tb es (.int i)) (h : atC xs i = some x) : Ev K (tOp (rIxL K) ta tb) es (em x) :=
  ev_ixL ha hb (by rw [atI_map, show atI xs i = some x from h]; rfl)
theorem ev_fld {C : Addr} {fs : List (Str × Dt)} {f : Str} (ha : Ev K ta es (.obj C fs)) (hc : Cls K C) (hn : NoAttr K C f) (hl : fs.lookup f = some d) : Ev K (tFld K ta f) es d := fun F G H σ s Q q =>
  ha F G H σ s _ fun x G1 H1 s1 g1 r1 => by
    cases r1 with
    | obj h r =>
      obtain ⟨v, hv, rv⟩ := r.lookup hl
      exact ⟨_, C, _, _, v, rfl, s1.g _ _ h, hc, hn, hv, q v G1 H1 s1 g1 rv⟩
/-- a field of the object one makes -/
theorem ev_fldO {C : Addr} {fs : List (Str × Dt)} {f : Str} {i : Nat} {p : Option Addr} (h : es[i]? = some (.obo p C fs)) (hc : Cls K C) (hn : NoAttr K C f) (hl : fs.lookup f = some d) : Ev K (tFld K (tVar i) f) es d := fun F G H σ s Q q => by
  obtain ⟨o, ho, p, dx, vs, e, g, f, hp, r, _⟩ := s.sl i _ h
  subst e
  obtain ⟨v, hv, rv⟩ := r.lookup hl
  exact ⟨.ref p, ho, p, C, dx, vs, v, rfl, hp, hc, hn, hv, q v G H s (Same.refl _) rv⟩
/-- an item of the list one fills -/
theorem ev_ixO {ds : List Dt} {i : Int} {j : Nat} {p : Option Addr} (h : es[j]? = some (.own p ds)) (hb : Ev K tb es (.int i)) (ha : atI ds i = some d) : Ev K (tOp (rIxL K) (tVar j) tb) es d := fun F G H σ s Q q => by
  obtain ⟨o, ho, _⟩ := s.sl j _ h
  have ho' := ho
  obtain ⟨o2, ho2, p2, vs2, e2, _⟩ := s.sl j _ h
  subst e2
  refine ⟨.ref p2, ho2, hb F G H σ s _ fun y G1 H1 s1 g1 r1 => ?_⟩
  cases r1
  obtain ⟨o, ho, p, vs, e, g, f, hp, r, _⟩ := s1.sl j _ h
  subst e
  rw [ho2] at ho
  cases ho
  obtain ⟨v, hv, rv⟩ := reps_at r ha
  exact ⟨_, vs, i, v, rfl, rfl, .inl (.inl hp), hv, q v G1 H1 s1 g1 rv⟩
theorem ev_ixOC {α : Type} {em : α → Dt} {xs : List α} {i : Int} {j : Nat} {p : Option Addr} {x : α} (h : es[j]? = some (.own p (xs.map em))) (hb : Ev K tb es (.int i)) (ha : atC xs i = some x) : Ev K (tOp (rIxL K) (tVar j) tb) es (em x) :=
  ev_ixO h hb (by rw [atI_map, show atI xs i = some x from ha]; rfl)
end
end DL

namespace DL
open PySem L2

/-! ### statements -/
inductive Res where
  | nx (es : List Sl) | go (es : List Sl) | bk (es : List Sl) | rt (d : Dt) (es : List Sl) | rl (ds : List Dt) (es : List Sl)
def Good (K : PySem.W.Frag) (F G : Hp) (D : Ends) : Res → Prop
  | .nx es => ∀ G' H' σ', Stt K F G' H' σ' es → Same G G' → D.nx σ' H'
  | .go es => (∀ G' H' σ', Stt K F G' H' σ' es → Same G G' → D.nx σ' H') ∧ ∀ G' H' σ', Stt K F G' H' σ' es → Same G G' → D.ct σ' H'
  | .bk es => ∀ G' H' σ', Stt K F G' H' σ' es → Same G G' → D.bk σ' H'
  | .rt d es => ∀ v G' H' σ', Stt K F G' H' σ' es → Same G G' → Rep K G' v d → D.rt v H'
  | .rl ds es => ∀ p vs G' H' σ', Stt K (upd F p (.lst vs)) G' H' σ' es → F p = none → Same G G' → Reps K G' vs ds → D.rt (.ref p) H'
theorem Good.up {K : PySem.W.Frag} {F G G1 : Hp} {D : Ends} {o : Res} (h : Good K F G D o) (g : Same G G1) : Good K F G1 D o := by
  cases o with
  | nx es => exact fun G' H' σ' s e => h G' H' σ' s (g.trans e)
  | go es => exact ⟨fun G' H' σ' s e => h.1 G' H' σ' s (g.trans e), fun G' H' σ' s e => h.2 G' H' σ' s (g.trans e)⟩
  | bk es => exact fun G' H' σ' s e => h G' H' σ' s (g.trans e)
  | rt d es => exact fun v G' H' σ' s e r => h v G' H' σ' s (g.trans e) r
  | rl ds es => exact fun p vs G' H' σ' s f e r => h p vs G' H' σ' s f (g.trans e) r
def SEv (K : PySem.W.Frag) (t : TS) (es : List Sl) (o : Res) : Prop := ∀ F G H σ D, Stt K F G H σ es → Good K F G D o → t D σ H
def SM {ρ : Type} (K : PySem.W.Frag) (t : TS) (es : List Sl) (m : Option ρ) (oc : ρ → Res) : Prop := ∀ r, m = some r → SEv K t es (oc r)
/-- a target -/
def EvG (K : PySem.W.Frag) (g : TG) (vs : List Nat) (es : List Sl) (d : Dt) (es' : List Sl) : Prop := ∀ F G H σ v, Stt K F G H σ es → Rep K G v d → ∀ Q : L2.St → Hp → Prop,
  (∀ σ' G' H', Stt K F G' H' σ' es' → Same G G' → σ'.length = σ.length → (∀ k, k ∉ vs → σ'[k]? = σ[k]?) → Q σ' H') → g v σ H Q
/-- a let -/
def lt {α β : Type} (e : α) (f : α → β) : β := f e

section
variable {K : PySem.W.Frag} {es fs : List Sl} {ρ : Type} {t u tz : TS} {m : Option ρ} {oc : ρ → Res} {te : TE} {d : Dt} {c : TT}
theorem sm_some {r : ρ} (h : SEv K t es (oc r)) : SM K t es (some r) oc := fun r' e => by
  cases e
  exact h
theorem sm_none : SM K t es none oc := fun r' e => by cases e
theorem sm_bind {α : Type} {m1 : Option α} {f : α → Option ρ} (h : ∀ x, m1 = some x → SM K t es (f x) oc) : SM K t es (m1.bind f) oc := fun r e => by
  cases q : m1 with
  | none => rw [q] at e; cases e
  | some x =>
    rw [q] at e
    exact h x q r e
theorem sm_lt {α : Type} {e : α} {f : α → Option ρ} (h : ∀ x, e = x → SM K t es (f x) oc) : SM K t es (lt e f) oc := h e rfl
theorem sm_one (h : SM K (tSeq t tNext) es m oc) : SM K t es m oc := h
theorem sm_as {v : TS} (h : SM K (tSeq t (tSeq u v)) es m oc) : SM K (tSeq (tSeq t u) v) es m oc := h
theorem sm_nil (h : SM K tz es m oc) : SM K (tSeq tNext tz) es m oc := h
theorem sm_wk {gs : List Sl} (w : Wk es gs) (h : SM K t gs m oc) : SM K t es m oc := fun r e F G H σ D s q => h r e F G H σ D (s.wk w) q
theorem sev_nx (w : Wk es fs) : SEv K tNext es (.nx fs) := fun F G H σ D s q => q G H σ (s.wk w) (Same.refl _)
theorem sev_go (w : Wk es fs) : SEv K tNext es (.go fs) := fun F G H σ D s q => q.1 G H σ (s.wk w) (Same.refl _)
theorem sev_ct (w : Wk es fs) : SEv K (tSeq tCont tz) es (.go fs) := fun F G H σ D s q => q.2 G H σ (s.wk w) (Same.refl _)
theorem sev_bk (w : Wk es fs) : SEv K (tSeq tBreak tz) es (.bk fs) := fun F G H σ D s q => q G H σ (s.wk w) (Same.refl _)
theorem sev_rt (h : Ev K te es d) (w : Wk es fs) : SEv K (tSeq (tRet te) tz) es (.rt d fs) := fun F G H σ D s q => h F G H σ s _ fun v G1 H1 s1 g1 r1 => q v G1 H1 σ (s1.wk w) g1 r1
theorem sev_rtN (w : Wk es fs) : SEv K (tSeq tRetN tz) es (.rt .non fs) := fun F G H σ D s q => q .non G H σ (s.wk w) (Same.refl _) .non
theorem sm_asg {i : Nat} (h : Ev K te es d) (k : SM K tz (es.set i (.d d)) m oc) : SM K (tSeq (tAsg te (gName i)) tz) es m oc := fun r e F G H σ D s q =>
  h F G H σ s _ fun v G1 H1 s1 g1 r1 => k r e F G1 H1 _ D (s1.set r1) (q.up g1)
theorem sm_drop (h : Ev K te es d) (k : SM K tz es m oc) : SM K (tSeq (tDrop te) tz) es m oc := fun r e F G H σ D s q =>
  h F G H σ s _ fun v G1 H1 s1 g1 r1 => k r e F G1 H1 _ D s1 (q.up g1)
theorem sm_asgG {g : TG} {vs : List Nat} {es' : List Sl} (h : Ev K te es d) (hg : EvG K g vs es d es') (k : SM K tz es' m oc) : SM K (tSeq (tAsg te g) tz) es m oc := fun r e F G H σ D s q =>
  h F G H σ s _ fun v G1 H1 s1 g1 r1 => hg F G1 H1 σ v s1 r1 _ fun σ' G2 H2 s2 g2 _ _ => k r e F G2 H2 σ' D s2 (q.up (g1.trans g2))
theorem sm_par {i j : Nat} {ta : TA} {d1 d2 : Dt} (h : EvA K ta es [d1, d2]) (k : SM K tz ((es.set i (.d d1)).set j (.d d2)) m oc) : SM K (tSeq (tPar i j ta) tz) es m oc := fun r e F G H σ D s q =>
  h F G H σ s _ fun vs G1 H1 s1 g1 r1 => by
    cases r1 with
    | cons ra rr =>
      cases rr with
      | cons rb rn =>
        cases rn
        exact ⟨_, _, rfl, k r e F G1 H1 _ D ((s1.set ra).set rb) (q.up g1)⟩
theorem sm_if {b : Bool} {p q : Option ρ} (h : EvT K c es b) (h1 : b = true → SM K (tSeq t tz) es p oc) (h2 : b = false → SM K (tSeq u tz) es q oc) : SM K (tSeq (tIfS c t u) tz) es (if b = true then p else q) oc := fun r e F G H σ D s k =>
  h F G H σ s _ fun G1 H1 s1 g1 => by
    cases b with
    | true =>
      show t _ σ H1
      exact h1 rfl r e F G1 H1 σ D s1 (k.up g1)
    | false =>
      show u _ σ H1
      exact h2 rfl r e F G1 H1 σ D s1 (k.up g1)
theorem sm_seq {S : Type} {ms : Option S} {env : S → List Sl} {k : S → Option ρ} (h : SM K t es ms fun s => .nx (env s)) (h2 : ∀ s, ms = some s → SM K u (env s) (k s) oc) : SM K (tSeq t u) es (ms.bind k) oc := fun r e F G H σ D s q => by
  cases hm : ms with
  | none => rw [hm] at e; cases e
  | some x =>
    rw [hm] at e
    exact h x hm F G H σ _ s fun G' H' σ' s' g => h2 x hm r e F G' H' σ' D s' (q.up g)

/-! ### targets -/
theorem eg_name {i : Nat} {vs : List Nat} (hv : i ∈ vs) : EvG K (gName i) vs es d (es.set i (.d d)) := fun F G H σ v s r Q q =>
  q _ G H (s.set r) (Same.refl _) (by rw [List.length_set]) fun k hk => by rw [List.getElem?_set_ne fun e => hk (by rw [← e]; exact hv)]
/-- targets one after another -/
def EvGs (K : PySem.W.Frag) (g : TGs) (vs : List Nat) (es : List Sl) (ds : List Dt) (es' : List Sl) : Prop := ∀ F G H σ xs, Stt K F G H σ es → Reps K G xs ds → ∀ Q : L2.St → Hp → Prop,
  (∀ σ' G' H', Stt K F G' H' σ' es' → Same G G' → σ'.length = σ.length → (∀ k, k ∉ vs → σ'[k]? = σ[k]?) → Q σ' H') → g xs σ H Q
theorem egs_nil {vs : List Nat} : EvGs K gNil vs es [] es := fun F G H σ xs s r Q q => by
  cases r
  exact ⟨rfl, q σ G H s (Same.refl _) rfl fun _ _ => rfl⟩
theorem egs_cons {g : TG} {gr : TGs} {vs : List Nat} {ds : List Dt} {es1 es2 : List Sl} (h : EvG K g vs es d es1) (hr : EvGs K gr vs es1 ds es2) : EvGs K (gCons g gr) vs es (d :: ds) es2 := fun F G H σ xs s r Q q => by
  cases r with
  | cons rv rr =>
    exact ⟨_, _, rfl, h F G H σ _ s rv _ fun σ1 G1 H1 s1 g1 l1 k1 => hr F G1 H1 σ1 _ s1 (rr.mono g1) Q fun σ2 G2 H2 s2 g2 l2 k2 => q σ2 G2 H2 s2 (g1.trans g2) (l2.trans l1) fun k hk => (k2 k hk).trans (k1 k hk)⟩
theorem eg_tup {n : Nat} {g : TGs} {vs : List Nat} {ds : List Dt} {es' : List Sl} (h : EvGs K g vs es ds es') (hn : ds.length = n) : EvG K (gTup K n g) vs es (.tup ds) es' := fun F G H σ v s r Q q => by
  cases r with
  | tup hs rr =>
    exact ⟨_, _, rfl, sqT_mono s.g hs, by rw [rr.length]; exact hn, h F G H σ _ s rr Q q⟩
end

/-! ### what is walked -/
def Yields (K : PySem.W.Frag) (J : It) (G : Hp) (ds : List Dt) : Prop := ∀ i F G1 H1 σ es, Same G G1 → Stt K F G1 H1 σ es →
  (∀ d, ds[i]? = some d → J.go i H1 ∧ ∀ x H2, J.yld i H1 x H2 → ∃ G2, Stt K F G2 H2 σ es ∧ Same G1 G2 ∧ Rep K G2 x d) ∧ (ds.length ≤ i → J.stop i H1)
def EvI (K : PySem.W.Frag) (wi : TI) (es : List Sl) (ds : List Dt) : Prop := ∀ F G H σ, Stt K F G H σ es → ∀ R : It → Hp → Prop, (∀ J G' H', Stt K F G' H' σ es → Same G G' → Yields K J G' ds → R J H') → wi σ H R
section
variable {K : PySem.W.Frag} {es : List Sl} {te : TE}
theorem ei_list {ds : List Dt} (h : Ev K te es (.lst ds)) : EvI K (iList K te) es ds := fun F G H σ s R q => h F G H σ s _ fun v G1 H1 s1 g1 r1 => by
  cases r1 with
  | lst hs r =>
    refine ⟨_, rfl, ⟨_, s1.g.seq hs⟩, q _ G1 H1 s1 g1 fun i F2 G2 H2 σ2 es2 g2 s2 => ⟨fun d e => ?_, fun e => ⟨_, s2.g.seq (g2.seq hs), by rw [r.length]; exact e⟩⟩⟩
    obtain ⟨v, hv, rv⟩ := r.get e
    refine ⟨⟨_, v, s2.g.seq (g2.seq hs), hv⟩, fun x H3 y => ?_⟩
    obtain ⟨e1, y2⟩ := y
    subst e1
    have := (y2 _ (s2.g.seq (g2.seq hs))).symm.trans hv
    cases this
    exact ⟨G2, s2, Same.refl _, rv.mono g2⟩
theorem ei_tup {ds : List Dt} (h : Ev K te es (.tup ds)) : EvI K (iTup K te) es ds := fun F G H σ s R q => h F G H σ s _ fun v G1 H1 s1 g1 r1 => by
  cases r1 with
  | tup hs r =>
    refine ⟨_, rfl, ⟨_, sqT_mono s1.g hs⟩, q _ G1 H1 s1 g1 fun i F2 G2 H2 σ2 es2 g2 s2 => ⟨fun d e => ?_, fun e => ⟨_, sqT_mono s2.g (sqT_mono g2 hs), by rw [r.length]; exact e⟩⟩⟩
    obtain ⟨v, hv, rv⟩ := r.get e
    refine ⟨⟨_, v, sqT_mono s2.g (sqT_mono g2 hs), hv⟩, fun x H3 y => ?_⟩
    obtain ⟨e1, y2⟩ := y
    subst e1
    have := (y2 _ (sqT_mono s2.g (sqT_mono g2 hs))).symm.trans hv
    cases this
    exact ⟨G2, s2, Same.refl _, rv.mono g2⟩
/-- lo, .. below hi -/
def rng (lo hi : Int) : List Int := (List.range (hi - lo).toNat).map fun (i : Nat) => lo + (i : Int)
def rngC (lo hi : Int) : Option (List Int) := if -(2 ^ 62) ≤ lo ∧ lo < 2 ^ 62 ∧ -(2 ^ 62) ≤ hi ∧ hi < 2 ^ 62 then some (rng lo hi) else none
theorem yields_rng {G : Hp} {lo : Int} {n : Nat} : Yields K (Itr lo n) G (((List.range n).map fun (i : Nat) => lo + (i : Int)).map Dt.int) := fun i F G1 H1 σ es g s => by
  refine ⟨fun d e => ?_, fun e => by rw [List.length_map, List.length_map, List.length_range] at e; exact e⟩
  rw [List.getElem?_map, List.getElem?_map] at e
  by_cases hi : i < n
  · rw [List.getElem?_range hi] at e
    cases e
    refine ⟨hi, fun x H2 y => ?_⟩
    obtain ⟨e1, e2⟩ := y
    subst e1 e2
    exact ⟨G1, s, Same.refl _, .int _⟩
  · rw [List.getElem?_eq_none (by simpa using hi)] at e
    cases e
theorem ei_rng1 {ta : TA} {hi : Int} {xs : List Int} (h : EvA K ta es [.int hi]) (e : rngC 0 hi = some xs) : EvI K (iRng1 ta) es (xs.map Dt.int) := fun F G H σ s R q => h F G H σ s _ fun vs G1 H1 s1 g1 r1 => by
  obtain ⟨⟨_, _, h1, h2⟩, e⟩ := ite_some e
  subst e
  cases r1 with
  | cons ra rr =>
    cases ra
    cases rr
    refine ⟨hi, rfl, h1, h2, q _ G1 H1 s1 g1 ?_⟩
    unfold rng
    rw [Int.sub_zero]
    exact yields_rng
theorem ei_rng2 {ta : TA} {lo hi : Int} {xs : List Int} (h : EvA K ta es [.int lo, .int hi]) (e : rngC lo hi = some xs) : EvI K (iRng2 ta) es (xs.map Dt.int) := fun F G H σ s R q => h F G H σ s _ fun vs G1 H1 s1 g1 r1 => by
  obtain ⟨hh, e⟩ := ite_some e
  subst e
  cases r1 with
  | cons ra rr =>
    cases ra
    cases rr with
    | cons rb rr =>
      cases rb
      cases rr
      exact ⟨lo, hi, rfl, hh, q _ G1 H1 s1 g1 yields_rng⟩
end

/-! ### loops -/
inductive Fl (S R : Type) where
  | nx (s : S) | bk (s : S) | rt (r : R)
def Fl.step {S R : Type} (k : S → Option (Fl S R)) : Fl S R → Option (Fl S R)
  | .nx s => k s
  | .bk s => some (.bk s)
  | .rt r => some (.rt r)
def Fl.thn {S R ρ : Type} (k : S → Option ρ) (e : R → ρ) : Fl S R → Option ρ
  | .nx s => k s
  | .bk s => k s
  | .rt r => some (e r)
def forF {α S R : Type} : List α → S → (α → S → Option (Fl S R)) → Option (Fl S R)
  | [], s, _ => some (.nx s)
  | x :: xs, s, f => (f x s).bind (Fl.step fun s' => forF xs s' f)
def forL {α S : Type} : List α → S → (α → S → Option S) → Option S
  | [], s, _ => some s
  | x :: xs, s, f => (f x s).bind fun s' => forL xs s' f
def bodyRes {S R : Type} (env : S → List Sl) (ed : R → Dt) (ee : R → List Sl) : Fl S R → Res
  | .nx s => .go (env s) | .bk s => .bk (env s) | .rt r => .rt (ed r) (ee r)
def loopRes {S R : Type} (env : S → List Sl) (ed : R → Dt) (ee : R → List Sl) : Fl S R → Res
  | .nx s => .nx (env s) | .bk s => .nx (env s) | .rt r => .rt (ed r) (ee r)
/-- behind a loop that may have returned -/
def thenF {S R ρ : Type} (m : Option (Fl S R)) (k : S → Option ρ) (e : R → ρ) : Option ρ := m.bind (Fl.thn k e)
section
variable {K : PySem.W.Frag} {es : List Sl} {α S R ρ : Type} {t u tb : TS} {oc : ρ → Res}
theorem sm_for {xs : List α} {em : α → Dt} {wi : TI} {g : TG} {vs : List Nat} {env : S → List Sl} {en2 : α → S → List Sl} {ed : R → Dt} {ee : R → List Sl} {s0 : S} {f : α → S → Option (Fl S R)}
    (hi : EvI K wi es (xs.map em)) (w : Wk es (env s0)) (hg : ∀ x s, EvG K g vs (env s) (em x) (en2 x s)) (hb : ∀ x s, x ∈ xs → SM K tb (en2 x s) (f x s) (bodyRes env ed ee)) :
    SM K (tFor wi g tb) es (forF xs s0 f) (loopRes env ed ee) := fun r e F G H σ D st q => by
  refine hi F G H σ st _ fun J G1 H1 s1 g1 y => ?_
  refine ⟨fun i m σ' H' => ∃ G' s, Stt K F G' H' σ' (env s) ∧ Same G1 G' ∧ m = xs.length - i ∧ i ≤ xs.length ∧ forF (xs.drop i) s f = some r, ⟨_, G1, s0, s1.wk w, Same.refl _, rfl, Nat.zero_le _, e⟩, ?_⟩
  rintro i m σ' H' ⟨G', s, st', g', rfl, hle, e'⟩
  by_cases hlt : i < xs.length
  · refine .inr ?_
    have hd : xs.drop i = xs[i] :: xs.drop (i + 1) := List.drop_eq_getElem_cons hlt
    rw [hd] at e'
    have hmem : xs[i] ∈ xs := List.getElem_mem hlt
    cases hf : f xs[i] s with
    | none =>
      have : forF (xs[i] :: xs.drop (i + 1)) s f = none := by
        show (f xs[i] s).bind _ = none
        rw [hf]
        rfl
      rw [this] at e'
      cases e'
    | some o =>
      obtain ⟨go, yld⟩ := (y i F G' H' σ' (env s) g' st').1 (em xs[i]) (by rw [List.getElem?_map, List.getElem?_eq_getElem hlt]; rfl)
      refine ⟨go, fun σ2 H2 => ∃ G2 s2, Stt K F G2 H2 σ2 (env s2) ∧ Same G1 G2 ∧ forF (xs.drop (i + 1)) s2 f = some r, fun σ2 H2 ⟨G2, s2, a1, a2, a3⟩ => ⟨xs.length - (i + 1), by omega, G2, s2, a1, a2, rfl, by omega, a3⟩, fun x H2 hy => ?_⟩
      obtain ⟨G2, st2, g2, rx⟩ := yld x H2 hy
      refine hg xs[i] s F G2 H2 σ' x st2 rx _ fun σ3 G3 H3 st3 g3 _ _ => ?_
      refine hb xs[i] s hmem o hf F G3 H3 σ3 _ st3 ?_
      have e2 : Fl.step (fun s' => forF (xs.drop (i + 1)) s' f) o = some r := by
        have : forF (xs[i] :: xs.drop (i + 1)) s f = Fl.step (fun s' => forF (xs.drop (i + 1)) s' f) o := by
          show (f xs[i] s).bind _ = _
          rw [hf]
          rfl
        rw [← this]
        exact e'
      have gg := g1.trans (g'.trans (g2.trans g3))
      cases o with
      | nx s' => exact ⟨fun G4 H4 σ4 st4 g4 => ⟨G4, s', st4, g'.trans (g2.trans (g3.trans g4)), e2⟩, fun G4 H4 σ4 st4 g4 => ⟨G4, s', st4, g'.trans (g2.trans (g3.trans g4)), e2⟩⟩
      | bk s' =>
        cases e2
        exact q.up gg
      | rt r' =>
        cases e2
        exact q.up gg
  · have e3 : i = xs.length := by omega
    subst e3
    refine .inl ⟨(y xs.length F G' H' σ' (env s) g' st').2 (by simp), ?_⟩
    rw [List.drop_length] at e'
    cases e'
    exact q G' H' σ' st' (g1.trans g')
theorem forF_forL {f : α → S → Option S} : ∀ {xs : List α} {s0 : S}, forF (R := Empty) xs s0 (fun x s => (f x s).bind fun s' => some (.nx s')) = (forL xs s0 f).bind fun s => some (.nx s)
  | [], s0 => rfl
  | x :: xs, s0 => by
    show ((f x s0).bind fun s' => some (Fl.nx s')).bind _ = ((f x s0).bind _).bind _
    cases f x s0 with
    | none => rfl
    | some s' => exact forF_forL (f := f) (xs := xs) (s0 := s')
/-- a loop that is left at its end alone -/
theorem sm_forL {xs : List α} {em : α → Dt} {wi : TI} {g : TG} {vs : List Nat} {env : S → List Sl} {en2 : α → S → List Sl} {s0 : S} {f : α → S → Option S}
    (hi : EvI K wi es (xs.map em)) (w : Wk es (env s0)) (hg : ∀ x s, EvG K g vs (env s) (em x) (en2 x s)) (hb : ∀ x s, x ∈ xs → SM K tb (en2 x s) (f x s) fun s' => .go (env s')) :
    SM K (tFor wi g tb) es (forL xs s0 f) fun s => .nx (env s) := fun r e => by
  have h := sm_for (R := Empty) (ed := fun _ => .non) (ee := fun _ => []) (f := fun x s => (f x s).bind fun s' => some (.nx s')) hi w hg fun x s hx => sm_bind fun s' hs => sm_some (hb x s hx s' hs)
  refine h (Fl.nx r) ?_
  rw [forF_forL (f := f), e]
  rfl
theorem sm_thenF {m : Option (Fl S R)} {k : S → Option ρ} {er : R → ρ} {env : S → List Sl} {ed : R → Dt} {ee : R → List Sl} (h : SM K t es m (loopRes env ed ee)) (h2 : ∀ s, SM K u (env s) (k s) oc) (h3 : ∀ r, oc (er r) = .rt (ed r) (ee r)) :
    SM K (tSeq t u) es (thenF m k er) oc := fun r e F G H σ D st q => by
  unfold thenF at e
  cases hm : m with
  | none => rw [hm] at e; cases e
  | some o =>
    rw [hm] at e
    refine h o hm F G H σ _ st ?_
    cases o with
    | nx s => exact fun G' H' σ' s' g => h2 s r e F G' H' σ' D s' (q.up g)
    | bk s => exact fun G' H' σ' s' g => h2 s r e F G' H' σ' D s' (q.up g)
    | rt x =>
      cases e
      have q' : Good K F G D (.rt (ed x) (ee x)) := (h3 x) ▸ q
      exact q'

/-! while -/
def whileF {S R : Type} : Nat → S → (S → Option Bool) → (S → Option (Fl S R)) → Option (Fl S R)
  | 0, _, _, _ => none
  | n + 1, s, c, f => (c s).bind fun b => if b = true then (f s).bind (Fl.step fun s' => whileF n s' c f) else some (.nx s)
theorem sm_while {c : TT} {n : Nat} {env : S → List Sl} {ed : R → Dt} {ee : R → List Sl} {s0 : S} {cf : S → Option Bool} {f : S → Option (Fl S R)} (w : Wk es (env s0))
    (hc : ∀ s b, cf s = some b → EvT K c (env s) b) (hb : ∀ s, SM K tb (env s) (f s) (bodyRes env ed ee)) : SM K (tWhile c tb) es (whileF n s0 cf f) (loopRes env ed ee) := fun r e F G H σ D st q => by
  refine ⟨fun m σ' H' => ∃ G' s, Stt K F G' H' σ' (env s) ∧ Same G G' ∧ whileF m s cf f = some r, ⟨n, G, s0, st.wk w, Same.refl _, e⟩, ?_⟩
  rintro m σ' H' ⟨G', s, st', g', e'⟩
  cases m with
  | zero => cases e'
  | succ m =>
    cases hq : cf s with
    | none =>
      have : whileF (m + 1) s cf f = none := by
        show (cf s).bind _ = none
        rw [hq]
        rfl
      rw [this] at e'
      cases e'
    | some b =>
      have e2 : (if b = true then (f s).bind (Fl.step fun s' => whileF m s' cf f) else some (.nx s)) = some r := by
        rw [← e']
        show _ = (cf s).bind _
        rw [hq]
        rfl
      refine hc s b hq F G' H' σ' st' _ fun G1 H1 s1 g1 => ?_
      cases b with
      | false =>
        cases e2
        exact q G1 H1 σ' s1 (g'.trans g1)
      | true =>
        have e3 : ((f s).bind (Fl.step fun s' => whileF m s' cf f)) = some r := e2
        cases hf : f s with
        | none => rw [hf] at e3; cases e3
        | some o =>
          rw [hf] at e3
          refine ⟨fun σ2 H2 => ∃ G2 s2, Stt K F G2 H2 σ2 (env s2) ∧ Same G G2 ∧ whileF m s2 cf f = some r, fun σ2 H2 ⟨G2, s2, a1, a2, a3⟩ => ⟨m, Nat.lt_succ_self m, G2, s2, a1, a2, a3⟩, ?_⟩
          refine hb s o hf F G1 H1 σ' _ s1 ?_
          have gg := g'.trans g1
          cases o with
          | nx s' => exact ⟨fun G4 H4 σ4 st4 g4 => ⟨G4, s', st4, gg.trans g4, e3⟩, fun G4 H4 σ4 st4 g4 => ⟨G4, s', st4, gg.trans g4, e3⟩⟩
          | bk s' =>
            cases e3
            exact q.up gg
          | rt r' =>
            cases e3
            exact q.up gg
end

/-! ### new lists -/
def EvL (K : PySem.W.Frag) (te : TE) (es : List Sl) (ds : List Dt) : Prop := ∀ F G H σ, Stt K F G H σ es → ∀ Q : VK, (∀ p vs G' H', Stt K (upd F p (.lst vs)) G' H' σ es → F p = none → Same G G' → Reps K G' vs ds → Q (.ref p) H') → te σ H Q
/-! ### comprehensions -/
def consO {β : Type} : Option β → List β → List β
  | none, ys => ys
  | some y, ys => y :: ys
def compO {α β : Type} : List α → (α → Option (Option β)) → Option (List β)
  | [], _ => some []
  | x :: xs, f => (f x).bind fun o => (compO xs f).bind fun ys => some (consO o ys)
def wipeS (es : List Sl) : List Nat → List Sl
  | [] => es
  | v :: vs => (wipeS es vs).set v .un
section
variable {K : PySem.W.Frag} {F G H : Hp} {σ : L2.St} {es : List Sl} {p : Addr} {o o' : HO}
theorem upd_none {H : Hp} {p q : Addr} {o : HO} (h : upd H p o q = none) : q ≠ p ∧ H q = none := by
  by_cases e : q = p
  · subst e
    rw [upd_same] at h
    cases h
  · rw [upd_ne e] at h
    exact ⟨e, h⟩
theorem Stt.prot (s : Stt K F G H σ es) (h : H p = none) : Stt K (upd F p o) G (upd H p o) σ es where
  f := fun a u e => by
    by_cases q : a = p
    · subst q
      rw [upd_same] at e ⊢
      exact e
    · rw [upd_ne q] at e ⊢
      exact s.f a u e
  g := s.g.trans (same_upd h)
  dj := fun a u e => by
    by_cases q : a = p
    · subst q
      exact s.gnone h
    · rw [upd_ne q] at e
      exact s.dj a u e
  len := s.len
  sl := fun i t e => by
    obtain ⟨x, hx, k⟩ := s.sl i t e
    refine ⟨x, hx, k.grow (Same.refl _) (fun q u _ _ e => by rw [upd_ne (ne_of_none e h)]; exact e) fun q g ⟨u, hu⟩ f => ⟨g, ?_⟩⟩
    rw [upd_ne (ne_of_none hu h)]
    exact f
  ow := s.ow
theorem Stt.reprot (s : Stt K (upd F p o) G H σ es) : Stt K (upd F p o') G (upd H p o') σ es := by
  have gp : G p = none := s.dj p o upd_same
  refine ⟨fun a u e => ?_, fun a u e => ?_, fun a u e => ?_, s.len, fun i t e => ?_, s.ow⟩
  · by_cases q : a = p
    · subst q
      rw [upd_same] at e ⊢
      exact e
    · rw [upd_ne q] at e ⊢
      exact s.f a u (by rw [upd_ne q]; exact e)
  · rw [upd_ne fun q => by subst q; rw [gp] at e; cases e]
    exact s.g a u e
  · by_cases q : a = p
    · subst q
      exact gp
    · rw [upd_ne q] at e
      exact s.dj a u (by rw [upd_ne q]; exact e)
  · obtain ⟨x, hx, k⟩ := s.sl i t e
    refine ⟨x, hx, k.grow (Same.refl _) (fun q u _ f e => by rw [upd_ne (upd_none f).1]; exact e) fun q g _ f => ⟨g, ?_⟩⟩
    rw [upd_ne (upd_none f).1]
    exact (upd_none f).2
theorem Stt.give (s : Stt K (upd F p o) G H σ es) (hF : F p = none) : Stt K F (upd G p o) H σ es := by
  have gp : G p = none := s.dj p o upd_same
  refine ⟨fun a u e => s.f a u (by rw [upd_ne (ne_of_none e hF)]; exact e), fun a u e => ?_, fun a u e => ?_, s.len, fun i t e => ?_, s.ow⟩
  · by_cases q : a = p
    · subst q
      exact s.f a u (by rw [upd_same] at e ⊢; exact e)
    · rw [upd_ne q] at e
      exact s.g a u e
  · have ne := ne_of_none e hF
    rw [upd_ne ne]
    exact s.dj a u (by rw [upd_ne ne]; exact e)
  · obtain ⟨x, hx, k⟩ := s.sl i t e
    refine ⟨x, hx, k.grow (same_upd gp) (fun q u _ _ e => e) fun q g _ f => ⟨?_, (upd_none f).2⟩⟩
    rw [upd_ne (upd_none f).1]
    exact g
theorem wipe_get : ∀ {vs : List Nat} {σ : L2.St} {k : Nat}, k ∉ vs → (wipe σ vs)[k]? = σ[k]?
  | [], _, _, _ => rfl
  | v :: vs, σ, k, h => by
    unfold wipe
    rw [List.getElem?_set_ne fun e => h (by rw [e]; exact List.mem_cons_self)]
    exact wipe_get fun e => h (List.mem_cons_of_mem _ e)
theorem wipe_in : ∀ {vs : List Nat} {σ : L2.St} {k : Nat}, k ∈ vs → k < σ.length → (wipe σ vs)[k]? = some none
  | v :: vs, σ, k, h, hl => by
    unfold wipe
    by_cases e : v = k
    · subst e
      exact List.getElem?_set_self (by rw [wipe_length]; exact hl)
    · rw [List.getElem?_set_ne e]
      rcases List.mem_cons.mp h with z | z
      · exact absurd z.symm e
      · exact wipe_in z hl
theorem wipe_ext {vs : List Nat} {σ' : L2.St} (hl : σ'.length = σ.length) (h : ∀ k, k ∉ vs → σ'[k]? = σ[k]?) : wipe σ' vs = wipe σ vs := by
  refine List.ext_getElem? fun k => ?_
  by_cases hk : k ∈ vs
  · by_cases hlt : k < σ.length
    · rw [wipe_in hk hlt, wipe_in hk (by rw [hl]; exact hlt)]
    · rw [List.getElem?_eq_none (by rw [wipe_length]; omega), List.getElem?_eq_none (by rw [wipe_length]; omega)]
  · rw [wipe_get hk, wipe_get hk, h k hk]
theorem wipeS_len : ∀ {vs : List Nat} {es : List Sl}, (wipeS es vs).length = es.length
  | [], _ => rfl
  | v :: vs, es => by
    unfold wipeS
    rw [List.length_set, wipeS_len]
theorem wipeS_get : ∀ {vs : List Nat} {es : List Sl} {k : Nat} {s : Sl}, (wipeS es vs)[k]? = some s → s = .un ∨ (k ∉ vs ∧ es[k]? = some s)
  | [], _, _, _, h => .inr ⟨by simp, h⟩
  | v :: vs, es, k, s, h => by
    unfold wipeS at h
    by_cases e : v = k
    · subst e
      have hj : v < (wipeS es vs).length := by
        have := (List.getElem?_eq_some_iff.mp h).1
        rwa [List.length_set] at this
      rw [List.getElem?_set_self hj] at h
      cases h
      exact .inl rfl
    · rw [List.getElem?_set_ne e] at h
      rcases wipeS_get h with z | ⟨z1, z2⟩
      · exact .inl z
      · refine .inr ⟨fun q => ?_, z2⟩
        rcases List.mem_cons.mp q with q | q
        · exact e q.symm
        · exact z1 q
theorem Stt.wipe (s : Stt K F G H σ es) (vs : List Nat) : Stt K F G H (L2.wipe σ vs) (wipeS es vs) where
  f := s.f
  g := s.g
  dj := s.dj
  len := by rw [wipe_length, wipeS_len]; exact s.len
  sl := fun i t e => by
    rcases wipeS_get e with z | ⟨z1, z2⟩
    · subst z
      have hi : i < (L2.wipe σ vs).length := by
        have := (List.getElem?_eq_some_iff.mp e).1
        rwa [wipeS_len, ← s.len, ← wipe_length σ vs] at this
      exact ⟨_, List.getElem?_eq_getElem hi, trivial⟩
    · rw [wipe_get z1]
      exact s.sl i t z2
  ow := fun i j t u ne ei ej hi hj => by
    rcases wipeS_get ei with z | ⟨z1, z2⟩
    · subst z; cases hi
    · rcases wipeS_get ej with z | ⟨w1, w2⟩
      · subst z; cases hj
      · rw [wipe_get z1, wipe_get w1]
        exact s.ow i j t u ne z2 w2 hi hj
end
section
variable {K : PySem.W.Frag} {es : List Sl} {α β : Type}
theorem compO_len {f : α → Option (Option β)} : ∀ {xs : List α} {ys : List β}, compO xs f = some ys → ys.length ≤ xs.length
  | [], ys, h => by cases h; exact Nat.le_refl _
  | x :: xs, ys, h => by
    unfold compO at h
    cases hx : f x with
    | none => rw [hx] at h; cases h
    | some o =>
      rw [hx] at h
      cases hr : compO xs f with
      | none => rw [hr] at h; cases h
      | some zs =>
        rw [hr] at h
        have ih := compO_len hr
        cases o with
        | none => cases h; exact Nat.le_succ_of_le ih
        | some y => cases h; exact Nat.succ_le_succ ih
/-- behind a block: the frame's slots, all of them data -/
theorem Stt.swap {F G1 H1 G2 H2 : Hp} {σ σ2 : L2.St} {es2 : List Sl} (s : Stt K F G1 H1 σ es) (hd : es.all (fun t => !t.isOwn) = true) (s2 : Stt K F G2 H2 σ2 es2) (g : Same G1 G2) : Stt K F G2 H2 σ es where
  f := s2.f
  g := s2.g
  dj := s2.dj
  len := s.len
  sl := fun i t e => by
    obtain ⟨x, hx, k⟩ := s.sl i t e
    refine ⟨x, hx, ?_⟩
    have := List.all_eq_true.mp hd t (List.mem_of_getElem? e)
    cases t with
    | un => trivial
    | d x =>
      obtain ⟨v, e, r⟩ := k
      exact ⟨v, e, r.mono g⟩
    | own _ _ => cases this
    | obo _ _ _ => cases this
  ow := s.ow
/-- [e for x in xs if ..]: the list's own place is kept aside while the items are made -/
theorem el_comp {wi : TI} {g : TG} {tt : TT} {te : TE} {vs : List Nat} {xs : List α} {em : α → Dt} {em2 : β → Dt} {f : α → Option (Option β)} {ys : List β} {en2 : α → List Sl}
    (hi : EvI K wi es (xs.map em)) (hz : xs.length ≤ 1000000) (hg : ∀ x, EvG K g vs (wipeS es vs) (em x) (en2 x))
    (hb : ∀ x o, x ∈ xs → f x = some o → EvT K tt (en2 x) o.isSome ∧ ∀ y, o = some y → Ev K te (en2 x) (em2 y)) (hd : es.all (fun t => !t.isOwn) = true) (h : compO xs f = some ys) : EvL K (tLc wi g tt te vs) es (ys.map em2) := fun F G H σ st Q q => by
  refine hi F G H σ st _ fun J G1 H1 s1 g1 y => fun Dl hD => ?_
  have hF : F Dl = none := s1.fnone hD
  have sz : (1000000 : Nat) < sizeLine := by decide
  refine ⟨fun i m H' => ∃ (G' : Hp) (acc : List V) (zs rest : List β), Stt K (upd F Dl (.lst acc)) G' H' σ es ∧ Same G1 G' ∧ Reps K G' acc (zs.map em2) ∧ zs.length ≤ i ∧ compO (xs.drop i) f = some rest ∧ zs ++ rest = ys ∧ m = xs.length - i ∧ i ≤ xs.length,
    ⟨_, G1, [], [], ys, s1.prot hD, Same.refl _, .nil, Nat.zero_le _, h, rfl, rfl, Nat.zero_le _⟩, ?_⟩
  rintro i m H' ⟨G', acc, zs, rest, st', g', racc, hzl, hc, hap, rfl, hle⟩
  by_cases hlt : i < xs.length
  · refine .inr ?_
    have hdr : xs.drop i = xs[i] :: xs.drop (i + 1) := List.drop_eq_getElem_cons hlt
    have hmem : xs[i] ∈ xs := List.getElem_mem hlt
    rw [hdr] at hc
    cases hf : f xs[i] with
    | none =>
      have : compO (xs[i] :: xs.drop (i + 1)) f = none := by
        show (f xs[i]).bind _ = none
        rw [hf]
        rfl
      rw [this] at hc
      cases hc
    | some o =>
      cases hr : compO (xs.drop (i + 1)) f with
      | none =>
        have : compO (xs[i] :: xs.drop (i + 1)) f = none := by
          show (f xs[i]).bind _ = none
          rw [hf]
          show (compO (xs.drop (i + 1)) f).bind _ = none
          rw [hr]
          rfl
        rw [this] at hc
        cases hc
      | some rest' =>
        have hc' : rest = consO o rest' := by
          have : compO (xs[i] :: xs.drop (i + 1)) f = some (consO o rest') := by
            show (f xs[i]).bind _ = _
            rw [hf]
            show (compO (xs.drop (i + 1)) f).bind _ = _
            rw [hr]
            rfl
          rw [this] at hc
          exact (Option.some.inj hc).symm
        obtain ⟨go, yld⟩ := (y i _ G' H' σ es g' st').1 (em xs[i]) (by rw [List.getElem?_map, List.getElem?_eq_getElem hlt]; rfl)
        refine ⟨go, fun H2 => ∃ (G2 : Hp) (acc2 : List V) (zs2 rest2 : List β), Stt K (upd F Dl (.lst acc2)) G2 H2 σ es ∧ Same G1 G2 ∧ Reps K G2 acc2 (zs2.map em2) ∧ zs2.length ≤ i + 1 ∧ compO (xs.drop (i + 1)) f = some rest2 ∧ zs2 ++ rest2 = ys,
          fun H2 ⟨G2, acc2, zs2, rest2, a1, a2, a3, a4, a5, a6⟩ => ⟨xs.length - (i + 1), by omega, G2, acc2, zs2, rest2, a1, a2, a3, a4, a5, a6, rfl, by omega⟩, fun x H2 hy => ?_⟩
        obtain ⟨G2, st2, g2, rx⟩ := yld x H2 hy
        obtain ⟨htt, hte⟩ := hb xs[i] o hmem hf
        -- the block: its slots are wiped; the frame comes back by Stt.frame
        refine hg xs[i] (upd F Dl (.lst acc)) G2 H2 (L2.wipe σ vs) x (st2.wipe vs) rx _ fun σ3 G3 H3 st3 g3 l3 k3 => ?_
        refine ⟨by rw [wipe_ext (σ := L2.wipe σ vs) l3 k3]; exact wipe_ext (wipe_length _ _) fun k hk => wipe_get hk, ?_⟩
        refine htt _ G3 H3 σ3 st3 _ fun G4 H4 st4 g4 => ?_
        have gg : Same G' G4 := g2.trans (g3.trans g4)
        cases o with
        | none => exact ⟨G4, acc, zs, rest, st2.swap hd st4 (g3.trans g4), g'.trans gg, racc.mono gg, Nat.le_succ_of_le hzl, by rw [hr, hc']; rfl, hap⟩
        | some yv =>
          show te σ3 H4 _
          refine hte yv rfl _ G4 H4 σ3 st4 _ fun v G5 H5 st5 g5 r5 => ?_
          have hzl2 : acc.length ≤ i := by
            have := racc.length
            rw [List.length_map] at this
            omega
          refine ⟨acc, st5.f Dl _ upd_same, by omega, G5, acc ++ [v], zs ++ [yv], rest', (st2.swap hd st5 (g3.trans (g4.trans g5))).reprot, g'.trans (gg.trans g5), ?_, ?_, hr, ?_⟩
          · rw [List.map_append]
            exact (racc.mono (gg.trans g5)).append (.cons r5 .nil)
          · rw [List.length_append, List.length_singleton]
            omega
          · rw [List.append_assoc]
            have : rest = yv :: rest' := hc'
            rw [this] at hap
            exact hap
  · have e3 : i = xs.length := by omega
    subst e3
    refine .inl ⟨(y xs.length _ G' H' σ es g' st').2 (by simp), ?_⟩
    rw [List.drop_length] at hc
    cases hc
    rw [List.append_nil] at hap
    subst hap
    exact q Dl acc G' H' st' hF (g1.trans g') racc
end
end DL

namespace DL
open PySem L2

/-! ### lists that one fills -/
section
variable {K : PySem.W.Frag} {F G H : Hp} {σ : L2.St} {es : List Sl} {p : Addr} {o o' : HO}
/-- an object kept aside becomes a slot's -/
theorem Stt.take {vs : List V} {ds : List Dt} {i : Nat} (s : Stt K (upd F p (.lst vs)) G H σ es) (hF : F p = none) (r : Reps K G vs ds) : Stt K F G H (σ.set i (some (.ref p))) (es.set i (.own none ds)) := by
  have gp : G p = none := s.dj p _ upd_same
  have hp : H p = some (.lst vs) := s.f p _ upd_same
  have up : ∀ {q : Addr} {u : HO}, F q = some u → upd F p (.lst vs) q = some u := fun {q u} e => by rw [upd_ne (ne_of_none e hF)]; exact e
  refine ⟨fun a u e => s.f a u (up e), s.g, fun a u e => s.dj a u (up e), by rw [List.length_set, List.length_set]; exact s.len, fun j t e => ?_, fun a b t u ne ea eb ha hb => ?_⟩
  · by_cases q : i = j
    · subst q
      have hj : i < es.length := by
        have := (List.getElem?_eq_some_iff.mp e).1
        rwa [List.length_set] at this
      rw [List.getElem?_set_self hj] at e
      cases e
      exact ⟨_, List.getElem?_set_self (by rw [s.len]; exact hj), p, vs, rfl, gp, hF, hp, r, fun q e => nomatch e⟩
    · rw [List.getElem?_set_ne q] at e
      rw [List.getElem?_set_ne q]
      obtain ⟨x, hx, k⟩ := s.sl j t e
      exact ⟨x, hx, k.grow (Same.refl _) (fun q u _ _ e => e) fun q g _ f => ⟨g, (upd_none f).2⟩⟩
  · have other : ∀ j z, i ≠ j → (es.set i (.own none ds))[j]? = some z → z.isOwn = true → σ[j]? ≠ some (some (.ref p)) := fun j z nj ej hz q => by
      rw [List.getElem?_set_ne nj] at ej
      obtain ⟨x, hx, k⟩ := s.sl j z ej
      rw [hx] at q
      cases q
      cases z with
      | un => cases hz
      | d x => cases hz
      | own a xs =>
        obtain ⟨p', vs', e, _, f, _⟩ := k
        cases e
        rw [upd_same] at f
        cases f
      | obo a C fs =>
        obtain ⟨p', dx, vs', e, _, f, _⟩ := k
        cases e
        rw [upd_same] at f
        cases f
    by_cases na : i = a
    · subst na
      have hj : i < es.length := by
        have := (List.getElem?_eq_some_iff.mp ea).1
        rwa [List.length_set] at this
      rw [List.getElem?_set_self (by rw [s.len]; exact hj), List.getElem?_set_ne ne]
      exact fun q => other b u ne eb hb q.symm
    · by_cases nb : i = b
      · subst nb
        have hj : i < es.length := by
          have := (List.getElem?_eq_some_iff.mp eb).1
          rwa [List.length_set] at this
        rw [List.getElem?_set_self (by rw [s.len]; exact hj), List.getElem?_set_ne na]
        exact other a t na ea ha
      · rw [List.getElem?_set_ne na] at ea ⊢
        rw [List.getElem?_set_ne nb] at eb ⊢
        exact s.ow a b t u ne ea eb ha hb
/-- a slot's own object is written -/
theorem Stt.write {i : Nat} {t t' : Sl} (s : Stt K F G H σ es) (e : es[i]? = some t) (ht : t.isOwn = true) (ht' : t'.isOwn = true) (hs : σ[i]? = some (some (.ref p))) (k : SlOk K F G (upd H p o) (some (.ref p)) t') (hg : G p = none) (hf : F p = none) : Stt K F G (upd H p o) σ (es.set i t') where
  f := fun a u e => by
    rw [upd_ne (ne_of_none e hf)]
    exact s.f a u e
  g := fun a u e => by
    rw [upd_ne (ne_of_none e hg)]
    exact s.g a u e
  dj := s.dj
  len := by rw [List.length_set]; exact s.len
  sl := fun j u ej => by
    by_cases q : i = j
    · subst q
      have hj := (List.getElem?_eq_some_iff.mp ej).1
      rw [List.length_set] at hj
      rw [List.getElem?_set_self hj] at ej
      cases ej
      exact ⟨_, hs, k⟩
    · rw [List.getElem?_set_ne q] at ej
      obtain ⟨x, hx, kk⟩ := s.sl j u ej
      refine ⟨x, hx, ?_⟩
      cases u with
      | un => trivial
      | d x => exact kk
      | own a xs =>
        obtain ⟨p', vs', e', g', f', hp', r', a'⟩ := kk
        have ne : p' ≠ p := fun z => by
          subst z
          refine s.ow i j t _ q e ej ht rfl ?_
          rw [hs, hx, e']
        exact ⟨p', vs', e', g', f', by rw [upd_ne ne]; exact hp', r', a'⟩
      | obo a C fs =>
        obtain ⟨p', dx, vs', e', g', f', hp', r', a'⟩ := kk
        have ne : p' ≠ p := fun z => by
          subst z
          refine s.ow i j t _ q e ej ht rfl ?_
          rw [hs, hx, e']
        exact ⟨p', dx, vs', e', g', f', by rw [upd_ne ne]; exact hp', r', a'⟩
  ow := fun a b u w ne ea eb ha hb => by
    have old : ∀ (j : Nat) (z : Sl), (es.set i t')[j]? = some z → z.isOwn = true → ∃ y : Sl, es[j]? = some y ∧ y.isOwn = true := fun j z ej hz => by
      by_cases q : i = j
      · subst q
        exact ⟨t, e, ht⟩
      · rw [List.getElem?_set_ne q] at ej
        exact ⟨z, ej, hz⟩
    obtain ⟨y1, h1, k1⟩ := old a u ea ha
    obtain ⟨y2, h2, k2⟩ := old b w eb hb
    exact s.ow a b y1 y2 ne h1 h2 k1 k2
/-- a slot's own object is data from now on -/
theorem Stt.freeze {i : Nat} {t : Sl} {u : HO} {d : Dt} (s : Stt K F G H σ es) (e : es[i]? = some t) (ht : t.isOwn = true) (hs : σ[i]? = some (some (.ref p))) (hp : H p = some u) (hg : G p = none) (hf : F p = none) (r : Rep K (upd G p u) (.ref p) d) : Stt K F (upd G p u) H σ (es.set i (.d d)) where
  f := s.f
  g := fun a w e => by
    by_cases q : a = p
    · subst q
      rw [upd_same] at e
      cases e
      exact hp
    · rw [upd_ne q] at e
      exact s.g a w e
  dj := fun a w e => by
    rw [upd_ne (ne_of_none e hf)]
    exact s.dj a w e
  len := by rw [List.length_set]; exact s.len
  sl := fun j w ej => by
    by_cases q : i = j
    · subst q
      have hj := (List.getElem?_eq_some_iff.mp ej).1
      rw [List.length_set] at hj
      rw [List.getElem?_set_self hj] at ej
      cases ej
      exact ⟨_, hs, _, rfl, r⟩
    · rw [List.getElem?_set_ne q] at ej
      obtain ⟨x, hx, kk⟩ := s.sl j w ej
      refine ⟨x, hx, ?_⟩
      cases w with
      | un => trivial
      | d x =>
        obtain ⟨v, e', r'⟩ := kk
        exact ⟨v, e', r'.mono (same_upd hg)⟩
      | own a xs =>
        obtain ⟨p', vs', e', g', f', hp', r', a'⟩ := kk
        have ne : p' ≠ p := fun z => by
          subst z
          refine s.ow i j t _ q e ej ht rfl ?_
          rw [hs, hx, e']
        exact ⟨p', vs', e', by rw [upd_ne ne]; exact g', f', hp', r'.mono (same_upd hg), a'⟩
      | obo a C fs =>
        obtain ⟨p', dx, vs', e', g', f', hp', r', a'⟩ := kk
        have ne : p' ≠ p := fun z => by
          subst z
          refine s.ow i j t _ q e ej ht rfl ?_
          rw [hs, hx, e']
        exact ⟨p', dx, vs', e', by rw [upd_ne ne]; exact g', f', hp', r'.mono (same_upd hg), a'⟩
  ow := fun a b u w ne ea eb ha hb => by
    have old : ∀ (j : Nat) (z : Sl), (es.set i (.d d))[j]? = some z → z.isOwn = true → es[j]? = some z := fun j z ej hz => by
      by_cases q : i = j
      · subst q
        have hj := (List.getElem?_eq_some_iff.mp ej).1
        rw [List.length_set] at hj
        rw [List.getElem?_set_self hj] at ej
        cases ej
        cases hz
      · rw [List.getElem?_set_ne q] at ej
        exact ej
    exact s.ow a b u w ne (old a u ea ha) (old b w eb hb) ha hb
end
section
variable {K : PySem.W.Frag} {es es' : List Sl} {ρ : Type} {t u tz : TS} {m : Option ρ} {oc : ρ → Res} {te ta tb : TE} {d : Dt} {ds : List Dt}
theorem el_lst {t : TA} (h : EvA K t es ds) (hl : ds.length ≤ 100000) : EvL K (tLst t) es ds := fun F G H σ s Q q =>
  h F G H σ s _ fun xs G1 H1 s1 g1 r1 => ⟨by rw [r1.length]; exact Nat.le_trans hl (by decide), fun p hp => q p xs G1 _ (s1.prot hp) (s1.fnone hp) g1 r1⟩
theorem ev_new (h : EvL K te es ds) : Ev K te es (.lst ds) := fun F G H σ s Q q =>
  h F G H σ s Q fun p vs G' H' s' hF g r => q _ _ H' (s'.give hF) (g.trans (same_upd (s'.dj p _ upd_same))) (.lst (.inl (.inl upd_same)) (r.mono (same_upd (s'.dj p _ upd_same))))
theorem el_is {ds' : List Dt} (h : EvL K te es ds) (e : ds = ds') : EvL K te es ds' := e ▸ h
theorem sm_own {i : Nat} (h : EvL K te es ds) (he : es.set i (.own none ds) = es') (k : SM K tz es' m oc) : SM K (tSeq (tAsg te (gName i)) tz) es m oc := fun r e F G H σ D s q =>
  h F G H σ s _ fun p vs G1 H1 s1 hF g1 r1 => k r e F G1 H1 _ D (he ▸ s1.take hF r1) (q.up g1)
theorem sm_set {i : Nat} (h : Ev K te es d) (he : es.set i (.d d) = es') (k : SM K tz es' m oc) : SM K (tSeq (tAsg te (gName i)) tz) es m oc := sm_asg h (he ▸ k)
def appC {α : Type} (xs : List α) (x : α) : Option (List α) := if xs.length < 10000000 then some (xs ++ [x]) else none
theorem sm_app {α : Type} {em : α → Dt} {xs ys : List α} {x : α} {i : Nat} {a : Option Addr} (hi : es[i]? = some (.own a (xs.map em))) (h : Ev K te es (em x)) (hy : appC xs x = some ys) (he : es.set i (.own a (ys.map em)) = es') (k : SM K tz es' m oc) :
    SM K (tSeq (tDrop (tBM K "list" rAppend (tVar i) (tCons te tNil))) tz) es m oc := fun r e F G H σ D s q => by
  obtain ⟨hl, rfl⟩ := ite_some hy
  obtain ⟨o, ho, p, vs, eo, g, f, hp, rr, an⟩ := s.sl i _ hi
  subst eo
  refine ⟨.ref p, ho, .inl ⟨rfl, vs, .inl (.inl hp)⟩, ?_⟩
  refine h F G H σ s _ fun v G1 H1 s1 g1 r1 => ?_
  obtain ⟨o, ho', p', vs', eo, g', f', hp', rr', an'⟩ := s1.sl i _ hi
  subst eo
  rw [ho] at ho'
  cases ho'
  have hlen := rr'.length
  rw [List.length_map] at hlen
  have sz : (10000000 : Nat) < sizeLine := by decide
  refine ⟨p, vs', v, rfl, rfl, hp', by omega, ?_⟩
  refine k r e F G1 _ σ D (he ▸ s1.write hi rfl rfl ho ⟨p, vs' ++ [v], rfl, g', f', upd_same, ?_, an'⟩ g' f') (q.up g1)
  rw [List.map_append]
  exact rr'.append (.cons r1 .nil)
def setC {α : Type} (xs : List α) (i : Int) (x : α) : Option (List α) := (ixN xs.length i).map fun j => xs.set j x
theorem map_set {α β : Type} (f : α → β) : ∀ (xs : List α) (j : Nat) (x : α), (xs.set j x).map f = (xs.map f).set j (f x)
  | [], _, _ => rfl
  | _ :: _, 0, _ => rfl
  | y :: xs, j + 1, x => congrArg (f y :: ·) (map_set f xs j x)
theorem sm_setL {α : Type} {em : α → Dt} {xs ys : List α} {x : α} {i : Nat} {n : Int} {a : Option Addr} (hi : es[i]? = some (.own a (xs.map em))) (h : Ev K te es (em x)) (hn : Ev K tb es (.int n)) (hy : setC xs n x = some ys) (he : es.set i (.own a (ys.map em)) = es') (k : SM K tz es' m oc) :
    SM K (tSeq (tAsg te (gSub (tVar i) tb rSetL)) tz) es m oc := fun r e F G H σ D s q => by
  refine h F G H σ s _ fun v G1 H1 s1 g1 r1 => ?_
  obtain ⟨o, ho, p, vs, eo, g, f, hp, rr, an⟩ := s1.sl i _ hi
  subst eo
  refine ⟨.ref p, ho, ?_⟩
  refine hn F G1 H1 σ s1 _ fun y G2 H2 s2 g2 r2 => ?_
  cases r2
  obtain ⟨o, ho', p', vs', eo, g', f', hp', rr', an'⟩ := s2.sl i _ hi
  subst eo
  rw [ho] at ho'
  cases ho'
  have hlen := rr'.length
  rw [List.length_map] at hlen
  unfold setC at hy
  cases hj : ixN xs.length n with
  | none => rw [hj] at hy; cases hy
  | some j =>
    rw [hj] at hy
    have hy' : xs.set j x = ys := Option.some.inj hy
    subst hy'
    refine ⟨p, vs', n, j, rfl, rfl, hp', by rw [hlen]; exact hj, ?_⟩
    refine k r e F G2 _ σ D (he ▸ s2.write hi rfl rfl ho ⟨p, vs'.set j v, rfl, g', f', upd_same, ?_, an'⟩ g' f') (q.up (g1.trans g2))
    rw [map_set]
    exact Reps.set (r1.mono g2) j rr'
def insC {α : Type} (xs : List α) (i : Int) (x : α) : Option (List α) := if xs.length < 10000000 ∧ 0 ≤ i ∧ i < 2 ^ 62 then some (xs.take i.toNat ++ [x] ++ xs.drop i.toNat) else none
def rInsert : V → List V → Hp → VK → Prop := fun x vs H Q => ∃ (l : Addr) (xs : List V) (i : Int) (y : V), x = .ref l ∧ vs = [.int i, y] ∧ H l = some (.lst xs) ∧ xs.length < sizeLine ∧ 0 ≤ i ∧ i < 2 ^ 63 ∧
    Q .non (upd H l (.lst (xs.take i.toNat ++ [y] ++ xs.drop i.toNat)))
theorem mt_ins {X : Cx} : MtR X "list.insert" rInsert := mt_insert
theorem sm_ins {α : Type} {em : α → Dt} {xs ys : List α} {x : α} {i : Nat} {n : Int} {a : Option Addr} (hi : es[i]? = some (.own a (xs.map em))) (hn : Ev K tb es (.int n)) (h : Ev K te es (em x)) (hy : insC xs n x = some ys) (he : es.set i (.own a (ys.map em)) = es') (k : SM K tz es' m oc) :
    SM K (tSeq (tDrop (tBM K "list" rInsert (tVar i) (tCons tb (tCons te tNil)))) tz) es m oc := fun r e F G H σ D s q => by
  obtain ⟨⟨hl, h0, h1⟩, rfl⟩ := ite_some hy
  obtain ⟨o, ho, p, vs, eo, g, f, hp, rr, an⟩ := s.sl i _ hi
  subst eo
  refine ⟨.ref p, ho, .inl ⟨rfl, vs, .inl (.inl hp)⟩, ?_⟩
  refine hn F G H σ s _ fun y G1 H1 s1 g1 r1 => ?_
  cases r1
  refine h F G1 H1 σ s1 _ fun v G2 H2 s2 g2 r2 => ?_
  obtain ⟨o, ho', p', vs', eo, g', f', hp', rr', an'⟩ := s2.sl i _ hi
  subst eo
  rw [ho] at ho'
  cases ho'
  have hlen := rr'.length
  rw [List.length_map] at hlen
  have sz : (10000000 : Nat) < sizeLine := by decide
  refine ⟨p, vs', n, v, rfl, rfl, hp', by omega, h0, by omega, ?_⟩
  refine k r e F G2 _ σ D (he ▸ s2.write hi rfl rfl ho ⟨p, vs'.take n.toNat ++ [v] ++ vs'.drop n.toNat, rfl, g', f', upd_same, ?_, an'⟩ g' f') (q.up (g1.trans g2))
  rw [List.map_append, List.map_append, List.map_take, List.map_drop]
  exact ((rr'.take _).append (.cons r2 .nil)).append (rr'.drop _)
/-- the list is done -/
theorem sm_frz {i : Nat} {a : Option Addr} (hi : es[i]? = some (.own a ds)) (he : es.set i (.d (.lst ds)) = es') (k : SM K t es' m oc) : SM K t es m oc := fun r e F G H σ D s q => by
  obtain ⟨o, ho, p, vs, eo, g, f, hp, rr, an⟩ := s.sl i _ hi
  subst eo
  exact k r e F _ H σ D (he ▸ s.freeze hi rfl ho hp g f (.lst (.inl (.inl upd_same)) (rr.mono (same_upd g)))) (q.up (same_upd g))
theorem sm_frzO {i : Nat} {a : Option Addr} {C : Addr} {fs : List (Str × Dt)} (hi : es[i]? = some (.obo a C fs)) (he : es.set i (.d (.obj C fs)) = es') (k : SM K t es' m oc) : SM K t es m oc := fun r e F G H σ D s q => by
  obtain ⟨o, ho, p, dx, vs, eo, g, f, hp, rr, an⟩ := s.sl i _ hi
  subst eo
  exact k r e F _ H σ D (he ▸ s.freeze hi rfl ho hp g f (.obj upd_same (rr.mono (same_upd g)))) (q.up (same_upd g))
theorem repF_put {G : Hp} {f : Str} {v : V} {d : Dt} (h : Rep K G v d) : ∀ {vs : List (Str × V)} {ds : List (Str × Dt)}, RepF K G vs ds → RepF K G (putF f v vs) (putD f d ds)
  | _, _, .nil => .cons h .nil
  | _, _, .cons (f := g) r rr => by
    unfold putF putD
    by_cases e : g = f
    · rw [if_pos e, if_pos e]
      exact .cons h rr
    · rw [if_neg e, if_neg e]
      exact .cons r (repF_put h rr)
theorem RepF.length {G : Hp} : ∀ {vs : List (Str × V)} {ds : List (Str × Dt)}, RepF K G vs ds → vs.length = ds.length
  | _, _, .nil => rfl
  | _, _, .cons _ r => congrArg (· + 1) (RepF.length r)
/-- self.f = e -/
theorem sm_fld {i : Nat} {a : Option Addr} {C : Addr} {fs : List (Str × Dt)} {f : Str} (hi : es[i]? = some (.obo a C fs)) (h : Ev K te es d) (hc : Cls K C) (hn : NoAttr K C f) (hl : fs.length < 900) (he : es.set i (.obo a C (putD f d fs)) = es') (k : SM K tz es' m oc) :
    SM K (tSeq (sFld K (tVar i) te f) tz) es m oc := fun r e F G H σ D s q => by
  refine h F G H σ s _ fun v G1 H1 s1 g1 r1 => ?_
  obtain ⟨o, ho, p, dx, vs, eo, g, ff, hp, rr, an⟩ := s1.sl i _ hi
  subst eo
  refine ⟨.ref p, ho, p, C, dx, vs, rfl, hp, hc, hn, by rw [rr.length]; omega, ?_⟩
  exact k r e F G1 _ σ D (he ▸ s1.write hi rfl rfl ho ⟨p, dx, putF f v vs, rfl, g, ff, upd_same, repF_put r1 rr, an⟩ g ff) (q.up g1)
end

/-! ### defs: what they promise -/
/-- R: the slots of the arguments, what is handed back, the slots behind -/
def FSpec (K : PySem.W.Frag) (R : List Sl → Dt → List Sl → Prop) : Sp := fun vs H Q _ => ∃ F G ss d ss', Stt K F G H (vs.map some) ss ∧ R ss d ss' ∧
  ∀ v G' H', Stt K F G' H' (vs.map some) ss' → Same G G' → Rep K G' v d → Q v H'
/-- all arguments are data -/
def RD (P : List Dt → Dt → Prop) : List Sl → Dt → List Sl → Prop := fun ss d ss' => ∃ ds, ss = ds.map .d ∧ ss' = ss ∧ P ds d
/-- an __init__: the first is made -/
def RI (C : Addr) (P : List Dt → List (Str × Dt) → Prop) : List Sl → Dt → List Sl → Prop := fun ss d ss' => ∃ p ds fs, ss = .obo (some p) C [] :: ds.map .d ∧ d = .non ∧ ss' = .obo (some p) C fs :: ds.map .d ∧ P ds fs
section
variable {K : PySem.W.Frag} {F G H F' G' H' : Hp} {σ : L2.St} {es : List Sl}
theorem stt_data {vs : List V} {ds : List Dt} (f : Same F H) (g : Same G H) (dj : ∀ a o, F a = some o → G a = none) (r : Reps K G vs ds) : Stt K F G H (vs.map some) (ds.map .d) where
  f := f
  g := g
  dj := dj
  len := by rw [List.length_map, List.length_map]; exact r.length
  sl := fun i s e => by
    rw [List.getElem?_map] at e
    cases q : ds[i]? with
    | none => rw [q] at e; cases e
    | some d =>
      rw [q] at e
      cases e
      obtain ⟨v, hv, rv⟩ := r.get q
      exact ⟨some v, by rw [List.getElem?_map, hv]; rfl, v, rfl, rv⟩
  ow := fun i j s t _ ei _ hi _ => by
    rw [List.getElem?_map] at ei
    cases q : ds[i]? with
    | none => rw [q] at ei; cases ei
    | some d => rw [q] at ei; cases ei; cases hi
theorem data_of {vs : List V} {ds : List Dt} : ∀ {vs : List V} {ds : List Dt}, (vs.map some).length = (ds.map Sl.d).length → (∀ (i : Nat) s, (ds.map Sl.d)[i]? = some s → ∃ o, (vs.map some)[i]? = some o ∧ SlOk K F G H o s) → Reps K G vs ds
  | [], [], _, _ => .nil
  | v :: vs, d :: ds, h, hh => by
    obtain ⟨o, ho, x, e, r⟩ := hh 0 _ rfl
    cases ho
    cases e
    exact .cons r (data_of (vs := vs) (ds := ds) (by simpa using h) fun i s e => hh (i + 1) s e)
  | [], _ :: _, h, _ => by simp at h
  | _ :: _, [], h, _ => by simp at h
theorem Stt.rem (s : Stt K F G H σ es) : Same (rem G H) H ∧ ∀ a o, DL.rem G H a = some o → G a = none := ⟨fun a o e => (rem_some e).1, fun a o e => (rem_some e).2⟩
variable {ta : TA} {ds dds : List Dt} {d : Dt} {E : XK} {dvs : List V}
/-- f(..), all arguments data, dvs the defaults -/
theorem ev_callD {P : List Dt → Dt → Prop} (ha : EvA K ta es ds) (hd : ∀ G, Reps K G dvs dds) (hP : P (ds ++ dds) d) : Ev K (tCall (FSpec K (RD P)) dvs E ta) es d := fun F G H σ s Q q =>
  ha F G H σ s _ fun vs G1 H1 s1 g1 r1 => ⟨rem G1 H1, G1, (ds ++ dds).map .d, d, (ds ++ dds).map .d, stt_data s1.rem.1 s1.g s1.rem.2 (r1.append (hd G1)), ⟨_, rfl, rfl, hP⟩, fun v G2 H2 s2 g2 r2 =>
    q v G2 H2 (s1.after s2.f s2.g s2.dj g2) (g1.trans g2) r2⟩
theorem ev_call {P : List Dt → Dt → Prop} (ha : EvA K ta es ds) (hP : P ds d) : Ev K (tCall (FSpec K (RD P)) [] E ta) es d := ev_callD (dds := []) ha (fun _ => .nil) (by rw [List.append_nil]; exact hP)
/-- o.m(..) -/
theorem ev_methD {P : List Dt → Dt → Prop} {to : TE} {C : Addr} {fs : List (Str × Dt)} {m : Str} (ho : Ev K to es (.obj C fs)) (hm : fs.lookup m = none) (ha : EvA K ta es ds) (hd : ∀ G, Reps K G dvs dds) (hP : P (.obj C fs :: (ds ++ dds)) d) : Ev K (tMeth C m (FSpec K (RD P)) dvs E to ta) es d := fun F G H σ s Q q =>
  ho F G H σ s _ fun x G0 H0 s0 g0 r0 => by
    have r0' := r0
    cases r0 with
    | obj h rf =>
      refine ⟨_, _, _, rfl, s0.g _ _ h, rf.lookup_none hm, ?_⟩
      exact ha F G0 H0 σ s0 _ fun vs G1 H1 s1 g1 r1 => ⟨rem G1 H1, G1, (Dt.obj C fs :: (ds ++ dds)).map .d, d, (Dt.obj C fs :: (ds ++ dds)).map .d, stt_data s1.rem.1 s1.g s1.rem.2 (.cons (r0'.mono g1) (r1.append (hd G1))), ⟨_, rfl, rfl, hP⟩, fun v G2 H2 s2 g2 r2 =>
        q v G2 H2 (s1.after s2.f s2.g s2.dj g2) (g0.trans (g1.trans g2)) r2⟩
theorem ev_meth {P : List Dt → Dt → Prop} {to : TE} {C : Addr} {fs : List (Str × Dt)} {m : Str} (ho : Ev K to es (.obj C fs)) (hm : fs.lookup m = none) (ha : EvA K ta es ds) (hP : P (.obj C fs :: ds) d) : Ev K (tMeth C m (FSpec K (RD P)) [] E to ta) es d :=
  ev_methD (dds := []) ho hm ha (fun _ => .nil) (by rw [List.append_nil]; exact hP)
/-- C(..) -/
theorem ev_makeD {P : List Dt → List (Str × Dt) → Prop} {C : Addr} {fs : List (Str × Dt)} (ha : EvA K ta es ds) (hd : ∀ G, Reps K G dvs dds) (hP : P (ds ++ dds) fs) : Ev K (tMake C (FSpec K (RI C P)) dvs E ta) es (.obj C fs) := fun F G H σ s Q q =>
  ha F G H σ s _ fun vs G1 H1 s1 g1 r1 x dx hx hdx ne => by
    have hx1 : upd H1 dx (.own x) x = none := by
      rw [upd_ne (fun z => ne z.symm)]
      exact hx
    have s2 : Stt K F G1 (upd (upd H1 dx (.own x)) x (.ins C dx [])) σ es := (s1.lay hdx).lay hx1
    have gx : G1 x = none := s1.gnone hx
    have rx : ∀ a o, a ≠ x → rem G1 (upd (upd H1 dx (.own x)) x (.ins C dx [])) a = some o → rem G1 (upd (upd H1 dx (.own x)) x (.ins C dx [])) a = some o := fun _ _ _ e => e
    -- what is another's: all but the known and the new one
    refine ⟨fun a => if a = x then none else rem G1 (upd (upd H1 dx (.own x)) x (.ins C dx [])) a, G1, .obo (some x) C [] :: (ds ++ dds).map .d, .non, .obo (some x) C fs :: (ds ++ dds).map .d, ?_, ⟨x, _, fs, rfl, rfl, rfl, hP⟩, ?_⟩
    · have base : Stt K (fun a => if a = x then none else rem G1 (upd (upd H1 dx (.own x)) x (.ins C dx [])) a) G1 (upd (upd H1 dx (.own x)) x (.ins C dx [])) ((vs ++ dvs).map some) ((ds ++ dds).map .d) := by
        refine stt_data (fun a o e => ?_) s2.g (fun a o e => ?_) (r1.append (hd G1))
        · by_cases q : a = x
          · rw [if_pos q] at e; cases e
          · rw [if_neg q] at e; exact (rem_some e).1
        · by_cases q : a = x
          · rw [if_pos q] at e; cases e
          · rw [if_neg q] at e; exact (rem_some e).2
      refine ⟨base.f, base.g, base.dj, by rw [List.map_cons, List.length_cons, List.length_cons, base.len], fun i t e => ?_, fun i j t u nij ei ej hi hj => ?_⟩
      · cases i with
        | zero =>
          cases e
          exact ⟨_, rfl, x, dx, [], rfl, gx, if_pos rfl, upd_same, .nil, fun q e => (Option.some.inj e).symm⟩
        | succ i => exact base.sl i t e
      · cases i with
        | zero =>
          cases j with
          | zero => exact absurd rfl nij
          | succ j =>
            have ej' : ((ds ++ dds).map Sl.d)[j]? = some u := ej
            rw [List.getElem?_map] at ej'
            cases q : (ds ++ dds)[j]? with
            | none => rw [q] at ej'; cases ej'
            | some d => rw [q] at ej'; cases ej'; cases hj
        | succ i =>
          have ei' : ((ds ++ dds).map Sl.d)[i]? = some t := ei
          rw [List.getElem?_map] at ei'
          cases q : (ds ++ dds)[i]? with
          | none => rw [q] at ei'; cases ei'
          | some d => rw [q] at ei'; cases ei'; cases hi
    · intro v G2 H2 s3 g3 r3
      cases r3
      obtain ⟨o, ho, p, dx', fv, eo, gp, fp, hp, rf, an⟩ := s3.sl 0 _ rfl
      cases ho
      cases eo
      refine ⟨rfl, ?_⟩
      have gx2 : Same G2 (upd G2 x (.ins C dx' fv)) := same_upd gp
      have s4 : Stt K F (upd G2 x (.ins C dx' fv)) H2 σ es := by
        have keep : ∀ a o, H1 a = some o → G1 a = none → H2 a = some o ∧ G2 a = none := fun a o e g => by
          have ax : a ≠ x := fun z => by subst z; rw [hx] at e; cases e
          have adx : a ≠ dx := fun z => by subst z; rw [hdx] at e; cases e
          have fa : (if a = x then none else rem G1 (upd (upd H1 dx (.own x)) x (.ins C dx [])) a) = some o := by
            rw [if_neg ax, rem_of g, upd_ne ax, upd_ne adx]
            exact e
          exact ⟨s3.f a o fa, s3.dj a o fa⟩
        have nex : ∀ a o, H1 a = some o → a ≠ x := fun a o e z => by subst z; rw [hx] at e; cases e
        refine s1.after (H' := H2) (G' := upd G2 x (.ins C dx' fv)) (fun a o e => (keep a o (rem_some e).1 (rem_some e).2).1) (fun a o e => ?_) (fun a o e => ?_) (g3.trans gx2)
        · by_cases q : a = x
          · subst q
            rw [upd_same] at e
            cases e
            exact hp
          · rw [upd_ne q] at e
            exact s3.g a o e
        · rw [upd_ne (nex a o (rem_some e).1)]
          exact (keep a o (rem_some e).1 (rem_some e).2).2
      exact q _ _ H2 s4 (g1.trans (g3.trans gx2)) (.obj upd_same (rf.mono gx2))
theorem ev_make {P : List Dt → List (Str × Dt) → Prop} {C : Addr} {fs : List (Str × Dt)} (ha : EvA K ta es ds) (hP : P ds fs) : Ev K (tMake C (FSpec K (RI C P)) [] E ta) es (.obj C fs) := ev_makeD (dds := []) ha (fun _ => .nil) (by rw [List.append_nil]; exact hP)
end

/-! ### a def by its body -/
section
variable {P : Program} {w : World} {K : PySem.W.Frag} {mg : Str → Option Value} {base : Heap}
theorem stt_start {F G H : Hp} {vs : List V} {ss : List Sl} {N : List Str} {n : Nat} (s : Stt K F G H (vs.map some) ss) (hn : n = N.length - ss.length) : Stt K F G H (L2.start N vs) (ss ++ List.replicate n .un) where
  f := s.f
  g := s.g
  dj := s.dj
  len := by
    have := s.len
    rw [List.length_map] at this
    unfold L2.start
    rw [List.length_append, List.length_append, List.length_map, List.length_replicate, List.length_replicate, this, hn]
  sl := fun i t e => by
    have hl := s.len
    rw [List.length_map] at hl
    unfold L2.start
    by_cases hi : i < ss.length
    · rw [List.getElem?_append_left hi] at e
      rw [List.getElem?_append_left (by rw [List.length_map, hl]; exact hi)]
      exact s.sl i t e
    · rw [List.getElem?_append_right (by omega)] at e
      have hx := (List.getElem?_eq_some_iff.mp e).1
      rw [List.length_replicate] at hx
      rw [List.getElem?_replicate, if_pos hx] at e
      cases e
      rw [List.getElem?_append_right (by rw [List.length_map]; omega), List.getElem?_replicate, List.length_map, if_pos (by omega)]
      exact ⟨none, rfl, trivial⟩
  ow := fun i j t u nij ei ej hi hj => by
    have hl := s.len
    rw [List.length_map] at hl
    have low : ∀ (k : Nat) z, (ss ++ List.replicate n Sl.un)[k]? = some z → z.isOwn = true → k < ss.length ∧ ss[k]? = some z := fun k z e h => by
      by_cases hk : k < ss.length
      · rw [List.getElem?_append_left hk] at e
        exact ⟨hk, e⟩
      · rw [List.getElem?_append_right (by omega), List.getElem?_replicate] at e
        split at e
        · cases e; cases h
        · cases e
    obtain ⟨h1, e1⟩ := low i t ei hi
    obtain ⟨h2, e2⟩ := low j u ej hj
    unfold L2.start
    rw [List.getElem?_append_left (by rw [List.length_map, hl]; exact h1), List.getElem?_append_left (by rw [List.length_map, hl]; exact h2)]
    exact s.ow i j t u nij e1 e2 hi hj
/-- what a body comes to: a value handed back, or its end -/
def Ends2 (d : Dt) (es : List Sl) (o : Res) : Prop := o = .rt d es ∨ (o = .nx es ∧ d = .non)
theorem good_end {F G : Hp} {d : Dt} {es : List Sl} {o : Res} {Q : VK} (h : Ends2 d es o) (q : ∀ v G' H' σ', Stt K F G' H' σ' es → Same G G' → Rep K G' v d → Q v H') : Good K F G { nx := fun _ H' => Q .non H', rt := Q } o := by
  rcases h with rfl | ⟨rfl, rfl⟩
  · exact q
  · exact fun G' H' σ' s g => q .non G' H' σ' s g .non
/-- THE RULE: a def whose arguments are all data -/
theorem fn_D {x qual : Str} {st : Stmt} {f : Addr} {fd : FuncData} {N ps : List Str} {k : Nat} {R : List Dt → Dt → Prop} (F : Fun K x qual st f fd) (S : FnScope N ps (defScope st)) (hl : ∀ ds d, R ds d → ds.length = ps.length)
    (body : ∀ (cdv : Value) (A : Around) (outer : List Env) (s : Shared) (H : Hp) (E : XK), Room k (A.deeper (PyProof.Rows.envOfC qual (defScope st) s.heap.objs.size f cdv)) →
      ∃ t, PSs (cxOf CX0 P w K mg base N qual (defScope st) f cdv A outer s H E).nox (defBody st) t ∧ ∀ ds d, R ds d → ∃ o es, SEv K t (ds.map .d ++ List.replicate (N.length - ps.length) .un) o ∧ Ends2 d es o) :
    FnOk P w K mg base CX0 (k + 1) f fd ps (FSpec K (RD R)) := by
  refine F.ok S (fun vs H Q E h => ?_) (fun cdv A outer s H vs Q E hr h => ?_)
  · obtain ⟨F, G, ss, d, ss', s, ⟨ds, rfl, _, hR⟩, _⟩ := h
    have := s.len
    rw [List.length_map, List.length_map, hl ds d hR] at this
    exact this
  · obtain ⟨t, ht, hb⟩ := body cdv A outer s H E hr
    refine ⟨t, ht, ?_⟩
    obtain ⟨F1, G, ss, d, ss', st1, ⟨ds, rfl, rfl, hR⟩, q⟩ := h
    obtain ⟨o, es, hs, he⟩ := hb ds d hR
    refine hs F1 G H _ _ (stt_start st1 (by rw [List.length_map, hl ds d hR])) (good_end he fun v G' H' σ' s' g r => ?_)
    have rs : Reps K G vs ds := data_of (vs := vs) (ds := ds) (K := K) (F := F1) (G := G) (H := H) (by have := st1.len; simpa using this) st1.sl
    exact q v G' H' (stt_data s'.f s'.g s'.dj (rs.mono g)) g r
/-- THE RULE: an __init__ -/
theorem fn_I {x qual : Str} {st : Stmt} {f : Addr} {fd : FuncData} {N ps : List Str} {k : Nat} {C : Addr} {R : List Dt → List (Str × Dt) → Prop} (F : Fun K x qual st f fd) (S : FnScope N ps (defScope st)) (hl : ∀ ds d, R ds d → ds.length + 1 = ps.length)
    (body : ∀ (cdv : Value) (A : Around) (outer : List Env) (s : Shared) (H : Hp) (E : XK), Room k (A.deeper (PyProof.Rows.envOfC qual (defScope st) s.heap.objs.size f cdv)) →
      ∃ t, PSs (cxOf CX0 P w K mg base N qual (defScope st) f cdv A outer s H E).nox (defBody st) t ∧ ∀ p ds fs, R ds fs → ∃ o es, SEv K t (.obo (some p) C [] :: ds.map .d ++ List.replicate (N.length - ps.length) .un) o ∧ Ends2 .non (.obo (some p) C fs :: es) o) :
    FnOk P w K mg base CX0 (k + 1) f fd ps (FSpec K (RI C R)) := by
  refine F.ok S (fun vs H Q E h => ?_) (fun cdv A outer s H vs Q E hr h => ?_)
  · obtain ⟨F, G, ss, d, ss', s, ⟨p, ds, fs, rfl, _, _, hR⟩, _⟩ := h
    have := s.len
    rw [List.length_map, List.length_cons, List.length_map, hl ds fs hR] at this
    exact this
  · obtain ⟨t, ht, hb⟩ := body cdv A outer s H E hr
    refine ⟨t, ht, ?_⟩
    obtain ⟨F1, G, ss, d, ss', st1, ⟨p, ds, fs, rfl, rfl, rfl, hR⟩, q⟩ := h
    obtain ⟨o, es, hs, he⟩ := hb p ds fs hR
    refine hs F1 G H _ _ (stt_start st1 (by rw [List.length_cons, List.length_map, hl ds fs hR])) (good_end he fun v G' H' σ' s' g r => ?_)
    cases vs with
    | nil =>
      have := st1.len
      simp at this
    | cons v0 vs =>
      obtain ⟨o0, ho0, p0, dx0, fv0, e0, g0, f0, h0, r0, a0⟩ := st1.sl 0 _ rfl
      cases ho0
      cases e0
      obtain rfl := a0 p rfl
      obtain ⟨o1, ho1, p1, dx1, fv1, e1, g1, f1, h1, r1, a1⟩ := s'.sl 0 _ rfl
      subst e1
      obtain rfl := a1 _ rfl
      have rs : Reps K G vs ds := data_of (vs := vs) (ds := ds) (K := K) (F := F1) (G := G) (H := H) (by have := st1.len; simpa using this) fun i t e => st1.sl (i + 1) t e
      have base := stt_data s'.f s'.g s'.dj (rs.mono g)
      refine q v G' H' ⟨base.f, base.g, base.dj, by rw [List.map_cons, List.length_cons, List.length_cons, base.len], fun i t e => ?_, fun i j t u nij ei ej hi hj => ?_⟩ g r
      · cases i with
        | zero =>
          cases e
          exact ⟨_, rfl, p, dx1, fv1, rfl, g1, f1, h1, r1, a1⟩
        | succ i => exact base.sl i t e
      · have no : ∀ (k : Nat) z, ((ds.map Sl.d))[k]? = some z → z.isOwn = true → False := fun k z e h => by
          rw [List.getElem?_map] at e
          cases q : ds[k]? with
          | none => rw [q] at e; cases e
          | some d => rw [q] at e; cases e; cases h
        cases i with
        | zero =>
          cases j with
          | zero => exact absurd rfl nij
          | succ j => exact (no j u ej hj).elim
        | succ i => exact (no i t ei hi).elim
end
end DL

namespace DL
open PySem L2

/-! ### embeddings -/
abbrev dT1 {α : Type} (e1 : α → Dt) (x : α) : Dt := .tup [e1 x]
abbrev dT2 {α β : Type} (e1 : α → Dt) (e2 : β → Dt) (x : α × β) : Dt := .tup [e1 x.1, e2 x.2]
abbrev dT3 {α β γ : Type} (e1 : α → Dt) (e2 : β → Dt) (e3 : γ → Dt) (x : α × β × γ) : Dt := .tup [e1 x.1, e2 x.2.1, e3 x.2.2]
abbrev dT4 {α β γ δ : Type} (e1 : α → Dt) (e2 : β → Dt) (e3 : γ → Dt) (e4 : δ → Dt) (x : α × β × γ × δ) : Dt := .tup [e1 x.1, e2 x.2.1, e3 x.2.2.1, e4 x.2.2.2]
abbrev dT5 {α β γ δ ε : Type} (e1 : α → Dt) (e2 : β → Dt) (e3 : γ → Dt) (e4 : δ → Dt) (e5 : ε → Dt) (x : α × β × γ × δ × ε) : Dt := .tup [e1 x.1, e2 x.2.1, e3 x.2.2.1, e4 x.2.2.2.1, e5 x.2.2.2.2]
abbrev dL {α : Type} (e : α → Dt) (xs : List α) : Dt := .lst (xs.map e)
abbrev dV {α : Type} (e : α → Dt) (xs : List α) : Dt := .tup (xs.map e)
abbrev dN (_ : Unit) : Dt := .non
def dO {α : Type} (e : α → Dt) : Option α → Dt
  | none => .non
  | some x => e x

/-! ### built-ins -/
def rAbs : List V → Hp → VK → Prop := fun xs H Q => ∃ i, xs = [.int i] ∧ Q (.int (if i < 0 then -i else i)) H
def rMax2 : List V → Hp → VK → Prop := fun xs H Q => ∃ i j, xs = [.int i, .int j] ∧ Q (.int (if j > i then j else i)) H
def rMin2 : List V → Hp → VK → Prop := fun xs H Q => ∃ i j, xs = [.int i, .int j] ∧ Q (.int (if j < i then j else i)) H
def rInt : List V → Hp → VK → Prop := fun xs H Q => (∃ i, xs = [.int i] ∧ Q (.int i) H) ∨ ∃ k, xs = [.bl k] ∧ Q (.int (if k then 1 else 0)) H
def rLenS (K : PySem.W.Frag) : List V → Hp → VK → Prop := fun xs H Q => ∃ p ys, xs = [.ref p] ∧ (SqL K H p ys ∨ SqT K H p ys) ∧ Q (.int ys.length) H
def rListS (K : PySem.W.Frag) : List V → Hp → VK → Prop := fun xs H Q => ∃ p ys, xs = [.ref p] ∧ (SqL K H p ys ∨ SqT K H p ys) ∧ ∀ l, H l = none → Q (.ref l) (upd H l (.lst ys))
def rTupS (K : PySem.W.Frag) : List V → Hp → VK → Prop := fun xs H Q => ∃ p ys, xs = [.ref p] ∧ ((SqL K H p ys ∧ ∀ l, H l = none → Q (.ref l) (upd H l (.tup ys))) ∨ (SqT K H p ys ∧ Q (.ref p) H))
def rLenT : List V → Hp → VK → Prop := fun xs H Q => ∃ z, xs = [.str z] ∧ z.length ≤ sizeLine ∧ Q (.int z.length) H
def rIsqrt : List V → Hp → VK → Prop := fun xs H Q => ∃ i : Int, xs = [.int i] ∧ 0 ≤ i ∧ i.toNat.log2 ≤ 13000 ∧ Q (.int ((Float64.isqrt i.toNat : Nat) : Int)) H
section
variable {X : Cx}
theorem cr_abs : CallR X (.builtin "abs") rAbs := call_abs
theorem cr_max2 (hc : X.calm = true) : CallR X (.builtin "max") rMax2 := call_max2 hc
theorem cr_min2 (hc : X.calm = true) : CallR X (.builtin "min") rMin2 := call_min2 hc
theorem cr_max3 (hc : X.calm = true) : CallR X (.builtin "max") (rNuC3 nuMax3) := call_max3Nu hc
theorem cr_min3 (hc : X.calm = true) : CallR X (.builtin "min") (rNuC3 nuMin3) := call_min3Nu hc
theorem cr_int : CallR X (.type "int") rInt := call_int1
theorem cr_lenS : CallR X (.builtin "len") (rLenS X.K) := call_len_seq
theorem cr_lenT : CallR X (.builtin "len") rLenT := call_len_str
theorem cr_listS : CallR X (.type "list") (rListS X.K) := call_list_of
theorem cr_tupS : CallR X (.type "tuple") (rTupS X.K) := call_tuple_of
theorem cr_isqrt : CallR X (.builtin "math.isqrt") rIsqrt := by
  intro pins s σ H vs us Q I r h
  obtain ⟨a, rfl, h0, h1, q⟩ := h
  cases r with
  | cons r1 r2 =>
    cases r2
    obtain ⟨t, rfl⟩ := r1
    exact PySem.call_function_meets PySem.W.MGF.kind_isqrt PySem.W.MGF.plain_isqrt PySem.W.MGF.entry_isqrt (PySem.W.MGF.args_isqrt _) (PySem.W.mg_run_isqrt a t (by omega) (by omega) (by omega)).meets ⟨.int _, H, I.tok _, ⟨_, rfl⟩, q⟩
end
section
variable {K : PySem.W.Frag} {es : List Sl} {ta tb te : TE} {d : Dt}
theorem ld_1 {r : List V → Hp → VK → Prop} {a c : Dt} (ha : Ev K ta es a) (hr : ∀ F G H σ x, Stt K F G H σ es → Rep K G x a → ∀ Q : VK, (∀ v G' H', Stt K F G' H' σ es → Same G G' → Rep K G' v c → Q v H') → r [x] H Q) : Ev K (tCB r (tCons ta tNil)) es c := fun F G H σ s Q q =>
  ha F G H σ s _ fun x G1 H1 s1 g1 r1 => hr F G1 H1 σ x s1 r1 Q fun v G2 H2 s2 g2 r2 => q v G2 H2 s2 (g1.trans g2) r2
theorem ld_2 {r : List V → Hp → VK → Prop} {a b c : Dt} (ha : Ev K ta es a) (hb : Ev K tb es b) (hr : ∀ F G H σ x y, Stt K F G H σ es → Rep K G x a → Rep K G y b → ∀ Q : VK, (∀ v G' H', Stt K F G' H' σ es → Same G G' → Rep K G' v c → Q v H') → r [x, y] H Q) : Ev K (tCB r (tCons ta (tCons tb tNil))) es c := fun F G H σ s Q q =>
  ha F G H σ s _ fun x G1 H1 s1 g1 r1 => hb F G1 H1 σ s1 _ fun y G2 H2 s2 g2 r2 => hr F G2 H2 σ x y s2 (r1.mono g2) r2 Q fun v G3 H3 s3 g3 r3 => q v G3 H3 s3 (g1.trans (g2.trans g3)) r3
theorem ld_3 {r : List V → Hp → VK → Prop} {tc : TE} {a b e c : Dt} (ha : Ev K ta es a) (hb : Ev K tb es b) (he : Ev K tc es e) (hr : ∀ F G H σ x y z, Stt K F G H σ es → Rep K G x a → Rep K G y b → Rep K G z e → ∀ Q : VK, (∀ v G' H', Stt K F G' H' σ es → Same G G' → Rep K G' v c → Q v H') → r [x, y, z] H Q) : Ev K (tCB r (tCons ta (tCons tb (tCons tc tNil)))) es c := fun F G H σ s Q q =>
  ha F G H σ s _ fun x G1 H1 s1 g1 r1 => hb F G1 H1 σ s1 _ fun y G2 H2 s2 g2 r2 => he F G2 H2 σ s2 _ fun z G3 H3 s3 g3 r3 => hr F G3 H3 σ x y z s3 ((r1.mono g2).mono g3) (r2.mono g3) r3 Q fun v G4 H4 s4 g4 r4 => q v G4 H4 s4 (g1.trans (g2.trans (g3.trans g4))) r4
theorem ev_abs {i : Int} (ha : Ev K ta es (.int i)) : Ev K (tCB rAbs (tCons ta tNil)) es (.int (i.natAbs : Int)) := ld_1 ha fun F G H σ x s r Q q => by
  cases r
  refine ⟨i, rfl, ?_⟩
  have : (if i < 0 then -i else i) = (i.natAbs : Int) := by split <;> omega
  rw [this]
  exact q _ G H s (Same.refl _) (.int _)
theorem ev_max2 {i j : Int} (ha : Ev K ta es (.int i)) (hb : Ev K tb es (.int j)) : Ev K (tCB rMax2 (tCons ta (tCons tb tNil))) es (.int (max i j)) := ld_2 ha hb fun F G H σ x y s r r' Q q => by
  cases r
  cases r'
  refine ⟨i, j, rfl, ?_⟩
  have : (if j > i then j else i) = max i j := by split <;> omega
  rw [this]
  exact q _ G H s (Same.refl _) (.int _)
theorem ev_min2 {i j : Int} (ha : Ev K ta es (.int i)) (hb : Ev K tb es (.int j)) : Ev K (tCB rMin2 (tCons ta (tCons tb tNil))) es (.int (min i j)) := ld_2 ha hb fun F G H σ x y s r r' Q q => by
  cases r
  cases r'
  refine ⟨i, j, rfl, ?_⟩
  have : (if j < i then j else i) = min i j := by split <;> omega
  rw [this]
  exact q _ G H s (Same.refl _) (.int _)
theorem nu_max2 (i j : Int) : nuMax2 (.int i) (.int j) = some (.int (max i j)) := by
  show some (if decide (i < j) = true then V.int j else V.int i) = _
  by_cases h : i < j
  · rw [if_pos (decide_eq_true h)]
    congr 2
    omega
  · rw [if_neg (by rw [decide_eq_true_eq]; exact h)]
    congr 2
    omega
theorem nu_min2 (i j : Int) : nuMin2 (.int i) (.int j) = some (.int (min i j)) := by
  show some (if decide (j < i) = true then V.int j else V.int i) = _
  by_cases h : j < i
  · rw [if_pos (decide_eq_true h)]
    congr 2
    omega
  · rw [if_neg (by rw [decide_eq_true_eq]; exact h)]
    congr 2
    omega
theorem ev_max3 {tc : TE} {i j k : Int} (ha : Ev K ta es (.int i)) (hb : Ev K tb es (.int j)) (hc : Ev K tc es (.int k)) : Ev K (tCB (rNuC3 nuMax3) (tCons ta (tCons tb (tCons tc tNil)))) es (.int (max (max i j) k)) := ld_3 ha hb hc fun F G H σ x y z s r r' r'' Q q => by
  cases r
  cases r'
  cases r''
  refine ⟨_, _, _, .int (max (max i j) k), rfl, ?_, q _ G H s (Same.refl _) (.int _)⟩
  unfold nuMax3
  rw [nu_max2]
  exact nu_max2 _ _
theorem ev_min3 {tc : TE} {i j k : Int} (ha : Ev K ta es (.int i)) (hb : Ev K tb es (.int j)) (hc : Ev K tc es (.int k)) : Ev K (tCB (rNuC3 nuMin3) (tCons ta (tCons tb (tCons tc tNil)))) es (.int (min (min i j) k)) := ld_3 ha hb hc fun F G H σ x y z s r r' r'' Q q => by
  cases r
  cases r'
  cases r''
  refine ⟨_, _, _, .int (min (min i j) k), rfl, ?_, q _ G H s (Same.refl _) (.int _)⟩
  unfold nuMin3
  rw [nu_min2]
  exact nu_min2 _ _
theorem ev_intI {i : Int} (ha : Ev K ta es (.int i)) : Ev K (tCB rInt (tCons ta tNil)) es (.int i) := ld_1 ha fun F G H σ x s r Q q => by
  cases r
  exact .inl ⟨i, rfl, q _ G H s (Same.refl _) (.int _)⟩
def b2i (b : Bool) : Int := if b = true then 1 else 0
theorem ev_intB {b : Bool} (ha : Ev K ta es (.bl b)) : Ev K (tCB rInt (tCons ta tNil)) es (.int (b2i b)) := ld_1 ha fun F G H σ x s r Q q => by
  cases r
  exact .inr ⟨b, rfl, q _ G H s (Same.refl _) (.int _)⟩
theorem ev_lenL {ds : List Dt} (ha : Ev K ta es (.lst ds)) : Ev K (tCB (rLenS K) (tCons ta tNil)) es (.int (ds.length : Int)) := ld_1 ha fun F G H σ x s r Q q => by
  cases r with
  | lst h r => exact ⟨_, _, rfl, .inl (s.g.seq h), by rw [r.length]; exact q _ G H s (Same.refl _) (.int _)⟩
theorem ev_lenV {ds : List Dt} (ha : Ev K ta es (.tup ds)) : Ev K (tCB (rLenS K) (tCons ta tNil)) es (.int (ds.length : Int)) := ld_1 ha fun F G H σ x s r Q q => by
  cases r with
  | tup h r => exact ⟨_, _, rfl, .inr (sqT_mono s.g h), by rw [r.length]; exact q _ G H s (Same.refl _) (.int _)⟩
theorem ev_lenLm {α : Type} {em : α → Dt} {xs : List α} (ha : Ev K ta es (.lst (xs.map em))) : Ev K (tCB (rLenS K) (tCons ta tNil)) es (.int (xs.length : Int)) := ev_is (ev_lenL ha) (by rw [List.length_map])
theorem ev_lenVm {α : Type} {em : α → Dt} {xs : List α} (ha : Ev K ta es (.tup (xs.map em))) : Ev K (tCB (rLenS K) (tCons ta tNil)) es (.int (xs.length : Int)) := ev_is (ev_lenV ha) (by rw [List.length_map])
/-- len of the list one fills -/
theorem ev_lenO {α : Type} {em : α → Dt} {xs : List α} {i : Nat} {p : Option Addr} (h : es[i]? = some (.own p (xs.map em))) : Ev K (tCB (rLenS K) (tCons (tVar i) tNil)) es (.int (xs.length : Int)) := fun F G H σ s Q q => by
  obtain ⟨o, ho, p, vs, e, g, f, hp, r, _⟩ := s.sl i _ h
  subst e
  refine ⟨.ref p, ho, p, vs, rfl, .inl (.inl (.inl hp)), ?_⟩
  have := r.length
  rw [List.length_map] at this
  rw [this]
  exact q _ G H s (Same.refl _) (.int _)
def lenC (s : Str) : Option Int := if s.length ≤ 10000000 then some (s.length : Int) else none
theorem ev_lenS {s : Str} {n : Int} (ha : Ev K ta es (.str s)) (h : lenC s = some n) : Ev K (tCB rLenT (tCons ta tNil)) es (.int n) := ld_1 ha fun F G H σ x st r Q q => by
  obtain ⟨hl, rfl⟩ := ite_some h
  cases r
  have sz : (10000000 : Nat) < sizeLine := by decide
  exact ⟨s, rfl, by omega, q _ G H st (Same.refl _) (.int _)⟩
/-- list(x) -/
theorem el_listL {ds : List Dt} (ha : Ev K ta es (.lst ds)) : EvL K (tCB (rListS K) (tCons ta tNil)) es ds := fun F G H σ s Q q =>
  ha F G H σ s _ fun x G1 H1 s1 g1 r1 => by
    cases r1 with
    | lst h r => exact ⟨_, _, rfl, .inl (s1.g.seq h), fun l hl => q l _ G1 _ (s1.prot hl) (s1.fnone hl) g1 r⟩
theorem el_listV {ds : List Dt} (ha : Ev K ta es (.tup ds)) : EvL K (tCB (rListS K) (tCons ta tNil)) es ds := fun F G H σ s Q q =>
  ha F G H σ s _ fun x G1 H1 s1 g1 r1 => by
    cases r1 with
    | tup h r => exact ⟨_, _, rfl, .inr (sqT_mono s1.g h), fun l hl => q l _ G1 _ (s1.prot hl) (s1.fnone hl) g1 r⟩
/-- tuple(x) -/
theorem ev_tupL {ds : List Dt} (ha : Ev K ta es (.lst ds)) : Ev K (tCB (rTupS K) (tCons ta tNil)) es (.tup ds) := ld_1 ha fun F G H σ x s r Q q => by
  cases r with
  | lst h r => exact ⟨_, _, rfl, .inl ⟨s.g.seq h, fun l hl => q _ _ _ (s.new hl) (same_upd (s.gnone hl)) (.tup (.inl (.inl upd_same)) (r.mono (same_upd (s.gnone hl))))⟩⟩
theorem ev_tupV {ds : List Dt} (ha : Ev K ta es (.tup ds)) : Ev K (tCB (rTupS K) (tCons ta tNil)) es (.tup ds) := ld_1 ha fun F G H σ x s r Q q => by
  cases r with
  | tup h r => exact ⟨_, _, rfl, .inr ⟨sqT_mono s.g h, q _ G H s (Same.refl _) (.tup h r)⟩⟩
/-- tuple of the list one fills -/
theorem ev_tupO {ds : List Dt} {i : Nat} {p : Option Addr} (h : es[i]? = some (.own p ds)) : Ev K (tCB (rTupS K) (tCons (tVar i) tNil)) es (.tup ds) := fun F G H σ s Q q => by
  obtain ⟨o, ho, p, vs, e, g, f, hp, r, _⟩ := s.sl i _ h
  subst e
  exact ⟨.ref p, ho, p, vs, rfl, .inl ⟨.inl (.inl hp), fun l hl => q _ _ _ (s.new hl) (same_upd (s.gnone hl)) (.tup (.inl (.inl upd_same)) (r.mono (same_upd (s.gnone hl))))⟩⟩
def isqrtC (i : Int) : Option Int := if 0 ≤ i ∧ i.toNat.log2 ≤ 13000 then some ((Float64.isqrt i.toNat : Nat) : Int) else none
theorem ev_isqrt {i k : Int} (ha : Ev K ta es (.int i)) (h : isqrtC i = some k) : Ev K (tCB rIsqrt (tCons ta tNil)) es (.int k) := ld_1 ha fun F G H σ x s r Q q => by
  obtain ⟨⟨h0, h1⟩, rfl⟩ := ite_some h
  cases r
  exact ⟨i, rfl, h0, h1, q _ G H s (Same.refl _) (.int _)⟩
theorem ev_gcd {i j : Int} (ha : Ev K ta es (.int i)) (hb : Ev K tb es (.int j)) : Ev K (tCB rGcd (tCons ta (tCons tb tNil))) es (.int ((Nat.gcd i.natAbs j.natAbs : Nat) : Int)) := ld_2 ha hb fun F G H σ x y s r r' Q q => by
  cases r
  cases r'
  exact ⟨i, j, rfl, q _ G H s (Same.refl _) (.int _)⟩
theorem ev_bits {i : Int} (ha : Ev K ta es (.int i)) : Ev K (tBits ta) es (.int (Builtin.Int.intBits i : Nat)) := fun F G H σ s Q q => ha F G H σ s _ fun x G1 H1 s1 g1 r => by
  cases r
  exact ⟨i, rfl, q _ G1 H1 s1 g1 (.int _)⟩
theorem ints_of : ∀ {G : Hp} {vs : List V} {ns : List Int}, Reps K G vs (ns.map Dt.int) → vs = ns.map V.int
  | _, _, [], .nil => rfl
  | _, _, n :: ns, .cons h r => by
    cases h
    rw [ints_of r]
    rfl
theorem bools_of : ∀ {G : Hp} {vs : List V} {ns : List Bool}, Reps K G vs (ns.map Dt.bl) → vs = ns.map V.bl
  | _, _, [], .nil => rfl
  | _, _, n :: ns, .cons h r => by
    cases h
    rw [bools_of r]
    rfl
theorem ev_sum {ns : List Int} (ha : Ev K ta es (.lst (ns.map Dt.int))) : Ev K (tCB (rSum K) (tCons ta tNil)) es (.int ns.sum) := ld_1 ha fun F G H σ x s r Q q => by
  cases r with
  | lst h r =>
    have e := ints_of r
    subst e
    exact ⟨_, ns, rfl, s.g.seq h, q _ G H s (Same.refl _) (.int _)⟩
theorem ev_all {ns : List Bool} (ha : Ev K ta es (.lst (ns.map Dt.bl))) : Ev K (tCB (rAll K) (tCons ta tNil)) es (.bl (ns.all id)) := ld_1 ha fun F G H σ x s r Q q => by
  cases r with
  | lst h r =>
    have e := bools_of r
    subst e
    exact ⟨_, ns, rfl, s.g.seq h, q _ G H s (Same.refl _) (.bl _)⟩
theorem ev_any {ns : List Bool} (ha : Ev K ta es (.lst (ns.map Dt.bl))) : Ev K (tCB (rAny K) (tCons ta tNil)) es (.bl (ns.any id)) := ld_1 ha fun F G H σ x s r Q q => by
  cases r with
  | lst h r =>
    have e := bools_of r
    subst e
    exact ⟨_, ns, rfl, s.g.seq h, q _ G H s (Same.refl _) (.bl _)⟩
def maxL : List Int → Option Int
  | [] => none
  | x :: xs => some (xs.foldl max x)
def minL : List Int → Option Int
  | [] => none
  | x :: xs => some (xs.foldl min x)
theorem foldl_max : ∀ (xs : List Int) (x : Int), (xs.foldl max x = x ∨ xs.foldl max x ∈ xs) ∧ x ≤ xs.foldl max x ∧ ∀ y ∈ xs, y ≤ xs.foldl max x
  | [], x => ⟨.inl rfl, Int.le_refl _, fun _ h => nomatch h⟩
  | y :: xs, x => by
    obtain ⟨h1, h2, h3⟩ := foldl_max xs (max x y)
    refine ⟨?_, ?_, fun z hz => ?_⟩
    · show xs.foldl max (max x y) = x ∨ xs.foldl max (max x y) ∈ y :: xs
      rcases h1 with h1 | h1
      · rw [h1]
        by_cases h : x ≤ y
        · right
          rw [Int.max_eq_right h]
          exact List.mem_cons_self
        · left
          exact Int.max_eq_left (by omega)
      · exact .inr (List.mem_cons_of_mem _ h1)
    · show x ≤ xs.foldl max (max x y)
      omega
    · show z ≤ xs.foldl max (max x y)
      rcases List.mem_cons.mp hz with e | e
      · subst e
        omega
      · exact h3 z e
theorem foldl_min : ∀ (xs : List Int) (x : Int), (xs.foldl min x = x ∨ xs.foldl min x ∈ xs) ∧ xs.foldl min x ≤ x ∧ ∀ y ∈ xs, xs.foldl min x ≤ y
  | [], x => ⟨.inl rfl, Int.le_refl _, fun _ h => nomatch h⟩
  | y :: xs, x => by
    obtain ⟨h1, h2, h3⟩ := foldl_min xs (min x y)
    refine ⟨?_, ?_, fun z hz => ?_⟩
    · show xs.foldl min (min x y) = x ∨ xs.foldl min (min x y) ∈ y :: xs
      rcases h1 with h1 | h1
      · rw [h1]
        by_cases h : x ≤ y
        · left
          exact Int.min_eq_left h
        · right
          rw [Int.min_eq_right (by omega)]
          exact List.mem_cons_self
      · exact .inr (List.mem_cons_of_mem _ h1)
    · show xs.foldl min (min x y) ≤ x
      omega
    · show xs.foldl min (min x y) ≤ z
      rcases List.mem_cons.mp hz with e | e
      · subst e
        omega
      · exact h3 z e
theorem maxL_spec {ns : List Int} {k : Int} (h : maxL ns = some k) : k ∈ ns ∧ ∀ y ∈ ns, y ≤ k := by
  cases ns with
  | nil => cases h
  | cons x xs =>
    cases h
    obtain ⟨h1, h2, h3⟩ := foldl_max xs x
    refine ⟨?_, fun y hy => ?_⟩
    · rcases h1 with h1 | h1
      · rw [h1]
        exact List.mem_cons_self
      · exact List.mem_cons_of_mem _ h1
    · rcases List.mem_cons.mp hy with e | e
      · subst e
        exact h2
      · exact h3 y e
theorem minL_spec {ns : List Int} {k : Int} (h : minL ns = some k) : k ∈ ns ∧ ∀ y ∈ ns, k ≤ y := by
  cases ns with
  | nil => cases h
  | cons x xs =>
    cases h
    obtain ⟨h1, h2, h3⟩ := foldl_min xs x
    refine ⟨?_, fun y hy => ?_⟩
    · rcases h1 with h1 | h1
      · rw [h1]
        exact List.mem_cons_self
      · exact List.mem_cons_of_mem _ h1
    · rcases List.mem_cons.mp hy with e | e
      · subst e
        exact h2
      · exact h3 y e
theorem ev_maxL {ns : List Int} {k : Int} (ha : Ev K ta es (.lst (ns.map Dt.int))) (hk : maxL ns = some k) : Ev K (tCB (rMax K) (tCons ta tNil)) es (.int k) := ld_1 ha fun F G H σ x s r Q q => by
  cases r with
  | lst h r =>
    have e := ints_of r
    subst e
    obtain ⟨k1, k2⟩ := maxL_spec hk
    refine ⟨_, ns, rfl, s.g.seq h, List.length_pos_of_mem k1, fun m h1 h2 => ?_⟩
    have : m = k := Int.le_antisymm (k2 m h1) (h2 k k1)
    subst this
    exact q _ G H s (Same.refl _) (.int _)
theorem ev_minL {ns : List Int} {k : Int} (ha : Ev K ta es (.lst (ns.map Dt.int))) (hk : minL ns = some k) : Ev K (tCB (rMin K) (tCons ta tNil)) es (.int k) := ld_1 ha fun F G H σ x s r Q q => by
  cases r with
  | lst h r =>
    have e := ints_of r
    subst e
    obtain ⟨k1, k2⟩ := minL_spec hk
    refine ⟨_, ns, rfl, s.g.seq h, List.length_pos_of_mem k1, fun m h1 h2 => ?_⟩
    have : m = k := Int.le_antisymm (h2 k k1) (k2 m h1)
    subst this
    exact q _ G H s (Same.refl _) (.int _)
/-- the type of data, where it is a built-in one -/
def tyD : Dt → String
  | .non => "NoneType" | .bl _ => "bool" | .int _ => "int" | .str _ => "str" | .ty _ => "type" | .tup _ => "tuple" | .lst _ => "list" | .obj _ _ => ""
theorem tyX_of {G H : Hp} {x : V} {d : Dt} (g : Same G H) (r : Rep K G x d) (h : tyD d ≠ "" ∧ tyD d ≠ "type") : TyX K H x (.type (tyD d)) := by
  cases r with
  | non => exact .base .non
  | bl b => exact .base (.bl b)
  | int i => exact .base (.int i)
  | str s => exact .base (.str s)
  | ty n => exact absurd rfl h.2
  | tup hs _ =>
    rcases hs with (e | ⟨o, e⟩) | ⟨o, its, n, e, c, _⟩
    · exact .base (.tup (g _ _ e))
    · exact .fTuple (g _ _ e)
    · exact .kTuple e c
  | lst hs _ =>
    rcases hs with (e | ⟨o, e⟩) | ⟨o, its, n, e, c, _⟩
    · exact .base (.lst (g _ _ e))
    · exact .base (.frz (g _ _ e))
    · exact .kList e c
  | obj h2 _ => exact absurd rfl h.1
theorem ev_isi {a : Dt} {n t : String} {b : Bool} (ht : tyD a = t) (h1 : t ≠ "") (h2 : t ≠ "type") (hk : kitB t n = some b) (ha : Ev K ta es a) (hb : Ev K tb es (.ty n)) : Ev K (tCB (rIsi K) (tCons ta (tCons tb tNil))) es (.bl b) := ld_2 ha hb fun F G H σ x y s r r' Q q => by
  cases r'
  subst ht
  exact ⟨x, _, _, _, b, rfl, .ty n, tyX_of s.g r ⟨h1, h2⟩, kit_ty hk, q _ G H s (Same.refl _) (.bl _)⟩
theorem ev_ty {n : String} : Ev K (tC (.ty n)) es (.ty n) := fun F G H σ s Q q => q _ G H s (Same.refl _) (.ty n)
/-- a global that stands in the written part, or a number -/
theorem ev_const {v : V} (h : ∀ G, Rep K G v d) : Ev K (tC v) es d := fun F G H σ s Q q => q v G H s (Same.refl _) (h G)
theorem ev_ixN {ds : List Dt} {i : Int} {n : Nat} (ha : Ev K ta es (.tup ds)) (hi : i = (n : Int)) (h : ds[n]? = some d) : Ev K (tOp (rIxT K) ta (tC (.int i))) es d := by
  refine ev_ixT ha ev_int ?_
  have hlt : n < ds.length := (List.getElem?_eq_some_iff.mp h).1
  unfold atI ixN
  subst hi
  rw [if_pos (by omega), if_pos (by omega)]
  exact h
theorem ev_ixLN {ds : List Dt} {i : Int} {n : Nat} (ha : Ev K ta es (.lst ds)) (hi : i = (n : Int)) (h : ds[n]? = some d) : Ev K (tOp (rIxL K) ta (tC (.int i))) es d := by
  refine ev_ixL ha ev_int ?_
  have hlt : n < ds.length := (List.getElem?_eq_some_iff.mp h).1
  unfold atI ixN
  subst hi
  rw [if_pos (by omega), if_pos (by omega)]
  exact h
end
end DL

namespace DL
open PySem L2

abbrev dT6 {α β γ δ ε ζ : Type} (e1 : α → Dt) (e2 : β → Dt) (e3 : γ → Dt) (e4 : δ → Dt) (e5 : ε → Dt) (e6 : ζ → Dt) (x : α × β × γ × δ × ε × ζ) : Dt := .tup [e1 x.1, e2 x.2.1, e3 x.2.2.1, e4 x.2.2.2.1, e5 x.2.2.2.2.1, e6 x.2.2.2.2.2]
abbrev dT7 {α β γ δ ε ζ η : Type} (e1 : α → Dt) (e2 : β → Dt) (e3 : γ → Dt) (e4 : δ → Dt) (e5 : ε → Dt) (e6 : ζ → Dt) (e7 : η → Dt) (x : α × β × γ × δ × ε × ζ × η) : Dt := .tup [e1 x.1, e2 x.2.1, e3 x.2.2.1, e4 x.2.2.2.1, e5 x.2.2.2.2.1, e6 x.2.2.2.2.2.1, e7 x.2.2.2.2.2.2]
abbrev dF1 {α : Type} (e1 : α → Dt) (x : α) : Dt := .lst [e1 x]
abbrev dF2 {α β : Type} (e1 : α → Dt) (e2 : β → Dt) (x : α × β) : Dt := .lst [e1 x.1, e2 x.2]
abbrev dF3 {α β γ : Type} (e1 : α → Dt) (e2 : β → Dt) (e3 : γ → Dt) (x : α × β × γ) : Dt := .lst [e1 x.1, e2 x.2.1, e3 x.2.2]
abbrev dF4 {α β γ δ : Type} (e1 : α → Dt) (e2 : β → Dt) (e3 : γ → Dt) (e4 : δ → Dt) (x : α × β × γ × δ) : Dt := .lst [e1 x.1, e2 x.2.1, e3 x.2.2.1, e4 x.2.2.2]
abbrev dF5 {α β γ δ ε : Type} (e1 : α → Dt) (e2 : β → Dt) (e3 : γ → Dt) (e4 : δ → Dt) (e5 : ε → Dt) (x : α × β × γ × δ × ε) : Dt := .lst [e1 x.1, e2 x.2.1, e3 x.2.2.1, e4 x.2.2.2.1, e5 x.2.2.2.2]
abbrev dF6 {α β γ δ ε ζ : Type} (e1 : α → Dt) (e2 : β → Dt) (e3 : γ → Dt) (e4 : δ → Dt) (e5 : ε → Dt) (e6 : ζ → Dt) (x : α × β × γ × δ × ε × ζ) : Dt := .lst [e1 x.1, e2 x.2.1, e3 x.2.2.1, e4 x.2.2.2.1, e5 x.2.2.2.2.1, e6 x.2.2.2.2.2]
abbrev dF7 {α β γ δ ε ζ η : Type} (e1 : α → Dt) (e2 : β → Dt) (e3 : γ → Dt) (e4 : δ → Dt) (e5 : ε → Dt) (e6 : ζ → Dt) (e7 : η → Dt) (x : α × β × γ × δ × ε × ζ × η) : Dt := .lst [e1 x.1, e2 x.2.1, e3 x.2.2.1, e4 x.2.2.2.1, e5 x.2.2.2.2.1, e6 x.2.2.2.2.2.1, e7 x.2.2.2.2.2.2]
abbrev dF8 {α β γ δ ε ζ η θ : Type} (e1 : α → Dt) (e2 : β → Dt) (e3 : γ → Dt) (e4 : δ → Dt) (e5 : ε → Dt) (e6 : ζ → Dt) (e7 : η → Dt) (e8 : θ → Dt) (x : α × β × γ × δ × ε × ζ × η × θ) : Dt := .lst [e1 x.1, e2 x.2.1, e3 x.2.2.1, e4 x.2.2.2.1, e5 x.2.2.2.2.1, e6 x.2.2.2.2.2.1, e7 x.2.2.2.2.2.2.1, e8 x.2.2.2.2.2.2.2]
abbrev dT8 {α β γ δ ε ζ η θ : Type} (e1 : α → Dt) (e2 : β → Dt) (e3 : γ → Dt) (e4 : δ → Dt) (e5 : ε → Dt) (e6 : ζ → Dt) (e7 : η → Dt) (e8 : θ → Dt) (x : α × β × γ × δ × ε × ζ × η × θ) : Dt := .tup [e1 x.1, e2 x.2.1, e3 x.2.2.1, e4 x.2.2.2.1, e5 x.2.2.2.2.1, e6 x.2.2.2.2.2.1, e7 x.2.2.2.2.2.2.1, e8 x.2.2.2.2.2.2.2]
theorem bt_len : bootBuiltins "len" = some (.builtin "len") := by decide +kernel
theorem bt_isinstance : bootBuiltins "isinstance" = some (.builtin "isinstance") := by decide +kernel
theorem bt_min : bootBuiltins "min" = some (.builtin "min") := by decide +kernel
theorem bt_max : bootBuiltins "max" = some (.builtin "max") := by decide +kernel
theorem bt_abs : bootBuiltins "abs" = some (.builtin "abs") := by decide +kernel
theorem bt_sum : bootBuiltins "sum" = some (.builtin "sum") := by decide +kernel
theorem bt_sorted : bootBuiltins "sorted" = some (.builtin "sorted") := by decide +kernel
theorem bt_all : bootBuiltins "all" = some (.builtin "all") := by decide +kernel
theorem bt_any : bootBuiltins "any" = some (.builtin "any") := by decide +kernel
theorem bt_repr : bootBuiltins "repr" = some (.builtin "repr") := by decide +kernel
theorem bt_range : bootBuiltins "range" = some (.type "range") := by decide +kernel
theorem bt_int : bootBuiltins "int" = some (.type "int") := by decide +kernel
theorem bt_tuple : bootBuiltins "tuple" = some (.type "tuple") := by decide +kernel
theorem bt_list : bootBuiltins "list" = some (.type "list") := by decide +kernel
theorem bt_str : bootBuiltins "str" = some (.type "str") := by decide +kernel
theorem bt_dict : bootBuiltins "dict" = some (.type "dict") := by decide +kernel
theorem bt_type : bootBuiltins "type" = some (.type "type") := by decide +kernel
theorem bt_enumerate : bootBuiltins "enumerate" = some (.type "enumerate") := by decide +kernel
theorem bt_bool : bootBuiltins "bool" = some (.type "bool") := by decide +kernel
theorem bt_set : bootBuiltins "set" = some (.type "set") := by decide +kernel
theorem bt_zip : bootBuiltins "zip" = some (.type "zip") := by decide +kernel
theorem bt_reversed : bootBuiltins "reversed" = some (.type "reversed") := by decide +kernel
theorem bt_map : bootBuiltins "map" = some (.type "map") := by decide +kernel
section
variable {K : PySem.W.Frag} {es : List Sl} {ρ : Type} {t u tz : TS} {m : Option ρ} {oc : ρ → Res} {te ta tb : TE} {tt : TT} {d : Dt}
theorem sm_run {r : ρ} (h : m = some r) (p : SM K t es m oc) : SEv K t es (oc r) := p r h
theorem wk_n : Wk [] [] := trivial
theorem wk_e {a : Sl} {as bs : List Sl} (h : Wk as bs) : Wk (a :: as) (a :: bs) := ⟨.inr rfl, h⟩
theorem wk_u {a : Sl} {as bs : List Sl} (h : Wk as bs) : Wk (a :: as) (.un :: bs) := ⟨.inl rfl, h⟩
theorem wk_uns : ∀ {as : List Sl} {n : Nat}, as.length = n → Wk as (List.replicate n .un)
  | [], _, h => by subst h; trivial
  | a :: as, _, h => by subst h; exact ⟨.inl rfl, wk_uns rfl⟩
/-- partial values within a branch -/
theorem ev_pure {α : Type} {em : α → Dt} {v : α} (h : Ev K te es (em v)) : ∀ y, some v = some y → Ev K te es (em y) := fun y e => by cases e; exact h
theorem ev_bnd {α β : Type} {em : β → Dt} {m1 : Option α} {k : α → Option β} (h : ∀ x, m1 = some x → ∀ y, k x = some y → Ev K te es (em y)) : ∀ y, m1.bind k = some y → Ev K te es (em y) := fun y e => by
  cases q : m1 with
  | none => rw [q] at e; cases e
  | some x => rw [q] at e; exact h x q y e
theorem et_pure {v : Bool} (h : EvT K tt es v) : ∀ y, some v = some y → EvT K tt es y := fun y e => by cases e; exact h
theorem et_bnd {α : Type} {m1 : Option α} {k : α → Option Bool} (h : ∀ x, m1 = some x → ∀ y, k x = some y → EvT K tt es y) : ∀ y, m1.bind k = some y → EvT K tt es y := fun y e => by
  cases q : m1 with
  | none => rw [q] at e; cases e
  | some x => rw [q] at e; exact h x q y e
theorem eb_pure {v : Bool} (h : Ev K te es (.bl v)) : ∀ y, some v = some y → Ev K te es (.bl y) := fun y e => by cases e; exact h
theorem eb_bnd {α : Type} {m1 : Option α} {k : α → Option Bool} (h : ∀ x, m1 = some x → ∀ y, k x = some y → Ev K te es (.bl y)) : ∀ y, m1.bind k = some y → Ev K te es (.bl y) := fun y e => by
  cases q : m1 with
  | none => rw [q] at e; cases e
  | some x => rw [q] at e; exact h x q y e
theorem rngC_of {lo hi : Int} (h : -(2 ^ 62) ≤ lo ∧ lo < 2 ^ 62 ∧ -(2 ^ 62) ≤ hi ∧ hi < 2 ^ 62) : rngC lo hi = some (rng lo hi) := if_pos h

/-! ### comprehensions, by their kinds -/
def mapO {α β : Type} : List α → (α → Option β) → Option (List β)
  | [], _ => some []
  | x :: xs, f => (f x).bind fun y => (mapO xs f).bind fun ys => some (y :: ys)
def mapC {α β : Type} (xs : List α) (f : α → Option β) : Option (List β) := if xs.length ≤ 1000000 then mapO xs f else none
def mapP {α β : Type} (xs : List α) (f : α → β) : Option (List β) := if xs.length ≤ 1000000 then some (xs.map f) else none
def filC {α β : Type} (xs : List α) (f : α → Option (Option β)) : Option (List β) := if xs.length ≤ 1000000 then compO xs f else none
theorem compO_mapO {α β : Type} {f : α → Option β} : ∀ {xs : List α}, compO xs (fun x => (f x).bind fun y => some (some y)) = mapO xs f
  | [] => rfl
  | x :: xs => by
    show ((f x).bind _).bind _ = (f x).bind _
    cases f x with
    | none => rfl
    | some y =>
      show (compO xs _).bind _ = (mapO xs f).bind _
      rw [compO_mapO]
      rfl
theorem mapO_map {α β : Type} {f : α → β} : ∀ {xs : List α}, mapO xs (fun x => some (f x)) = some (xs.map f)
  | [] => rfl
  | x :: xs => by
    show (mapO xs _).bind _ = _
    rw [mapO_map]
    rfl
theorem et_yes : EvT K tYes es true := fun F G H σ s Q q => q G H s (Same.refl _)
section
variable {α β : Type} {wi : TI} {g : TG} {vs : List Nat} {xs : List α} {em : α → Dt} {em2 : β → Dt} {ys : List β} {en2 : α → List Sl}
theorem el_map {f : α → Option β} (hi : EvI K wi es (xs.map em)) (hg : ∀ x, EvG K g vs (wipeS es vs) (em x) (en2 x)) (hb : ∀ x, ∀ y, f x = some y → Ev K te (en2 x) (em2 y)) (hd : es.all (fun t => !t.isOwn) = true) (h : mapC xs f = some ys) :
    EvL K (tLc wi g tYes te vs) es (ys.map em2) := by
  unfold mapC at h
  by_cases hz : xs.length ≤ 1000000
  · rw [if_pos hz] at h
    refine el_comp (f := fun x => (f x).bind fun y => some (some y)) hi hz hg (fun x o _ e => ?_) hd (compO_mapO.trans h)
    cases q : f x with
    | none => rw [q] at e; cases e
    | some y =>
      rw [q] at e
      cases e
      exact ⟨et_yes, fun z e => by cases e; exact hb x y q⟩
  · rw [if_neg hz] at h
    cases h
theorem el_mapP {f : α → β} (hi : EvI K wi es (xs.map em)) (hg : ∀ x, EvG K g vs (wipeS es vs) (em x) (en2 x)) (hb : ∀ x, Ev K te (en2 x) (em2 (f x))) (hd : es.all (fun t => !t.isOwn) = true) (h : mapP xs f = some ys) :
    EvL K (tLc wi g tYes te vs) es (ys.map em2) := by
  unfold mapP at h
  by_cases hz : xs.length ≤ 1000000
  · rw [if_pos hz] at h
    exact el_map (f := fun x => some (f x)) hi hg (fun x y e => by cases e; exact hb x) hd (by unfold mapC; rw [if_pos hz, mapO_map]; exact h)
  · rw [if_neg hz] at h
    cases h
theorem cb_if {c : Bool} {m : Option β} (hc : EvT K tt es c) (hb : c = true → ∀ y, m = some y → Ev K te es (em2 y)) : ∀ o, (if c = true then m.bind fun y => some (some y) else some none) = some o → EvT K tt es o.isSome ∧ ∀ y, o = some y → Ev K te es (em2 y) := fun o e => by
  cases c with
  | false =>
    have e : none = o := Option.some.inj e
    subst e
    exact ⟨hc, fun y h => nomatch h⟩
  | true =>
    cases q : m with
    | none => rw [q] at e; cases e
    | some y =>
      rw [q] at e
      have e : some y = o := Option.some.inj e
      subst e
      exact ⟨hc, fun z h => by cases h; exact hb rfl y q⟩
theorem el_fil {tt : TT} {f : α → Option (Option β)} (hi : EvI K wi es (xs.map em)) (hg : ∀ x, EvG K g vs (wipeS es vs) (em x) (en2 x)) (hb : ∀ x, ∀ o, f x = some o → EvT K tt (en2 x) o.isSome ∧ ∀ y, o = some y → Ev K te (en2 x) (em2 y)) (hd : es.all (fun t => !t.isOwn) = true) (h : filC xs f = some ys) :
    EvL K (tLc wi g tt te vs) es (ys.map em2) := by
  unfold filC at h
  by_cases hz : xs.length ≤ 1000000
  · rw [if_pos hz] at h
    exact el_comp hi hz hg (fun x o _ e => hb x o e) hd h
  · rw [if_neg hz] at h
    cases h
end

/-! a comprehension over items that are known one by one -/
def AllEv (K : PySem.W.Frag) (te : TE) {α : Type} (en2 : α → List Sl) : List α → List Dt → Prop
  | [], [] => True
  | x :: xs, d :: ds => Ev K te (en2 x) d ∧ AllEv K te en2 xs ds
  | _, _ => False
theorem ae_n {α : Type} {en2 : α → List Sl} : AllEv K te en2 [] [] := trivial
theorem ae_c {α : Type} {en2 : α → List Sl} {x : α} {xs : List α} {d : Dt} {ds : List Dt} (h : Ev K te (en2 x) d) (r : AllEv K te en2 xs ds) : AllEv K te en2 (x :: xs) (d :: ds) := ⟨h, r⟩
theorem AllEv.len {α : Type} {en2 : α → List Sl} : ∀ {xs : List α} {ds : List Dt}, AllEv K te en2 xs ds → xs.length = ds.length
  | [], [], _ => rfl
  | _ :: _, _ :: _, h => congrArg (· + 1) (AllEv.len h.2)
  | [], _ :: _, h => h.elim
  | _ :: _, [], h => h.elim
theorem AllEv.get {α : Type} {en2 : α → List Sl} : ∀ {xs : List α} {ds : List Dt} {i : Nat} {x : α} {d : Dt}, AllEv K te en2 xs ds → xs[i]? = some x → ds[i]? = some d → Ev K te (en2 x) d
  | [], [], _, _, _, _, e, _ => by simp at e
  | x :: xs, d :: ds, 0, _, _, h, e, e' => by simp at e e'; subst e e'; exact h.1
  | x :: xs, d :: ds, i + 1, _, _, h, e, e' => AllEv.get (i := i) h.2 (by simpa using e) (by simpa using e')
  | [], _ :: _, _, _, _, h, _, _ => h.elim
  | _ :: _, [], _, _, _, h, _, _ => h.elim
theorem el_fix {α : Type} {wi : TI} {g : TG} {vs : List Nat} {xs : List α} {em : α → Dt} {ds : List Dt} {en2 : α → List Sl} (hi : EvI K wi es (xs.map em)) (hz : xs.length ≤ 1000000) (hg : ∀ x, EvG K g vs (wipeS es vs) (em x) (en2 x))
    (hb : AllEv K te en2 xs ds) (hd : es.all (fun t => !t.isOwn) = true) : EvL K (tLc wi g tYes te vs) es ds := fun F G H σ st Q q => by
  refine hi F G H σ st _ fun J G1 H1 s1 g1 y => fun Dl hD => ?_
  have hF : F Dl = none := s1.fnone hD
  have sz : (1000000 : Nat) < sizeLine := by decide
  have hlen := hb.len
  refine ⟨fun i m H' => ∃ (G' : Hp) (acc : List V), Stt K (upd F Dl (.lst acc)) G' H' σ es ∧ Same G1 G' ∧ Reps K G' acc (ds.take i) ∧ m = xs.length - i ∧ i ≤ xs.length,
    ⟨_, G1, [], s1.prot hD, Same.refl _, .nil, rfl, Nat.zero_le _⟩, ?_⟩
  rintro i m H' ⟨G', acc, st', g', racc, rfl, hle⟩
  by_cases hlt : i < xs.length
  · refine .inr ?_
    have hld : i < ds.length := by omega
    obtain ⟨go, yld⟩ := (y i _ G' H' σ es g' st').1 (em xs[i]) (by rw [List.getElem?_map, List.getElem?_eq_getElem hlt]; rfl)
    refine ⟨go, fun H2 => ∃ (G2 : Hp) (acc2 : List V), Stt K (upd F Dl (.lst acc2)) G2 H2 σ es ∧ Same G1 G2 ∧ Reps K G2 acc2 (ds.take (i + 1)),
      fun H2 ⟨G2, acc2, a1, a2, a3⟩ => ⟨xs.length - (i + 1), by omega, G2, acc2, a1, a2, a3, rfl, by omega⟩, fun x H2 hy => ?_⟩
    obtain ⟨G2, st2, g2, rx⟩ := yld x H2 hy
    have hte : Ev K te (en2 xs[i]) ds[i] := hb.get (List.getElem?_eq_getElem hlt) (List.getElem?_eq_getElem hld)
    refine hg xs[i] (upd F Dl (.lst acc)) G2 H2 (L2.wipe σ vs) x (st2.wipe vs) rx _ fun σ3 G3 H3 st3 g3 l3 k3 => ?_
    refine ⟨by rw [wipe_ext (σ := L2.wipe σ vs) l3 k3]; exact wipe_ext (wipe_length _ _) fun k hk => wipe_get hk, ?_⟩
    show te σ3 H3 _
    refine hte _ G3 H3 σ3 st3 _ fun v G5 H5 st5 g5 r5 => ?_
    have hzl2 : acc.length = i := by
      have := racc.length
      rw [List.length_take] at this
      omega
    refine ⟨acc, st5.f Dl _ upd_same, ?_, G5, acc ++ [v], (st2.swap hd st5 (g3.trans g5)).reprot, g'.trans (g2.trans (g3.trans g5)), ?_⟩
    · omega
    · rw [List.take_add_one, List.getElem?_eq_getElem hld]
      exact (racc.mono (g2.trans (g3.trans g5))).append (.cons r5 .nil)
  · have e3 : i = xs.length := by omega
    subst e3
    refine .inl ⟨(y xs.length _ G' H' σ es g' st').2 (by simp), ?_⟩
    rw [hlen, List.take_length] at racc
    exact q Dl acc G' H' st' hF (g1.trans g') racc
theorem ev_ixNG {tb : TE} {ds : List Dt} {i : Int} (n : Nat) (hi : i = (n : Int)) (h : ds[n]? = some d) (ha : Ev K ta es (.tup ds)) (hb : Ev K tb es (.int i)) : Ev K (tOp (rIxT K) ta tb) es d := by
  refine ev_ixT ha hb ?_
  have hlt : n < ds.length := (List.getElem?_eq_some_iff.mp h).1
  unfold atI ixN
  subst hi
  rw [if_pos (by omega), if_pos (by omega)]
  exact h
theorem ev_ixLG {tb : TE} {ds : List Dt} {i : Int} (n : Nat) (hi : i = (n : Int)) (h : ds[n]? = some d) (ha : Ev K ta es (.lst ds)) (hb : Ev K tb es (.int i)) : Ev K (tOp (rIxL K) ta tb) es d := by
  refine ev_ixL ha hb ?_
  have hlt : n < ds.length := (List.getElem?_eq_some_iff.mp h).1
  unfold atI ixN
  subst hi
  rw [if_pos (by omega), if_pos (by omega)]
  exact h
/-! ### == of data -/
mutual
def pd : Dt → PyData
  | .non => .none | .bl b => .bool b | .int i => .int i | .str s => .str s | .ty _ => .none
  | .tup xs => .tuple (pds xs) | .lst xs => .list (pds xs) | .obj _ _ => .none
def pds : List Dt → List PyData
  | [] => []
  | x :: xs => pd x :: pds xs
end
mutual
inductive SH : Nat → Dt → Prop
  | non {n : Nat} : SH n .non
  | bl {n : Nat} {b : Bool} : SH n (.bl b)
  | int {n : Nat} {i : Int} : SH n (.int i)
  | str {n : Nat} {s : Str} (h : PyData.canLay0 (.str s) = true) : SH n (.str s)
  | tup {n : Nat} {xs : List Dt} (h : SHs n xs) : SH (n + 1) (.tup xs)
  | lst {n : Nat} {xs : List Dt} (h : SHs n xs) : SH (n + 1) (.lst xs)
inductive SHs : Nat → List Dt → Prop
  | nil {n : Nat} : SHs n []
  | cons {n : Nat} {x : Dt} {xs : List Dt} (h : SH n x) (r : SHs n xs) : SHs n (x :: xs)
end
theorem shI {n : Nat} {i : Int} : SH n (.int i) := .int
theorem shB {n : Nat} {i : Bool} : SH n (.bl i) := .bl
theorem shN {n : Nat} : SH n .non := .non
theorem shT {n : Nat} {xs : List Dt} (h : SHs n xs) : SH (n + 1) (.tup xs) := .tup h
theorem shs_nil {n : Nat} : SHs n [] := .nil
theorem shs_cons {n : Nat} {x : Dt} {xs : List Dt} (h : SH n x) (r : SHs n xs) : SHs n (x :: xs) := .cons h r
theorem shs_map {α : Type} {n : Nat} {e : α → Dt} : ∀ {xs : List α}, (∀ x, SH n (e x)) → SHs n (xs.map e)
  | [], _ => .nil
  | x :: xs, h => .cons (h x) (shs_map h)
theorem shV {α : Type} {n : Nat} {e : α → Dt} {xs : List α} (h : ∀ x, SH n (e x)) : SH (n + 1) (.tup (xs.map e)) := .tup (shs_map h)
theorem shL {α : Type} {n : Nat} {e : α → Dt} {xs : List α} (h : ∀ x, SH n (e x)) : SH (n + 1) (.lst (xs.map e)) := .lst (shs_map h)
theorem shO {α : Type} {n : Nat} {e : α → Dt} {x : Option α} (h : ∀ x, SH n (e x)) : SH n (dO e x) := by
  cases x with
  | none => exact .non
  | some x => exact h x
mutual
theorem SH.lay : ∀ {n : Nat} {d : Dt}, SH n d → (pd d).canLay0 = true ∧ (pd d).depth ≤ n
  | _, _, .non => ⟨by simp [pd, PyData.canLay0], by simp [pd, PyData.depth]⟩
  | _, _, .bl => ⟨by simp [pd, PyData.canLay0], by simp [pd, PyData.depth]⟩
  | _, _, .int => ⟨by simp [pd, PyData.canLay0], by simp [pd, PyData.depth]⟩
  | _, _, .str h => ⟨by simpa [pd] using h, by simp [pd, PyData.depth]⟩
  | _, _, .tup h => by
    obtain ⟨a, b⟩ := SHs.lay h
    exact ⟨by simpa [pd, PyData.canLay0] using a, by simp [pd, PyData.depth]; exact b⟩
  | _, _, .lst h => by
    obtain ⟨a, b⟩ := SHs.lay h
    exact ⟨by simpa [pd, PyData.canLay0] using a, by simp [pd, PyData.depth]; exact b⟩
theorem SHs.lay : ∀ {n : Nat} {ds : List Dt}, SHs n ds → PyData.canLayAll0 (pds ds) = true ∧ PyData.depthAll (pds ds) ≤ n
  | _, _, .nil => ⟨by simp [pds, PyData.canLayAll0], by simp [pds, PyData.depthAll]⟩
  | _, _, .cons h r => by
    obtain ⟨a, b⟩ := SH.lay h
    obtain ⟨c, d⟩ := SHs.lay r
    exact ⟨by simp [pds, PyData.canLayAll0, a, c], by simp [pds, PyData.depthAll]; omega⟩
end
mutual
theorem SH.dp {G H : Hp} (g : Same G H) : ∀ {n : Nat} {d : Dt} {v : V}, SH n d → Rep K G v d → Dp K H v (pd d)
  | _, _, _, .non, .non => by simp only [pd]; exact .non
  | _, _, _, .bl, .bl b => by simp only [pd]; exact .bl b
  | _, _, _, .int, .int i => by simp only [pd]; exact .int i
  | _, _, _, .str _, .str s => by simp only [pd]; exact .str s
  | _, _, _, .tup h, .tup hs r => by simp only [pd]; exact .tup (sqT_mono g hs) (SHs.dp g h r)
  | _, _, _, .lst h, .lst hs r => by simp only [pd]; exact .lst (g.seq hs) (SHs.dp g h r)
theorem SHs.dp {G H : Hp} (g : Same G H) : ∀ {n : Nat} {ds : List Dt} {vs : List V}, SHs n ds → Reps K G vs ds → DpAll K H vs (pds ds)
  | _, _, _, .nil, .nil => by simp only [pds]; exact .nil
  | _, _, _, .cons h r, .cons a b => by simp only [pds]; exact .cons (SH.dp g h a) (SHs.dp g r b)
end
def eqD (a b : Dt) : Bool := PyData.eqv (pd a) (pd b)
theorem shaped_of {d : Dt} (h : SH 64 d) : SeqAt.shaped (pd d) = true := by
  obtain ⟨a, b⟩ := h.lay
  unfold SeqAt.shaped
  rw [a, decide_eq_true b]
  rfl
theorem ev_eqD {a b : Dt} (sa : SH 64 a) (sb : SH 64 b) (ha : Ev K ta es a) (hb : Ev K tb es b) : Ev K (tOp (rEqD K) ta tb) es (.bl (eqD a b)) := ev_op ha hb fun F G H σ es x y s rx ry Q q =>
  ⟨pd a, pd b, sa.dp s.g rx, sb.dp s.g ry, shaped_of sa, shaped_of sb, q _ G H s (Same.refl _) (.bl _)⟩
theorem ev_neD {a b : Dt} (sa : SH 64 a) (sb : SH 64 b) (ha : Ev K ta es a) (hb : Ev K tb es b) : Ev K (tOp (rNeD K) ta tb) es (.bl (!eqD a b)) := ev_op ha hb fun F G H σ es x y s rx ry Q q =>
  ⟨pd a, pd b, sa.dp s.g rx, sb.dp s.g ry, shaped_of sa, shaped_of sb, q _ G H s (Same.refl _) (.bl _)⟩
theorem ev_lenVN {ds : List Dt} (n : Int) (ha : Ev K ta es (.tup ds)) (h : (ds.length : Int) = n) : Ev K (tCB (rLenS K) (tCons ta tNil)) es (.int n) := h ▸ ev_lenV ha
theorem ev_lenLN {ds : List Dt} (n : Int) (ha : Ev K ta es (.lst ds)) (h : (ds.length : Int) = n) : Ev K (tCB (rLenS K) (tCons ta tNil)) es (.int n) := h ▸ ev_lenL ha
theorem ev_some {α : Type} {em : α → Dt} {o : Option α} {x : α} (h : o = some x) (ha : Ev K te es (dO em o)) : Ev K te es (em x) := by
  subst h
  exact ha
def rIsB1 : R2 := fun x y H Q => ∃ a b : Bool, x = .bl a ∧ y = .bl b ∧ Q (.bl (decide (a = b))) H
def rNotB1 : R2 := fun x y H Q => ∃ a b : Bool, x = .bl a ∧ y = .bl b ∧ Q (.bl (!decide (a = b))) H
theorem op_isB1 {X : Cx} : OpR X (compareOp .Is) rIsB1 := op_isBl
theorem op_nisB1 {X : Cx} : OpR X (compareOp .IsNot) rNotB1 := op_notBl
theorem ev_isB {a b : Bool} (ha : Ev K ta es (.bl a)) (hb : Ev K tb es (.bl b)) : Ev K (tOp rIsB1 ta tb) es (.bl (decide (a = b))) := ev_op ha hb fun F G H σ es x y s rx ry Q q => by
  cases rx
  cases ry
  exact ⟨a, b, rfl, rfl, q _ G H s (Same.refl _) (.bl _)⟩
theorem ev_nisB {a b : Bool} (ha : Ev K ta es (.bl a)) (hb : Ev K tb es (.bl b)) : Ev K (tOp rNotB1 ta tb) es (.bl (!decide (a = b))) := ev_op ha hb fun F G H σ es x y s rx ry Q q => by
  cases rx
  cases ry
  exact ⟨a, b, rfl, rfl, q _ G H s (Same.refl _) (.bl _)⟩
theorem kit_self (K : PySem.W.Frag) (t : Value) : PySem.W.kitOne K t t = some true := if_pos (beq_iff_eq.mpr rfl)
/-- isinstance of an instance of an own class against that class -/
theorem ev_isiC {C : Addr} {fs : List (Str × Dt)} (cl : Cls K C) (h1 : PySem.W.findIn K (.ref C) "__class__" = some (some (.builtin "object.__class__"))) (h2 : PySem.W.specialIn K (.builtin "object.__class__") "__get__" = some (some (.builtin "getset_descriptor.__get__")))
    (h3 : PySem.W.takesIn K (.builtin "object.__class__") = some true) (h4 : PySem.W.mroIn K C (.type "object") = some true) (ha : Ev K ta es (.obj C fs)) : Ev K (tCB (rIsi K) (tCons ta (tCons (tC (.ref C)) tNil))) es (.bl true) := fun F G H σ s Q q =>
  ha F G H σ s _ fun x G1 H1 s1 g1 r1 => by
    cases r1 with
    | obj h r => exact ⟨_, _, _, _, true, rfl, .own C, .base (.ins (s1.g _ _ h) cl h1 h2 h3 h4), kit_self K (.ref C), q _ G1 H1 s1 g1 (.bl _)⟩
/-! is None -/
def isNon : Dt → Bool
  | .non => true
  | _ => false
theorem rep_non {G : Hp} {x : V} {d : Dt} (r : Rep K G x d) : decide (x = V.non) = isNon d := by
  cases r <;> simp [isNon]
theorem ev_isN (ha : Ev K ta es .non) : Ev K (tOp rIsN ta (tC .non)) es (.bl true) := fun F G H σ s Q q => ha F G H σ s _ fun x G1 H1 s1 g1 r1 => by
  cases r1
  exact ⟨rfl, q _ G1 H1 s1 g1 (.bl _)⟩
theorem ev_isG {b : Bool} (ha : Ev K ta es d) (hb : isNon d = b) : Ev K (tOp rIsN ta (tC .non)) es (.bl b) := fun F G H σ s Q q => ha F G H σ s _ fun x G1 H1 s1 g1 r1 => by
  refine ⟨rfl, ?_⟩
  rw [rep_non r1, hb]
  exact q _ G1 H1 s1 g1 (.bl _)
theorem ev_nisG {b : Bool} (ha : Ev K ta es d) (hb : isNon d = b) : Ev K (tOp rNotN ta (tC .non)) es (.bl (!b)) := fun F G H σ s Q q => ha F G H σ s _ fun x G1 H1 s1 g1 r1 => by
  refine ⟨rfl, ?_⟩
  rw [rep_non r1, hb]
  exact q _ G1 H1 s1 g1 (.bl _)
theorem isO {α : Type} {em : α → Dt} (h : ∀ x, em x = .non → False) (o : Option α) : isNon (dO em o) = o.isNone := by
  cases o with
  | none => rfl
  | some x =>
    show isNon (em x) = false
    cases q : em x with
    | non => exact (h x q).elim
    | _ => rfl
theorem ev_isO {α : Type} {em : α → Dt} {o : Option α} (h : ∀ x, em x = .non → False) (ha : Ev K ta es (dO em o)) : Ev K (tOp rIsN ta (tC .non)) es (.bl o.isNone) := ev_isG ha (isO h o)
theorem ev_nisO {α : Type} {em : α → Dt} {o : Option α} (h : ∀ x, em x = .non → False) (ha : Ev K ta es (dO em o)) : Ev K (tOp rNotN ta (tC .non)) es (.bl (!o.isNone)) := ev_nisG ha (isO h o)
theorem ev_isD (h : d = .non → False) (ha : Ev K ta es d) : Ev K (tOp rIsN ta (tC .non)) es (.bl false) := ev_isG ha (by cases d <;> first | rfl | exact (h rfl).elim)
theorem ev_nisD (h : d = .non → False) (ha : Ev K ta es d) : Ev K (tOp rNotN ta (tC .non)) es (.bl (!false)) := ev_nisG ha (by cases d <;> first | rfl | exact (h rfl).elim)
/-! in -/
theorem reps_int {G : Hp} {vs : List V} {xs : List Int} (r : Reps K G vs (xs.map Dt.int)) : vs = xs.map V.int := ints_of r
theorem inV_int {i : Int} : ∀ {xs : List Int}, inV (.int i) (xs.map V.int) = decide (i ∈ xs)
  | [] => rfl
  | x :: xs => by
    have ih := inV_int (i := i) (xs := xs)
    unfold inV at ih ⊢
    rw [List.map_cons, List.any_cons, ih]
    show (x == i || decide (i ∈ xs)) = decide (i ∈ x :: xs)
    rw [Bool.eq_iff_iff, Bool.or_eq_true, beq_iff_eq, decide_eq_true_eq, decide_eq_true_eq, List.mem_cons]
    exact ⟨fun h => h.imp Eq.symm (fun x => x), fun h => h.imp Eq.symm (fun x => x)⟩
theorem all_int : ∀ {xs : List Int}, (xs.map V.int).all flatV = true
  | [] => rfl
  | x :: xs => by
    rw [List.map_cons, List.all_cons, all_int]
    rfl
theorem ev_inTI {i : Int} {xs : List Int} (ha : Ev K ta es (.int i)) (hb : Ev K tb es (.tup (xs.map Dt.int))) : Ev K (tOp (rIn K false) ta tb) es (.bl (decide (i ∈ xs))) := ev_op ha hb fun F G H σ es x y s rx ry Q q => by
  cases rx
  cases ry with
  | tup h r =>
    obtain rfl := ints_of r
    refine ⟨_, _, rfl, .inr (sqT_mono s.g h), rfl, all_int, ?_⟩
    show Q (.bl (inV (.int i) (xs.map V.int))) H
    rw [inV_int]
    exact q _ G H s (Same.refl _) (.bl _)
theorem ev_ninTI {i : Int} {xs : List Int} (ha : Ev K ta es (.int i)) (hb : Ev K tb es (.tup (xs.map Dt.int))) : Ev K (tOp (rIn K true) ta tb) es (.bl (!decide (i ∈ xs))) := ev_op ha hb fun F G H σ es x y s rx ry Q q => by
  cases rx
  cases ry with
  | tup h r =>
    obtain rfl := ints_of r
    refine ⟨_, _, rfl, .inr (sqT_mono s.g h), rfl, all_int, ?_⟩
    show Q (.bl (!inV (.int i) (xs.map V.int))) H
    rw [inV_int]
    exact q _ G H s (Same.refl _) (.bl _)
theorem ev_inLI {i : Int} {xs : List Int} (ha : Ev K ta es (.int i)) (hb : Ev K tb es (.lst (xs.map Dt.int))) : Ev K (tOp (rIn K false) ta tb) es (.bl (decide (i ∈ xs))) := ev_op ha hb fun F G H σ es x y s rx ry Q q => by
  cases rx
  cases ry with
  | lst h r =>
    obtain rfl := ints_of r
    refine ⟨_, _, rfl, .inl (s.g.seq h), rfl, all_int, ?_⟩
    show Q (.bl (inV (.int i) (xs.map V.int))) H
    rw [inV_int]
    exact q _ G H s (Same.refl _) (.bl _)
theorem ev_ninLI {i : Int} {xs : List Int} (ha : Ev K ta es (.int i)) (hb : Ev K tb es (.lst (xs.map Dt.int))) : Ev K (tOp (rIn K true) ta tb) es (.bl (!decide (i ∈ xs))) := ev_op ha hb fun F G H σ es x y s rx ry Q q => by
  cases rx
  cases ry with
  | lst h r =>
    obtain rfl := ints_of r
    refine ⟨_, _, rfl, .inl (s.g.seq h), rfl, all_int, ?_⟩
    show Q (.bl (!inV (.int i) (xs.map V.int))) H
    rw [inV_int]
    exact q _ G H s (Same.refl _) (.bl _)
end
/-! ### the law's own promise -/
theorem reps_ofInts {K : PySem.W.Frag} {G : Hp} : ∀ (ns : List Int), Reps K G (ns.map V.int) (ns.map Dt.int)
  | [] => .nil
  | n :: ns => .cons (.int n) (reps_ofInts ns)
theorem law_sp {K : PySem.W.Frag} {f : List Int → Option Bool} {ns : List Int} {a : Addr} {H : Hp} (h : f ns = some true) (hS : SqL K H a (ns.map V.int)) :
    FSpec K (RD fun ds d => ∃ (ns : List Int) (r : Bool), ds = [.lst (ns.map Dt.int)] ∧ f ns = some r ∧ d = .bl r) [.ref a] H (fun v _ => v = .bl true) fun _ _ _ => False :=
  ⟨fun _ => none, H, [.d (.lst (ns.map Dt.int))], .bl true, [.d (.lst (ns.map Dt.int))], stt_data (vs := [.ref a]) (ds := [.lst (ns.map Dt.int)]) (fun _ _ e => nomatch e) (Same.refl _) (fun _ _ e => nomatch e) (.cons (.lst hS (reps_ofInts ns)) .nil),
    ⟨_, rfl, rfl, ns, true, rfl, h, rfl⟩, fun v G' H' _ _ r => by cases r; rfl⟩
end DL

/-! Dl7: list + list, pieces of lists and tuples. -/
namespace L2
open PySem PySem.Spec PyProof.Rows
section
variable {X : Cx}
def rCatG (K : PySem.W.Frag) : R2 := fun x y H Q => ∃ a b xs ys, x = .ref a ∧ y = .ref b ∧ SqL K H a xs ∧ SqL K H b ys ∧ xs.length + ys.length ≤ sizeLine ∧ ∀ p, H p = none → Q (.ref p) (upd H p (.lst (xs ++ ys)))
theorem op_catG : OpR X (binaryOp .Add) (rCatG X.K) := by
  intro pins s σ H x y v u Q I rx ry h
  obtain ⟨a, b, xs, ys, rfl, rfl, ha, hb, hz, q⟩ := h
  cases rx
  cases ry
  obtain ⟨its, r, ht, h1⟩ := I.list ha
  obtain ⟨its2, r2, ht2, h2⟩ := I.list hb
  obtain ⟨⟨cls, dd, data, sl⟩, ho, hc, n, hd⟩ := ht.isList
  obtain ⟨⟨cls2, dd2, data2, sl2⟩, ho2, hc2, n2, hd2⟩ := ht2.isList
  simp only at hc hd hc2 hd2
  subst hc hd hc2 hd2
  have l1 := r.length
  have l2 := r2.length
  refine concat_meets ⟨_, ho, rfl⟩ ⟨_, ho2, rfl⟩ noFill_list_add seq_list_add PySem.F.slot_list_add PySem.F.entry_list_add (PySem.F.args_list_add_2 _ _) (list_addW a b its.toArray its2.toArray n n2 dd dd2 sl sl2 (by rw [List.size_toArray, List.size_toArray]; omega)) ⟨ho, ho2, ?_⟩
  have ea : its.toArray ++ its2.toArray = (its ++ its2).toArray := by simp
  rw [ea]
  exact ⟨.ref _, _, I.lnew (t' := s.toks) (r.append r2) (by rw [List.length_append]; omega), rfl, q _ I.fresh⟩
end
end L2
namespace DL
open PySem L2
section
variable {K : PySem.W.Frag} {es : List Sl} {ta tb te : TE} {d : Dt}
theorem el_catD {d1 d2 : List Dt} (ha : Ev K ta es (.lst d1)) (hb : Ev K tb es (.lst d2)) (hz : d1.length + d2.length ≤ 10000000) : EvL K (tOp (rCatG K) ta tb) es (d1 ++ d2) := fun F G H σ s Q q =>
  ha F G H σ s _ fun x G1 H1 s1 g1 r1 => hb F G1 H1 σ s1 _ fun y G2 H2 s2 g2 r2 => by
    cases r1 with
    | lst h1 q1 =>
      cases r2 with
      | lst h2 q2 =>
        refine ⟨_, _, _, _, rfl, rfl, s2.g.seq (g2.seq h1), s2.g.seq h2, ?_, fun p hp => q p _ G2 _ (s2.prot hp) (s2.fnone hp) (g1.trans g2) ((q1.mono g2).append q2)⟩
        rw [q1.length, q2.length]
        exact Nat.le_trans hz (by decide)
def catC {α : Type} (xs ys : List α) : Option (List α) := if xs.length + ys.length ≤ 10000000 then some (xs ++ ys) else none
theorem el_cat {α : Type} {em : α → Dt} {xs ys zs : List α} (ha : Ev K ta es (.lst (xs.map em))) (hb : Ev K tb es (.lst (ys.map em))) (h : catC xs ys = some zs) : EvL K (tOp (rCatG K) ta tb) es (zs.map em) := by
  unfold catC at h
  split at h
  · rename_i hz
    cases h
    rw [List.map_append]
    exact el_catD ha hb (by rw [List.length_map, List.length_map]; exact hz)
  · cases h
/-! pieces -/
def cutL {α : Type} (xs : List α) (lo hi : Option Int) : List α := (xs.drop (HT.sIx xs.length 0 lo)).take (HT.sIx xs.length xs.length hi - HT.sIx xs.length 0 lo)
theorem cutL_map {α β : Type} (f : α → β) (xs : List α) (lo hi : Option Int) : cutL (xs.map f) lo hi = (cutL xs lo hi).map f := by
  unfold cutL
  rw [List.length_map, List.map_take, List.map_drop]
theorem eo_none : EvO K tNoPart es none := fun F G H σ s Q q => q G H s (Same.refl _)
theorem eo_some {i : Int} (h : Ev K te es (.int i)) : EvO K (tPart te) es (some i) := fun F G H σ s Q q => h F G H σ s _ fun x G1 H1 s1 g1 r1 => by
  cases r1
  exact ⟨i, rfl, q G1 H1 s1 g1⟩
theorem el_cutD {tl th : TO} {lo hi : Option Int} {ds : List Dt} (ha : Ev K te es (.lst ds)) (hl : EvO K tl es lo) (hh : EvO K th es hi) : EvL K (tSl (rSlL K) te tl th) es (cutL ds lo hi) := fun F G H σ s Q q =>
  ha F G H σ s _ fun x G1 H1 s1 g1 r1 => hl F G1 H1 σ s1 _ fun G2 H2 s2 g2 => hh F G2 H2 σ s2 _ fun G3 H3 s3 g3 => by
    cases r1 with
    | lst h r =>
      refine ⟨_, _, rfl, s3.g.seq (g3.seq (g2.seq h)), fun p hp => q p _ G3 _ (s3.prot hp) (s3.fnone hp) (g1.trans (g2.trans g3)) ?_⟩
      have r := (r.mono g2).mono g3
      unfold cutV cutL
      rw [r.length]
      exact (r.drop _).take _
theorem el_cut {α : Type} {em : α → Dt} {tl th : TO} {lo hi : Option Int} {xs : List α} (ha : Ev K te es (.lst (xs.map em))) (hl : EvO K tl es lo) (hh : EvO K th es hi) : EvL K (tSl (rSlL K) te tl th) es ((cutL xs lo hi).map em) := by
  rw [← cutL_map]
  exact el_cutD ha hl hh
end
open PySem PySem.Spec PyProof.Rows in
/-- a field, the part of the program named -/
theorem pe_fldK {X : Cx} {K : PySem.W.Frag} (f : Str) {e : Expr} {ta : TE} {pos : Pos} (he : PE X e ta) (hK : X.K = K) (hb : attributeBase e f X.env (eval e X.env) = eval e X.env) : PE X (.Attribute e f pos) (tFld K ta f) := by
  subst hK
  exact pe_fld he hb
end DL

/-! Dl8: defs with defaults, calls with keywords. -/
namespace DL
open PySem L2
section
variable {P : Program} {w : World} {K : PySem.W.Frag} {mg : Str → Option Value} {base : Heap}
theorem fn_DD {x qual : Str} {st : Stmt} {f : Addr} {fd : FuncData} {N ps : List Str} {k : Nat} {R : List Dt → Dt → Prop} {dvs : List V} {kws : List (Str × V)} (F : FunD K x qual (defArgs st) (defBody st) (defScope st) dvs kws f fd) (S : FnScope N ps (defScope st)) (hl : ∀ ds d, R ds d → ds.length = ps.length)
    (body : ∀ (cdv : Value) (A : Around) (outer : List Env) (s : Shared) (H : Hp) (E : XK), Room k (A.deeper (PyProof.Rows.envOfC qual (defScope st) s.heap.objs.size f cdv)) →
      ∃ t, PSs (cxOf CX0 P w K mg base N qual (defScope st) f cdv A outer s H E).nox (defBody st) t ∧ ∀ ds d, R ds d → ∃ o es, SEv K t (ds.map .d ++ List.replicate (N.length - ps.length) .un) o ∧ Ends2 d es o) :
    FnOk P w K mg base CX0 (k + 1) f fd ps (FSpec K (RD R)) := by
  refine F.ok S (fun vs H Q E h => ?_) (fun cdv A outer s H vs Q E hr h => ?_)
  · obtain ⟨F, G, ss, d, ss', s, ⟨ds, rfl, _, hR⟩, _⟩ := h
    have := s.len
    rw [List.length_map, List.length_map, hl ds d hR] at this
    exact this
  · obtain ⟨t, ht, hb⟩ := body cdv A outer s H E hr
    refine ⟨t, ht.nox, ?_⟩
    obtain ⟨F1, G, ss, d, ss', st1, ⟨ds, rfl, rfl, hR⟩, q⟩ := h
    obtain ⟨o, es, hs, he⟩ := hb ds d hR
    refine hs F1 G H _ _ (stt_start st1 (by rw [List.length_map, hl ds d hR])) (good_end he fun v G' H' σ' s' g r => ?_)
    have rs : Reps K G vs ds := data_of (vs := vs) (ds := ds) (K := K) (F := F1) (G := G) (H := H) (by have := st1.len; simpa using this) st1.sl
    exact q v G' H' (stt_data s'.f s'.g s'.dj (rs.mono g)) g r
theorem fn_ID {x qual : Str} {st : Stmt} {f : Addr} {fd : FuncData} {N ps : List Str} {k : Nat} {C : Addr} {R : List Dt → List (Str × Dt) → Prop} {dvs : List V} {kws : List (Str × V)} (F : FunD K x qual (defArgs st) (defBody st) (defScope st) dvs kws f fd) (S : FnScope N ps (defScope st)) (hl : ∀ ds d, R ds d → ds.length + 1 = ps.length)
    (body : ∀ (cdv : Value) (A : Around) (outer : List Env) (s : Shared) (H : Hp) (E : XK), Room k (A.deeper (PyProof.Rows.envOfC qual (defScope st) s.heap.objs.size f cdv)) →
      ∃ t, PSs (cxOf CX0 P w K mg base N qual (defScope st) f cdv A outer s H E).nox (defBody st) t ∧ ∀ p ds fs, R ds fs → ∃ o es, SEv K t (.obo (some p) C [] :: ds.map .d ++ List.replicate (N.length - ps.length) .un) o ∧ Ends2 .non (.obo (some p) C fs :: es) o) :
    FnOk P w K mg base CX0 (k + 1) f fd ps (FSpec K (RI C R)) := by
  refine F.ok S (fun vs H Q E h => ?_) (fun cdv A outer s H vs Q E hr h => ?_)
  · obtain ⟨F, G, ss, d, ss', s, ⟨p, ds, fs, rfl, _, _, hR⟩, _⟩ := h
    have := s.len
    rw [List.length_map, List.length_cons, List.length_map, hl ds fs hR] at this
    exact this
  · obtain ⟨t, ht, hb⟩ := body cdv A outer s H E hr
    refine ⟨t, ht.nox, ?_⟩
    obtain ⟨F1, G, ss, d, ss', st1, ⟨p, ds, fs, rfl, rfl, rfl, hR⟩, q⟩ := h
    obtain ⟨o, es, hs, he⟩ := hb p ds fs hR
    refine hs F1 G H _ _ (stt_start st1 (by rw [List.length_cons, List.length_map, hl ds fs hR])) (good_end he fun v G' H' σ' s' g r => ?_)
    cases vs with
    | nil =>
      have := st1.len
      simp at this
    | cons v0 vs =>
      obtain ⟨o0, ho0, p0, dx0, fv0, e0, g0, f0, h0, r0, a0⟩ := st1.sl 0 _ rfl
      cases ho0
      cases e0
      obtain rfl := a0 p rfl
      obtain ⟨o1, ho1, p1, dx1, fv1, e1, g1, f1, h1, r1, a1⟩ := s'.sl 0 _ rfl
      subst e1
      obtain rfl := a1 _ rfl
      have rs : Reps K G vs ds := data_of (vs := vs) (ds := ds) (K := K) (F := F1) (G := G) (H := H) (by have := st1.len; simpa using this) fun i t e => st1.sl (i + 1) t e
      have base := stt_data s'.f s'.g s'.dj (rs.mono g)
      refine q v G' H' ⟨base.f, base.g, base.dj, by rw [List.map_cons, List.length_cons, List.length_cons, base.len], fun i t e => ?_, fun i j t u nij ei ej hi hj => ?_⟩ g r
      · cases i with
        | zero =>
          cases e
          exact ⟨_, rfl, p, dx1, fv1, rfl, g1, f1, h1, r1, a1⟩
        | succ i => exact base.sl i t e
      · have no : ∀ (k : Nat) z, ((ds.map Sl.d))[k]? = some z → z.isOwn = true → False := fun k z e h => by
          rw [List.getElem?_map] at e
          cases q : ds[k]? with
          | none => rw [q] at e; cases e
          | some d => rw [q] at e; cases e; cases h
        cases i with
        | zero =>
          cases j with
          | zero => exact absurd rfl nij
          | succ j => exact (no j u ej hj).elim
        | succ i => exact (no i t ei hi).elim
end
section
variable {K : PySem.W.Frag} {es : List Sl} {ta tk : TA} {E : XK}
def tPermA (n m : Nat) (fV : List V → List V → List V) (t tk : TA) : TA := fun σ H Q => t σ H fun vs H1 => tk σ H1 fun zs H2 => vs.length = n ∧ zs.length = m ∧ Q (fV vs zs) H2
theorem ea_perm {n m : Nat} {fV : List V → List V → List V} {ds ks ds' : List Dt} (ha : EvA K ta es ds) (hk : EvA K tk es ks) (hn : ds.length = n) (hm : ks.length = m) (hf : ∀ G vs zs, Reps K G vs ds → Reps K G zs ks → Reps K G (fV vs zs) ds') : EvA K (tPermA n m fV ta tk) es ds' := fun F G H σ s Q q =>
  ha F G H σ s _ fun vs G1 H1 s1 g1 r1 => hk F G1 H1 σ s1 _ fun zs G2 H2 s2 g2 r2 => ⟨by rw [r1.length, hn], by rw [r2.length, hm], q _ G2 H2 s2 (g1.trans g2) (hf G2 vs zs (r1.mono g2) r2)⟩
/-- C(.., k = v, ..) -/
theorem ev_makeK {P : List Dt → List (Str × Dt) → Prop} {C : Addr} {fs : List (Str × Dt)} {n m : Nat} {fV gV : List V → List V → List V} {ds ks ds' : List Dt} (ha : EvA K ta es ds) (hk : EvA K tk es ks) (hn : ds.length = n) (hm : ks.length = m)
    (hg : ∀ x vs zs, vs.length = n → zs.length = m → gV (.ref x :: vs) zs = .ref x :: fV vs zs) (hf : ∀ G vs zs, Reps K G vs ds → Reps K G zs ks → Reps K G (fV vs zs) ds') (hP : P ds' fs) : Ev K (tMakeK C n m (FSpec K (RI C P)) gV E ta tk) es (.obj C fs) := fun F G H σ s Q q => by
  have h2 := ev_make (E := E) (ea_perm ha hk hn hm hf) hP F G H σ s Q q
  have e : tMake C (FSpec K (RI C P)) [] E (tPermA n m fV ta tk) σ H Q = tMakeK C n m (FSpec K (RI C P)) gV E ta tk σ H Q := by
    unfold tMake tMakeK tPermA
    refine congrArg (ta σ H) (funext fun vs => funext fun H1 => congrArg (tk σ H1) (funext fun zs => funext fun H2 => propext ?_))
    constructor
    · rintro ⟨a, b, c⟩
      refine ⟨a, b, fun x dx h1 h2 h3 => ?_⟩
      have := c x dx h1 h2 h3
      rw [List.append_nil] at this
      rw [hg x vs zs a b]
      exact this
    · rintro ⟨a, b, c⟩
      refine ⟨a, b, fun x dx h1 h2 h3 => ?_⟩
      have := c x dx h1 h2 h3
      rw [hg x vs zs a b] at this
      rw [List.append_nil]
      exact this
  exact e ▸ h2
end
/-! facts of keyword-only defaults -/
def KwL (K : PySem.W.Frag) (D : Addr) (kws : List (Str × V)) : Prop := ∀ q ∈ kws, ∃ u, PySem.W.nsIn K D q.1 = some (some u) ∧ RelV q.2 u
theorem kwl_nil {K : PySem.W.Frag} {D : Addr} : KwL K D [] := fun _ h => nomatch h
theorem kwl_cons {K : PySem.W.Frag} {D : Addr} {n : Str} {v : V} {u : Value} {kws : List (Str × V)} (h : PySem.W.nsIn K D n = some (some u)) (r : RelV v u) (t : KwL K D kws) : KwL K D ((n, v) :: kws) := fun q hq => by
  rcases List.mem_cons.mp hq with rfl | hq
  · exact ⟨u, h, r⟩
  · exact t q hq
theorem relI {i : Int} {t : Tok} : RelV (.int i) (.int i t) := ⟨t, rfl⟩
theorem relN : RelV .non .none := rfl
theorem relB {b : Bool} : RelV (.bl b) (.bool b) := rfl
open PyProof.Rows in
/-- a def with keyword-only defaults, as it stands -/
theorem fund_mk {K : PySem.W.Frag} {x qual : Str} {st : Stmt} {f D : Addr} {oc : Value} {od an : Option Addr} {osl : Array (Option Value)} {doc pm cdv ct : Value} {kws : List (Str × V)}
    (l : K.lookup f = some ⟨oc, od, .func (PySem.W.fnOf x qual (defArgs st) (defBody st) (defScope st) .none (.ref D) doc pm an cdv ct), osl⟩)
    (c : PySem.W.codeIn K cdv qual = true) (k : PySem.W.keepIn K (.ref f) = true) (q : KwL K D kws) : FunD K x qual (defArgs st) (defBody st) (defScope st) [] kws f (PySem.W.fnOf x qual (defArgs st) (defBody st) (defScope st) .none (.ref D) doc pm an cdv ct) :=
  ⟨⟨oc, od, .none, .ref D, doc, pm, an, cdv, ct, osl, rfl, l, c, .inl ⟨rfl, rfl⟩, .inr ⟨D, rfl, q⟩⟩, k⟩
/-! a default that is an empty tuple of the world -/
theorem relR {a : Addr} : RelV (.ref a) (.ref a) := rfl
theorem tup0_mk {K : PySem.W.Frag} {a : Addr} {od : Option Addr} {its : Array Value} {n : Nat} {sl : Array (Option Value)} (l : K.lookup a = some ⟨.type "tuple", od, .seq its n, sl⟩) (hz : its = #[]) : ∀ G : Hp, Rep K G (.ref a) (.tup []) := fun G => by
  subst hz
  exact .tup (.inr ⟨_, _, n, l, rfl, rfl, by decide, .nil⟩) .nil
end DL

/-! Dl9: chains of four operands, slots set aside, ranges downward, tuple + tuple, calls with keywords. -/
namespace L2
open PySem PySem.Spec PyProof.Rows
section
variable {X : Cx} {a b c d : Expr} {ta tb tc td : TE} {pos : Pos}
def tChain3 (r r' r'' : R2) (ta tb tc td : TE) : TE := fun σ H Q => ta σ H fun x H1 => tb σ H1 fun y H2 => r x y H2 fun z H3 => ∃ k, z = .bl k ∧
  (if k = true then tc σ H3 fun w H4 => r' y w H4 fun z2 H5 => ∃ k2, z2 = .bl k2 ∧ (if k2 = true then td σ H5 fun u H6 => r'' w u H6 Q else Q (.bl false) H5) else Q (.bl false) H3)
theorem pe_chain3 {op op' op'' : CmpOp} {r r' r'' : R2} (ho : OpR X (compareOp op) r) (ho' : OpR X (compareOp op') r') (ho'' : OpR X (compareOp op'') r'') (ha : PE X a ta) (hb : PE X b tb) (hc : PE X c tc) (hd : PE X d td)
    (hm : lastMarks [op, op', op''] [b, c, d] = false := by with_unfolding_all rfl) : PE X (.Compare a [op, op', op''] [b, c, d] pos) (tChain3 r r' r'' ta tb tc td) := by
  refine ⟨fun pins s σ H Q I h => ?_⟩
  refine Compare_chain (thn (ha.run pins s σ H _ I h) fun v s1 ⟨x, H1, I1, r1, q1⟩ => chain_link (thn (hb.run pins s1 σ H1 _ I1 q1) fun u s2 ⟨y, H2, I2, r2, q2⟩ =>
    thn (ho pins s2 σ H2 x y v u _ I2 r1 r2 q2) fun d s3 ⟨z, H3, I3, r3, k, e, q3⟩ => ?_)) hm
  subst e
  cases r3
  refine wpAny_truthy_bool ?_
  cases k with
  | false => exact ite_ff ⟨.bl false, H3, I3, rfl, q3⟩
  | true =>
    refine ite_tt (chain_link (thn (hc.run pins s3 σ H3 _ I3 q3) fun w s4 ⟨z', H4, I4, r4, q4⟩ => thn (ho' pins s4 σ H4 y z' u w _ I4 r2 r4 q4) fun d' s5 ⟨z2, H5, I5, r5, k2, e2, q5⟩ => ?_))
    subst e2
    cases r5
    refine wpAny_truthy_bool ?_
    cases k2 with
    | false => exact ite_ff ⟨.bl false, H5, I5, rfl, q5⟩
    | true => exact ite_tt (chain_last (thn (hd.run pins s5 σ H5 _ I5 q5) fun w' s6 ⟨z'', H6, I6, r6, q6⟩ => ho'' pins s6 σ H6 z' z'' w w' Q I6 r4 r6 q6))
theorem pt_chain3 {op op' op'' : CmpOp} {r r' r'' : R2} (ho : OpR X (compareOp op) r) (ho' : OpR X (compareOp op') r') (ho'' : OpR X (compareOp op'') r'') (ha : PE X a ta) (hb : PE X b tb) (hc : PE X c tc) (hd : PE X d td)
    (hm : lastMarks [op, op', op''] [b, c, d] = false := by with_unfolding_all rfl) : PT X (.Compare a [op, op', op''] [b, c, d] pos) (tTest (tChain3 r r' r'' ta tb tc td)) := by
  refine ⟨fun pins s σ H Q I h => ?_⟩
  refine isTrue_chain (thn (ha.run pins s σ H _ I h) fun v s1 ⟨x, H1, I1, r1, q1⟩ => test_link (thn (hb.run pins s1 σ H1 _ I1 q1) fun u s2 ⟨y, H2, I2, r2, q2⟩ =>
    thn (ho pins s2 σ H2 x y v u _ I2 r1 r2 q2) fun d s3 ⟨z, H3, I3, r3, k, e, q3⟩ => ?_)) hm
  subst e
  cases r3
  refine wpAny_truthy_bool ?_
  cases k with
  | false =>
    obtain ⟨k', e', q'⟩ := q3
    cases e'
    exact ite_ff ⟨H3, I3, q'⟩
  | true =>
    refine ite_tt (test_link (thn (hc.run pins s3 σ H3 _ I3 q3) fun w s4 ⟨z', H4, I4, r4, q4⟩ => thn (ho' pins s4 σ H4 y z' u w _ I4 r2 r4 q4) fun d' s5 ⟨z2, H5, I5, r5, k2, e2, q5⟩ => ?_))
    subst e2
    cases r5
    refine wpAny_truthy_bool ?_
    cases k2 with
    | false =>
      obtain ⟨k', e', q'⟩ := q5
      cases e'
      exact ite_ff ⟨H5, I5, q'⟩
    | true =>
      refine ite_tt (test_last (thn (hd.run pins s5 σ H5 _ I5 q5) fun w' s6 ⟨z'', H6, I6, r6, q6⟩ => thn (ho'' pins s6 σ H6 z' z'' w w' _ I6 r4 r6 q6) fun d'' s7 ⟨z3, H7, I7, r7, k3, e3, q7⟩ => ?_))
      subst e3
      cases r7
      exact wpAny_truthy_bool ⟨H7, I7, q7⟩
def tChain4 (r r' r'' r3 : R2) (ta tb tc td te : TE) : TE := fun σ H Q => ta σ H fun x H1 => tb σ H1 fun y H2 => r x y H2 fun z H3 => ∃ k, z = .bl k ∧
  (if k = true then tc σ H3 fun w H4 => r' y w H4 fun z2 H5 => ∃ k2, z2 = .bl k2 ∧ (if k2 = true then td σ H5 fun u H6 => r'' w u H6 fun z3 H7 => ∃ k3, z3 = .bl k3 ∧ (if k3 = true then te σ H7 fun m H8 => r3 u m H8 Q else Q (.bl false) H7) else Q (.bl false) H5) else Q (.bl false) H3)
theorem pt_chain4 {e : Expr} {te : TE} {op op' op'' op3 : CmpOp} {r r' r'' r3 : R2} (ho : OpR X (compareOp op) r) (ho' : OpR X (compareOp op') r') (ho'' : OpR X (compareOp op'') r'') (ho3 : OpR X (compareOp op3) r3) (ha : PE X a ta) (hb : PE X b tb) (hc : PE X c tc) (hd : PE X d td) (he : PE X e te)
    (hm : lastMarks [op, op', op'', op3] [b, c, d, e] = false := by with_unfolding_all rfl) : PT X (.Compare a [op, op', op'', op3] [b, c, d, e] pos) (tTest (tChain4 r r' r'' r3 ta tb tc td te)) := by
  refine ⟨fun pins s σ H Q I h => ?_⟩
  refine isTrue_chain (thn (ha.run pins s σ H _ I h) fun v s1 ⟨x, H1, I1, r1, q1⟩ => test_link (thn (hb.run pins s1 σ H1 _ I1 q1) fun u s2 ⟨y, H2, I2, r2, q2⟩ =>
    thn (ho pins s2 σ H2 x y v u _ I2 r1 r2 q2) fun d s3 ⟨z, H3, I3, rr3, k, e, q3⟩ => ?_)) hm
  subst e
  cases rr3
  refine wpAny_truthy_bool ?_
  cases k with
  | false =>
    obtain ⟨k', e', q'⟩ := q3
    cases e'
    exact ite_ff ⟨H3, I3, q'⟩
  | true =>
    refine ite_tt (test_link (thn (hc.run pins s3 σ H3 _ I3 q3) fun w s4 ⟨z', H4, I4, r4, q4⟩ => thn (ho' pins s4 σ H4 y z' u w _ I4 r2 r4 q4) fun d' s5 ⟨z2, H5, I5, r5, k2, e2, q5⟩ => ?_))
    subst e2
    cases r5
    refine wpAny_truthy_bool ?_
    cases k2 with
    | false =>
      obtain ⟨k', e', q'⟩ := q5
      cases e'
      exact ite_ff ⟨H5, I5, q'⟩
    | true =>
      refine ite_tt (test_link (thn (hd.run pins s5 σ H5 _ I5 q5) fun w' s6 ⟨z'', H6, I6, r6, q6⟩ => thn (ho'' pins s6 σ H6 z' z'' w w' _ I6 r4 r6 q6) fun d'' s7 ⟨z3, H7, I7, r7, k3, e3, q7⟩ => ?_))
      subst e3
      cases r7
      refine wpAny_truthy_bool ?_
      cases k3 with
      | false =>
        obtain ⟨k', e', q'⟩ := q7
        cases e'
        exact ite_ff ⟨H7, I7, q'⟩
      | true =>
        refine ite_tt (test_last (thn (he.run pins s7 σ H7 _ I7 q7) fun w2 s8 ⟨z4, H8, I8, r8, q8⟩ => thn (ho3 pins s8 σ H8 z'' z4 w' w2 _ I8 r6 r8 q8) fun d3 s9 ⟨z5, H9, I9, r9, k4, e4, q9⟩ => ?_))
        subst e4
        cases r9
        exact wpAny_truthy_bool ⟨H9, I9, q9⟩
end
end L2
namespace DL
open PySem L2
section
variable {K : PySem.W.Frag} {es es' : List Sl} {ta tb tc td te : TE} {d : Dt}
theorem ev_chain3 {r r' r'' : R2} {a b c e : Dt} {x y z : Bool} (ha : Ev K ta es a) (hb : Ev K tb es b) (hr : R2D K r a b (.bl x)) (hc : Ev K tc es c) (hr' : R2D K r' b c (.bl y)) (hd : Ev K td es e) (hr'' : R2D K r'' c e (.bl z)) :
    Ev K (tChain3 r r' r'' ta tb tc td) es (.bl (x && (y && z))) := fun F G H σ s Q q =>
  ha F G H σ s _ fun v1 G1 H1 s1 g1 r1 => hb F G1 H1 σ s1 _ fun v2 G2 H2 s2 g2 r2 => hr F G2 H2 σ es v1 v2 s2 (r1.mono g2) r2 _ fun z1 G3 H3 s3 g3 r3 => by
    cases r3
    refine ⟨x, rfl, ?_⟩
    cases x with
    | false => exact q _ G3 H3 s3 (g1.trans (g2.trans g3)) (.bl _)
    | true =>
      show tc σ H3 _
      refine hc F G3 H3 σ s3 _ fun v4 G4 H4 s4 g4 r4 => hr' F G4 H4 σ es v2 v4 s4 ((r2.mono g3).mono g4) r4 _ fun z2 G5 H5 s5 g5 r5 => ?_
      cases r5
      refine ⟨y, rfl, ?_⟩
      have gg := g1.trans (g2.trans (g3.trans (g4.trans g5)))
      cases y with
      | false => exact q _ G5 H5 s5 gg (.bl _)
      | true =>
        show td σ H5 _
        exact hd F G5 H5 σ s5 _ fun v6 G6 H6 s6 g6 r6 => hr'' F G6 H6 σ es v4 v6 s6 ((r4.mono g5).mono g6) r6 Q fun v7 G7 H7 s7 g7 r7 => q v7 G7 H7 s7 (gg.trans (g6.trans g7)) r7
theorem ev_chain4 {r r' r'' r3 : R2} {tf : TE} {a b c e f : Dt} {x y z u : Bool} (ha : Ev K ta es a) (hb : Ev K tb es b) (hr : R2D K r a b (.bl x)) (hc : Ev K tc es c) (hr' : R2D K r' b c (.bl y)) (hd : Ev K td es e) (hr'' : R2D K r'' c e (.bl z)) (hf : Ev K tf es f) (hr3 : R2D K r3 e f (.bl u)) :
    Ev K (tChain4 r r' r'' r3 ta tb tc td tf) es (.bl (x && (y && (z && u)))) := fun F G H σ s Q q =>
  ha F G H σ s _ fun v1 G1 H1 s1 g1 r1 => hb F G1 H1 σ s1 _ fun v2 G2 H2 s2 g2 r2 => hr F G2 H2 σ es v1 v2 s2 (r1.mono g2) r2 _ fun z1 G3 H3 s3 g3 r3 => by
    cases r3
    refine ⟨x, rfl, ?_⟩
    cases x with
    | false => exact q _ G3 H3 s3 (g1.trans (g2.trans g3)) (.bl _)
    | true =>
      show tc σ H3 _
      refine hc F G3 H3 σ s3 _ fun v4 G4 H4 s4 g4 r4 => hr' F G4 H4 σ es v2 v4 s4 ((r2.mono g3).mono g4) r4 _ fun z2 G5 H5 s5 g5 r5 => ?_
      cases r5
      refine ⟨y, rfl, ?_⟩
      have gg := g1.trans (g2.trans (g3.trans (g4.trans g5)))
      cases y with
      | false => exact q _ G5 H5 s5 gg (.bl _)
      | true =>
        show td σ H5 _
        refine hd F G5 H5 σ s5 _ fun v6 G6 H6 s6 g6 r6 => hr'' F G6 H6 σ es v4 v6 s6 ((r4.mono g5).mono g6) r6 _ fun v7 G7 H7 s7 g7 r7 => ?_
        cases r7
        refine ⟨z, rfl, ?_⟩
        have g3 := gg.trans (g6.trans g7)
        cases z with
        | false => exact q _ G7 H7 s7 g3 (.bl _)
        | true =>
          show tf σ H7 _
          exact hf F G7 H7 σ s7 _ fun v8 G8 H8 s8 g8 r8 => hr3 F G8 H8 σ es v6 v8 s8 ((r6.mono g7).mono g8) r8 Q fun v9 G9 H9 s9 g9 r9 => q v9 G9 H9 s9 (g3.trans (g8.trans g9)) r9
/-! slots set aside -/
def hideS (es : List Sl) : List Sl := es.map fun s => match s.isOwn with
  | true => .un
  | false => s
theorem Stt.hide {F G H : Hp} {σ : L2.St} (s : Stt K F G H σ es) : Stt K (DL.rem G H) G H σ (hideS es) where
  f := s.rem.1
  g := s.g
  dj := s.rem.2
  len := by unfold hideS; rw [List.length_map]; exact s.len
  sl := fun i t e => by
    unfold hideS at e
    rw [List.getElem?_map] at e
    cases q : es[i]? with
    | none => rw [q] at e; cases e
    | some u =>
      rw [q] at e
      cases e
      obtain ⟨x, hx, k⟩ := s.sl i u q
      refine ⟨x, hx, ?_⟩
      cases u with
      | un => trivial
      | d y => exact k
      | own _ _ => trivial
      | obo _ _ _ => trivial
  ow := fun i j t u _ ei _ hi _ => by
    unfold hideS at ei
    rw [List.getElem?_map] at ei
    cases q : es[i]? with
    | none => rw [q] at ei; cases ei
    | some u =>
      rw [q] at ei
      cases ei
      cases u <;> cases hi
theorem ev_hide (e : hideS es = es') (h : Ev K te es' d) : Ev K te es d := by
  subst e
  exact fun F G H σ s Q q => h (DL.rem G H) G H σ s.hide Q fun v G1 H1 s1 g1 r1 => q v G1 H1 (s.after s1.f s1.g s1.dj g1) g1 r1
theorem Stt.afterL {F G H G1 H1 : Hp} {σ : L2.St} (s : Stt K F G H σ es) {p : Addr} {vs : List V} (sf : Same (upd (DL.rem G H) p (.lst vs)) H1) (sg : Same G1 H1) (sd : ∀ a o, upd (DL.rem G H) p (.lst vs) a = some o → G1 a = none) (hp : DL.rem G H p = none) (g1 : Same G G1) :
    Stt K (upd F p (.lst vs)) G1 H1 σ es ∧ F p = none := by
  have up : ∀ a o, F a = some o → DL.rem G H a = some o := fun a o e => by rw [rem_of (s.dj a o e)]; exact s.f a o e
  have ne : ∀ a o, DL.rem G H a = some o → a ≠ p := fun a o e z => by subst z; rw [hp] at e; cases e
  have fp : F p = none := not_some fun o e => by
    have := up p o e
    rw [hp] at this
    cases this
  have gp : G1 p = none := sd p _ upd_same
  refine ⟨⟨fun a u e => ?_, sg, fun a u e => ?_, s.len, fun i t e => ?_, s.ow⟩, fp⟩
  · by_cases z : a = p
    · subst z
      rw [upd_same] at e
      exact sf a u (by rw [upd_same]; exact e)
    · rw [upd_ne z] at e
      exact sf a u (by rw [upd_ne z]; exact up a u e)
  · by_cases z : a = p
    · subst z
      exact gp
    · rw [upd_ne z] at e
      exact sd a u (by rw [upd_ne z]; exact up a u e)
  · obtain ⟨x, hx, k⟩ := s.sl i t e
    refine ⟨x, hx, k.grow g1 (fun q u hg _ hu => ?_) fun q hg ⟨u, hu⟩ hf => ?_⟩
    · have hq : DL.rem G H q = some u := by rw [rem_of hg]; exact hu
      exact sf q u (by rw [upd_ne (ne q u hq)]; exact hq)
    · have hq : DL.rem G H q = some u := by rw [rem_of hg]; exact hu
      exact ⟨sd q u (by rw [upd_ne (ne q u hq)]; exact hq), by rw [upd_ne (ne q u hq)]; exact hf⟩
theorem el_hide {ds : List Dt} (e : hideS es = es') (h : EvL K te es' ds) : EvL K te es ds := by
  subst e
  refine fun F G H σ s Q q => h (DL.rem G H) G H σ s.hide Q fun p vs G1 H1 s1 hp g1 r1 => ?_
  obtain ⟨a, b⟩ := s.afterL s1.f s1.g s1.dj hp g1
  exact q p vs G1 H1 a b g1 r1
/-! ranges downward -/
def rngD (lo hi : Int) : List Int := (List.range (lo - hi).toNat).map fun (i : Nat) => lo - (i : Int)
def rngDC (lo hi : Int) : Option (List Int) := if -(2 ^ 62) ≤ lo ∧ lo < 2 ^ 62 ∧ -(2 ^ 62) ≤ hi ∧ hi < 2 ^ 62 then some (rngD lo hi) else none
theorem yields_rngD {G : Hp} {lo : Int} {n : Nat} : Yields K (Itc lo (-1) n) G (((List.range n).map fun (i : Nat) => lo - (i : Int)).map Dt.int) := fun i F G1 H1 σ es g s => by
  refine ⟨fun d e => ?_, fun e => by rw [List.length_map, List.length_map, List.length_range] at e; exact e⟩
  rw [List.getElem?_map, List.getElem?_map] at e
  by_cases hi : i < n
  · rw [List.getElem?_range hi] at e
    cases e
    refine ⟨hi, fun x H2 y => ?_⟩
    obtain ⟨e1, e2⟩ := y
    subst e1 e2
    have : lo + (i : Int) * (-1) = lo - (i : Int) := by omega
    rw [this]
    exact ⟨G1, s, Same.refl _, .int _⟩
  · rw [List.getElem?_eq_none (by simpa using hi)] at e
    cases e
theorem ei_rngD {ta : TA} {lo hi : Int} {xs : List Int} (h : EvA K ta es [.int lo, .int hi, .int (-1)]) (e : rngDC lo hi = some xs) : EvI K (iRng3 ta) es (xs.map Dt.int) := fun F G H σ s R q => h F G H σ s _ fun vs G1 H1 s1 g1 r1 => by
  obtain ⟨⟨a1, a2, a3, a4⟩, e⟩ := ite_some e
  subst e
  cases r1 with
  | cons ra rr =>
    cases ra
    cases rr with
    | cons rb rr =>
      cases rb
      cases rr with
      | cons rc rr =>
        cases rc
        cases rr
        exact ⟨lo, hi, -1, _, rfl, RgC.neg a1 a2 a3 a4, q _ G1 H1 s1 g1 yields_rngD⟩
/-! tuple + tuple -/
theorem ev_catT {d1 d2 : List Dt} (ha : Ev K ta es (.tup d1)) (hb : Ev K tb es (.tup d2)) (hz : d1.length + d2.length ≤ 10000000) : Ev K (tOp (rCatA K) ta tb) es (.tup (d1 ++ d2)) := fun F G H σ s Q q =>
  ha F G H σ s _ fun x G1 H1 s1 g1 r1 => hb F G1 H1 σ s1 _ fun y G2 H2 s2 g2 r2 => by
    cases r1 with
    | tup h1 q1 =>
      cases r2 with
      | tup h2 q2 =>
        have q1 := q1.mono g2
        refine ⟨_, _, _, _, rfl, rfl, sqT_mono s2.g (sqT_mono g2 h1), sqT_mono s2.g h2, ?_, fun e => ?_, fun _ e => ?_, fun _ _ p hp => ?_⟩
        · rw [q1.length, q2.length]
          exact Nat.le_trans hz (by decide)
        · subst e
          cases q1
          exact q _ G2 H2 s2 (g1.trans g2) (.tup h2 q2)
        · subst e
          cases q2
          refine q _ G2 H2 s2 (g1.trans g2) ?_
          rw [List.append_nil]
          exact .tup (sqT_mono g2 h1) q1
        · have hg := s2.gnone hp
          exact q _ _ _ (s2.new hp) (g1.trans (g2.trans (same_upd hg))) (.tup (.inl (.inl upd_same)) ((q1.append q2).mono (same_upd hg)))
theorem ev_catTm {α : Type} {em : α → Dt} {xs ys zs : List α} (ha : Ev K ta es (.tup (xs.map em))) (hb : Ev K tb es (.tup (ys.map em))) (h : catC xs ys = some zs) : Ev K (tOp (rCatA K) ta tb) es (.tup (zs.map em)) := by
  unfold catC at h
  split at h
  · rename_i hz
    cases h
    rw [List.map_append]
    exact ev_catT ha hb (by rw [List.length_map, List.length_map]; exact hz)
  · cases h
end
section
variable {K : PySem.W.Frag} {es : List Sl} {ta tk : TA} {E : XK}
/-- f(.., k = v, ..) -/
theorem ev_callK {P : List Dt → Dt → Prop} {d : Dt} {n m : Nat} {fV : List V → List V → List V} {ds ks ds' : List Dt} (ha : EvA K ta es ds) (hk : EvA K tk es ks) (hn : ds.length = n) (hm : ks.length = m)
    (hf : ∀ G vs zs, Reps K G vs ds → Reps K G zs ks → Reps K G (fV vs zs) ds') (hP : P ds' d) : Ev K (tCallN n m (FSpec K (RD P)) fV E ta tk) es d := fun F G H σ s Q q => by
  have h2 := ev_call (E := E) (ea_perm ha hk hn hm hf) hP F G H σ s Q q
  have e : tCall (FSpec K (RD P)) [] E (tPermA n m fV ta tk) σ H Q = tCallN n m (FSpec K (RD P)) fV E ta tk σ H Q := by
    unfold tCall tCallN tPermA
    refine congrArg (ta σ H) (funext fun vs => funext fun H1 => congrArg (tk σ H1) (funext fun zs => funext fun H2 => ?_))
    show (_ ∧ _ ∧ FSpec K (RD P) (fV vs zs ++ []) H2 Q E) = _
    rw [List.append_nil]
  exact e ▸ h2
end
/-! defs that hand back a new list -/
section
variable {K : PySem.W.Frag} {es fs : List Sl} {te : TE} {tz : TS} {ds : List Dt}
theorem sev_rtL (h : EvL K te es ds) (w : Wk es fs) : SEv K (tSeq (tRet te) tz) es (.rl ds fs) := fun F G H σ D s q => h F G H σ s _ fun p vs G1 H1 s1 hF g1 r1 => q p vs G1 H1 σ (s1.wk w) hF g1 r1
theorem Stt.leave {F G H : Hp} {σ : L2.St} {i : Nat} {p : Addr} {vs : List V} {t : Sl} (s : Stt K F G H σ es) (hi : es[i]? = some t) (ht : t.isOwn = true) (ho : σ[i]? = some (some (.ref p))) (hp : H p = some (.lst vs)) (gp : G p = none) : Stt K (upd F p (.lst vs)) G H σ (es.set i .un) where
  f := fun a u e => by
    by_cases z : a = p
    · subst z
      rw [upd_same] at e
      exact hp.trans e
    · rw [upd_ne z] at e
      exact s.f a u e
  g := s.g
  dj := fun a u e => by
    by_cases z : a = p
    · subst z
      exact gp
    · rw [upd_ne z] at e
      exact s.dj a u e
  len := by rw [List.length_set]; exact s.len
  sl := fun j u e => by
    by_cases q : i = j
    · subst q
      have hj : i < es.length := (List.getElem?_eq_some_iff.mp hi).1
      rw [List.getElem?_set_self hj] at e
      cases e
      exact ⟨_, ho, trivial⟩
    · rw [List.getElem?_set_ne q] at e
      obtain ⟨x, hx, k⟩ := s.sl j u e
      refine ⟨x, hx, ?_⟩
      cases u with
      | un => trivial
      | d y => exact k
      | own a xs =>
        obtain ⟨p', vs', e', g', f', hp', r', an'⟩ := k
        have ne : p' ≠ p := fun z => s.ow i j t _ q hi e ht rfl (by rw [ho, hx, e', z])
        exact ⟨p', vs', e', g', by rw [upd_ne ne]; exact f', hp', r', an'⟩
      | obo a C fs =>
        obtain ⟨p', dx', vs', e', g', f', hp', r', an'⟩ := k
        have ne : p' ≠ p := fun z => s.ow i j t _ q hi e ht rfl (by rw [ho, hx, e', z])
        exact ⟨p', dx', vs', e', g', by rw [upd_ne ne]; exact f', hp', r', an'⟩
  ow := fun a b u w ne ea eb ha hb => by
    have no : ∀ (k : Nat) (z : Sl), (es.set i Sl.un)[k]? = some z → z.isOwn = true → es[k]? = some z := fun k z e h => by
      by_cases q : i = k
      · subst q
        have hj : i < es.length := (List.getElem?_eq_some_iff.mp hi).1
        rw [List.getElem?_set_self hj] at e
        cases e
        cases h
      · rwa [List.getElem?_set_ne q] at e
    exact s.ow a b u w ne (no a u ea ha) (no b w eb hb) ha hb
theorem sev_rtO {i : Nat} {a : Option Addr} (hi : es[i]? = some (.own a ds)) (w : Wk (es.set i .un) fs) : SEv K (tSeq (tRet (tVar i)) tz) es (.rl ds fs) := fun F G H σ D s q => by
  obtain ⟨o, ho, p, vs, eo, g, f, hp, rr, an⟩ := s.sl i _ hi
  subst eo
  exact ⟨.ref p, ho, q p vs G H σ ((s.leave hi rfl ho hp g).wk w) f (Same.refl _) rr⟩
/-- all arguments data, a new list handed back -/
def FSpecL (K : PySem.W.Frag) (R : List Dt → List Dt → Prop) : Sp := fun vs H Q _ => ∃ F G ds xs, Stt K F G H (vs.map some) (ds.map .d) ∧ R ds xs ∧
  ∀ p ws G' H', Stt K (upd F p (.lst ws)) G' H' (vs.map some) (ds.map .d) → F p = none → Same G G' → Reps K G' ws xs → Q (.ref p) H'
theorem fn_L {P : Program} {w : World} {mg : Str → Option Value} {base : Heap} {x qual : Str} {st : Stmt} {f : Addr} {fd : FuncData} {N ps : List Str} {k : Nat} {R : List Dt → List Dt → Prop} (F : Fun K x qual st f fd) (S : FnScope N ps (defScope st)) (hl : ∀ ds d, R ds d → ds.length = ps.length)
    (body : ∀ (cdv : Value) (A : Around) (outer : List Env) (s : Shared) (H : Hp) (E : XK), Room k (A.deeper (PyProof.Rows.envOfC qual (defScope st) s.heap.objs.size f cdv)) →
      ∃ t, PSs (cxOf CX0 P w K mg base N qual (defScope st) f cdv A outer s H E).nox (defBody st) t ∧ ∀ ds xs, R ds xs → ∃ es, SEv K t (ds.map .d ++ List.replicate (N.length - ps.length) .un) (.rl xs es)) :
    FnOk P w K mg base CX0 (k + 1) f fd ps (FSpecL K R) := by
  refine F.ok S (fun vs H Q E h => ?_) (fun cdv A outer s H vs Q E hr h => ?_)
  · obtain ⟨F, G, ds, xs, s, hR, _⟩ := h
    have := s.len
    rw [List.length_map, List.length_map, hl ds xs hR] at this
    exact this
  · obtain ⟨t, ht, hb⟩ := body cdv A outer s H E hr
    refine ⟨t, ht, ?_⟩
    obtain ⟨F1, G, ds, xs, st1, hR, q⟩ := h
    obtain ⟨es, hs⟩ := hb ds xs hR
    refine hs F1 G H _ _ (stt_start st1 (by rw [List.length_map, hl ds xs hR])) (fun p ws G' H' σ' s' hf g r => ?_)
    have rs : Reps K G vs ds := data_of (vs := vs) (ds := ds) (K := K) (F := F1) (G := G) (H := H) (by have := st1.len; simpa using this) st1.sl
    exact q p ws G' H' (stt_data s'.f s'.g s'.dj (rs.mono g)) hf g r
theorem el_call {ta : TA} {E : XK} {ds xs : List Dt} {P : List Dt → List Dt → Prop} (ha : EvA K ta es ds) (hP : P ds xs) : EvL K (tCall (FSpecL K P) [] E ta) es xs := fun F G H σ s Q q =>
  ha F G H σ s _ fun vs G1 H1 s1 g1 r1 => by
    show FSpecL K P (vs ++ []) H1 Q E
    rw [List.append_nil]
    refine ⟨DL.rem G1 H1, G1, ds, xs, stt_data s1.rem.1 s1.g s1.rem.2 r1, hP, fun p ws G2 H2 s2 hf g2 r2 => ?_⟩
    obtain ⟨a, b⟩ := s1.afterL s2.f s2.g s2.dj hf g2
    exact q p ws G2 H2 a b (g1.trans g2) r2
end
/-- of nothing -/
abbrev dE (x : Empty) : Dt := nomatch x
open PyProof.Rows in
/-- a def with defaults, as it stands -/
theorem fund_mkP {K : PySem.W.Frag} {x qual : Str} {st : Stmt} {f T : Addr} {oc tc : Value} {od td an : Option Addr} {osl tsl : Array (Option Value)} {kV doc pm cdv ct : Value} {its : Array Value} {n : Nat} {items : List Value} {dvs : List V}
    (l : K.lookup f = some ⟨oc, od, .func (PySem.W.fnOf x qual (defArgs st) (defBody st) (defScope st) (.ref T) kV doc pm an cdv ct), osl⟩)
    (c : PySem.W.codeIn K cdv qual = true) (k : PySem.W.keepIn K (.ref f) = true) (lt : K.lookup T = some ⟨tc, td, .seq its n, tsl⟩) (e : its = items.toArray) (r : Vals dvs items) (hne : dvs ≠ []) :
    FunD K x qual (defArgs st) (defBody st) (defScope st) dvs [] f (PySem.W.fnOf x qual (defArgs st) (defBody st) (defScope st) (.ref T) kV doc pm an cdv ct) :=
  ⟨⟨oc, od, .ref T, kV, doc, pm, an, cdv, ct, osl, rfl, l, c, .inr ⟨hne, T, _, items, n, rfl, lt, by subst e; rfl, r⟩, .inl rfl⟩, k⟩
end DL

/-! Dl10: own exceptions whose __init__ says super().__init__(f'invalid {field}'); self.field = field -/
namespace PySem
namespace DLX
open PySem.W PySem.Calls PyProof.Rows PySem.HandSPX
def iA (p1 p2 : Pos) : Arguments := { posonlyargs := [], args := [{ arg := "self", annotation := none, pos := p1 }, { arg := "field", annotation := none, pos := p2 }], vararg := none, kwonlyargs := [], kw_defaults := [], kwarg := none, defaults := [] }
def iP (pre : Bool) (q4 q5 q6 : Pos) : List Expr := match pre with
  | true => [.Constant (.str "invalid ") 0 q4, .FormattedValue (.Name "field" q5) (-1) none q6]
  | false => [.FormattedValue (.Name "field" q5) (-1) none q6, .Constant (.str " out of range") 0 q4]
def iB (pre : Bool) (q1 q2 q3 q4 q5 q6 q7 q8 q9 r1 r2 r3 r4 : Pos) : List Stmt := [.Expr (.Call (.Attribute (.Call (.Name "super" q1) [] [] q2) "__init__" q3) [.JoinedStr (iP pre q4 q5 q6) q7] [] q8) q9, .Assign [.Attribute (.Name "self" r1) "field" r2] (.Name "field" r3) r4]
def iS : Scope := { kind := .function, names := [(PySem.Str.ofString "self", .local), (PySem.Str.ofString "field", .local), (PySem.Str.ofString "__class__", .free), (PySem.Str.ofString "super", .globalImplicit)], isGenerator := false, isCoroutine := false, more := [] }
/-- what the written part says of such a class, at C, and of its __init__, at fI -/
structure ExcT (P : Program) (K : Frag) (mg : Str → Option Value) (nm : Str) (C fI : Addr) : Prop where
  gC : mg nm = some (.ref C)
  cls : ∃ n' q N bs bm sn sub ab col dd k0 k1 k2 k3 k5, K.lookup C = some (excClassObj n' q C N bs bm true sn sub ab col dd k0 k1 k2 k3 k5 "ValueError.__new__") ∧ refsVE bm = true
  sa : findIn K (.ref C) "__setattr__" = some (some (.builtin "object.__setattr__"))
  ga : findIn K (.ref C) "__getattribute__" = some (some (.builtin "BaseException.__getattribute__"))
  gg : findIn K (.ref C) "__getattr__" = some none
  noN : findIn K (.ref C) "field" = some none
  iC : findIn K (.ref C) "__init__" = some (some (.ref fI))
  tC : typeIn K (.ref fI) = some (.type "function")
  kC : keepIn K (.ref C) = true
  exC : subIn K (.ref C) (.type "BaseException") = some true
  veC : subIn K (.ref C) (.type "ValueError") = some true
  tyC : typeIn K (.ref C) = some (.type "type")
  hdC : hasDictIn K C = true
  mro : mroIn K C (.ref C) = some true
  sup : ks_superIn K C C "__init__" = some (some (.builtin "ValueError.__init__"))
  noS : mg "super" = none
  tp : nsIn K cStatics "thirdparty.any" = some none
  top : (P.main.scope.names.lookup ("super" : Str)).isSome = false
  fn : ∃ (oc : Value) (od : Option Addr) (qn : Str) (doc pm : Value) (an : Option Addr) (cda cc : Addr) (ct : Value) (osl : Array (Option Value)) (pre : Bool) (p1 p2 q1 q2 q3 q4 q5 q6 q7 q8 q9 r1 r2 r3 r4 : Pos),
    K.lookup fI = some ⟨oc, od, .func (ksFn "__init__" qn (iA p1 p2) (iB pre q1 q2 q3 q4 q5 q6 q7 q8 q9 r1 r2 r3 r4) iS .none .none doc pm an (.ref cda) ct cc), osl⟩ ∧ codeIn K (.ref cda) qn = true ∧
    (q3.endLine == q8.line) = true ∧ (∃ (ccl : Value) (cdd : Option Addr) (vs : Array Value) (ccs : Array (Option Value)) (file : Str) (tf : Tok), K.lookup cda = some ⟨ccl, cdd, .fields vs, ccs⟩ ∧ vs[2]? = some (.str file tf) ∧ ((P.main.file : Str) == file) = true) ∧
    ∃ (cl : Value) (cld : Option Addr) (csl : Array (Option Value)), K.lookup cc = some ⟨cl, cld, .cell (some (.ref C)), csl⟩
/-- what __init__ leaves of a fresh exception at x -/
structure InitEnd (h h' : Heap) (x C dx t1 : Addr) (v : Value) : Prop where
  keep : ∀ b o, b ≠ x → h.get? b = some o → h'.get? b = some o
  obj : h'.get? x = some { cls := .ref C, dict := some dx, data := .fields #[.ref t1, .none, .none, .none, .bool false, .none] }
  dbig : h.objs.size ≤ dx
  dne : dx ≠ x
  ns : h'.Ns1 dx (fun y => if y = "field" then some v else none)
/-- a made one -/
structure OwnMade (h h' : Heap) (e C d : Addr) (v : Value) : Prop where
  keep : ∀ b o, h.get? b = some o → h'.get? b = some o
  new : h.objs.size ≤ e
  obj : ∃ oe vs, h'.get? e = some oe ∧ oe.cls = .ref C ∧ oe.dict = some d ∧ oe.data = .fields vs ∧ vs[1]? = some .none
  dbig : h.objs.size ≤ d
  dne : d ≠ e
  ns : h'.Ns1 d (fun y => if y = "field" then some v else none)
theorem meth_line {o : Expr} {name : Str} {apos pos : Pos} {a : Expr} {env : Env} (h : (apos.endLine == pos.line) = true) (hf : methodCallForm 1 (backTo pos (starEach [a] env)) [] = true := by rfl) : eval (.Call (.Attribute o name apos) [a] [] pos) env = (do
      let ov ← attributeBase o name env (eval o env)
      standAt apos.atName
      let (f, first) ← holding [ov] (getMethod ov name (do return (← importBound o env).getD true))
      callWith pos f first (backTo pos (starEach [a] env)) []) := by
  have e : ∀ (ov : Value) (as : List (Bool × Sem Value)), methodCallForm 1 as [] = true → methodCall o name apos pos env ov 1 as [] = (do
      let (f, first) ← holding [ov] (getMethod ov name (do return (← importBound o env).getD true))
      callWith pos f first as []) := fun ov as hf => by
    unfold methodCall methodCallPos calleeOf
    simp only [hf, h, Bool.not_true, Bool.false_or, if_true, pure_bind]
  show (do
    let ov ← attributeBase o name env (eval o env)
    standAt apos.atName
    methodCall o name apos pos env ov 1 (backTo pos (starEach [a] env)) []) = _
  simp only [e _ _ hf]
theorem one_size (v : Value) : [v].length ≤ sizeLine := by
  rw [sizeLine_eq]
  exact (by decide : 1 ≤ 16777216)
/-- super().__init__ bound to x, called -/
theorem call_mw {prog : Program} {w : World} {A : Around} {E : Value → Shared → Prop} {h : Heap} {g : Array GenState} {d : Drawn} {t : Nat} {os : OsState} {u x C t0 : Addr} {rest : List Value} {Q : Value → Shared → Prop} {n' q : Str} {N : Addr} {bs bm : List Value} {sn : List Str} {sub : List Value} {ab : Bool} {col : Option Bool} {dd : Option Addr} {k0 k1 k2 k3 k5 : Option Value}
    (hC : h.get? C = some (excClassObj n' q C N bs bm true sn sub ab col dd k0 k1 k2 k3 k5 "ValueError.__new__")) (he : h.get? x = some (excO C t0)) (hu : h.get? u = some (kxs_mw "ValueError.__init__" x)) (hz : rest.length ≤ sizeLine)
    (hq : ∀ h' t1, (∀ b o, b ≠ x → h.get? b = some o → h'.get? b = some o) → h'.get? x = some (excO C t1) → Q .none ⟨h', g, d, t, os⟩) :
    wpAny (model prog w) A (call (.ref u) rest) Q E ⟨h, g, d, t, os⟩ := by
  have FB := F.excBase_ValueError
  refine wpAny_call (codeAny_of_tree ?_)
  show wpAny _ A.in1 (callAny (.ref u) ⟨rest, []⟩) _ _ _
  simp only [callAny]
  refine wpAny_bind (wpAny_load hu ?_)
  simp only [kxs_mw, show (Value.type "method-wrapper" == Value.type "method" || Value.type "method-wrapper" == Value.type "builtin_function_or_method" || Value.type "method-wrapper" == Value.type "method-wrapper") = true by decide, if_true]
  refine KFB.if_so (by decide) ?_
  refine wpAny_bind (check_bound_init FB.toExcCallFacts hC he rfl ?_)
  refine wpAny_bind (wpAny_pure (wpAny_pure ?_))
  refine ⟨plainId_quiet FB.init.plain _, codeAny_builtin FB.initEntry ?_⟩
  exact exc_init_tree (cls := .ref C) (t0 := t0) (dv := none) (c2 := .none) (c3 := .none) (b4 := .bool false) he hz fun h' k e' _ => hq h' h.objs.size k e'
/-- the text that super().__init__ is given -/
theorem joined_ok {M : Model} {A : Around} {E : Value → Shared → Prop} {s : Shared} {env : Env} {m : Str → Option Value} {f : Str} {tk0 : Tok} {pre : Bool} {q4 q5 q6 q7 : Pos} {Q : Value → Shared → Prop} (hn : s.heap.Ns env.locals m) (hv : m "field" = some (.str f tk0)) (hs : f.length ≤ 1000) (hk : env.scope.kind = .function) (hl : env.kindOf "field" = some .local)
    (h : ∀ v tk, Q v { s with toks := tk }) : wpAny M A (eval (.JoinedStr (iP pre q4 q5 q6) q7) env) Q E s := by
  have z0 : f.length ≤ sizeLine := by
    rw [sizeLine_eq]
    omega
  cases pre with
  | true =>
    have z1 : ((Str.empty : Str) ++ ("invalid " : Str)).length ≤ sizeLine := by
      rw [sizeLine_eq]
      decide
    have z2 : (((Str.empty : Str) ++ ("invalid " : Str)) ++ f).length ≤ sizeLine := by
      have h8 : ((Str.empty : Str) ++ ("invalid " : Str)).length ≤ 8 := by decide
      rw [sizeLine_eq, strLen_append]
      exact Nat.le_trans (Nat.add_le_add h8 hs) (by decide)
    refine JoinedStr_many (pos := q7) (joinParts_cons (Constant_str ⟨z1, joinParts_cons (FormattedValue_plain ?_)⟩))
    refine wpAny_Name (wpAny_loadName_local hk hl hn hv ?_) (by decide)
    exact formatField_str (fun t' tk => ⟨z2, joinParts_nil (h _ _) z2⟩) z0
  | false =>
    have z1 : ((Str.empty : Str) ++ f).length ≤ sizeLine := by
      have h8 : (Str.empty : Str).length ≤ 0 := by decide
      rw [sizeLine_eq, strLen_append]
      exact Nat.le_trans (Nat.add_le_add h8 hs) (by decide)
    have z2 : (((Str.empty : Str) ++ f) ++ (" out of range" : Str)).length ≤ sizeLine := by
      have h8 : (Str.empty : Str).length ≤ 0 := by decide
      have h9 : (" out of range" : Str).length ≤ 20 := by decide
      rw [sizeLine_eq, strLen_append, strLen_append]
      exact Nat.le_trans (Nat.add_le_add (Nat.add_le_add h8 hs) h9) (by decide)
    refine JoinedStr_many (pos := q7) (joinParts_cons (FormattedValue_plain ?_))
    refine wpAny_Name (wpAny_loadName_local hk hl hn hv ?_) (by decide)
    exact formatField_str (fun t' tk => ⟨z1, joinParts_cons (Constant_str ⟨z2, joinParts_nil (h _ _) z2⟩)⟩) z0
section
variable {prog : Program} {w : World} {A : Around} {E : Value → Shared → Prop} {R : Result → Shared → Prop} {s : Shared} {base : Heap} {K : Frag} {mg : Str → Option Value} {C fI : Addr} {nm : Str}
theorem exc_init (T : ExcT prog K mg nm C fI) {x t0 : Addr} {f : Str} {tk0 : Tok} (hs : f.length ≤ 1000) (MD : L2.Mod K mg base) (kb : ∀ b o, base.get? b = some o → s.heap.get? b = some o) (hx : s.heap.get? x = some (excO C t0)) (hnx : base.get? x = none) (hroom : A.depth < recursionLimit)
    (hq : ∀ h' tk dx t1, InitEnd s.heap h' x C dx t1 (.str f tk0) → R (.ok (.ret .none)) { s with heap := h', toks := tk }) :
    codeAny (model prog w) A (.call (.ref fI) ⟨[.ref x, .str f tk0], []⟩) R s := by
  obtain ⟨oc, od, qn, doc, pm, an, cda, cc, ct, osl, pre, p1, p2, q1, q2, q3, q4, q5, q6, q7, q8, q9, r1, r2, r3, r4, ho, hcd, hpos, ⟨ccl, cdd, vs, ccs, file, tf, hcda, hvs, hfile⟩, cl, cld, csl, hcc⟩ := T.fn
  obtain ⟨n', q, N, bs, bm, sn, sub, ab, col, dd, k0, k1, k2, k3, k5, hC, hbm⟩ := T.cls
  have X : K.In s.heap := MD.kin.keeps kb
  have hcl : clsIn K C = some { name := n', bases := bs, mro := .ref C :: bm, ns := N, qualname := q, hasDict := true, slotNames := sn, subclasses := sub, abstract := ab, collection := col, hasDel := false } := by unfold clsIn; rw [hC] <;> rfl
  obtain ⟨cdD, hcD⟩ : ∃ cd, clsIn K C = some cd := ⟨_, hcl⟩
  refine ks_codeAny_call_defAt (fd := ksFn "__init__" qn (iA p1 p2) (iB pre q1 q2 q3 q4 q5 q6 q7 q8 q9 r1 r2 r3 r4) iS .none .none doc pm an (.ref cda) ct cc) (body := iB pre q1 q2 q3 q4 q5 q6 q7 q8 q9 r1 r2 r3 r4) (binds := [("self", .ref x), ("field", .str f tk0)]) hroom (X _ _ ho) rfl
    (MD.nolimit.keeps kb) (codeRec_of X hcd) rfl (BindsTo.of_eq (by first | rfl | with_unfolding_all rfl)) (by show ∀ y ∈ iS.names, y.2 ≠ NameKind.cell; decide) (fun y hy => ?_) (fun h₁ hns k₁ => ?_) rfl rfl rfl
  · rcases List.mem_cons.mp hy with rfl | hy
    · rfl
    · rcases List.mem_cons.mp hy with rfl | hy
      · rfl
      · cases hy
  have X₁ : K.In h₁ := X.keeps k₁
  have kb₁ : ∀ b o, base.get? b = some o → h₁.get? b = some o := fun b o e => k₁ b o (kb b o e)
  have hx₁ := k₁ _ _ hx
  generalize hL : s.heap.objs.size = L at *
  have I₁ : InstAt h₁ x (excO C t0) C none := ⟨hx₁, rfl, rfl, trivial⟩
  show _root_.PySem.wpAt (model prog w) (A.deeper (ksEnv qn iS L fI (.ref cda) cc)) (.func (iB pre q1 q2 q3 q4 q5 q6 q7 q8 q9 r1 r2 r3 r4) (ksEnv qn iS L fI (.ref cda) cc)) (execs (iB pre q1 q2 q3 q4 q5 q6 q7 q8 q9 r1 r2 r3 r4) (ksEnv qn iS L fI (.ref cda) cc)) _ _ _
  obtain ⟨mb, hmb, hmbe⟩ := MD.blt
  obtain ⟨oD, hD1, hD2⟩ : ∃ oD, h₁.get? C = some oD ∧ oD.data = .cls cdD := by
    unfold clsIn at hcD
    split at hcD
    · rename_i c d cd' sl ho'
      cases hcD
      exact ⟨_, X₁ _ _ ho', rfl⟩
    · cases hcD
  unfold iB
  refine ks_wpAt_execs_cons ?_
  refine ks_wpAt_Expr_any ?_
  refine ks_wpAt_MethodCall (he := meth_line hpos) ?_
  refine ks_wpAt_super_base (env := ksEnv qn iS L fI (.ref cda) cc) rfl rfl (by decide) rfl (X₁ _ _ ho) rfl rfl rfl (X₁ _ _ hcda) rfl hvs hfile T.top ?_
  refine ks_loadName_global rfl rfl (loadGlobal_builtin (env := ksEnv qn iS L fI (.ref cda) cc) (MD.glob.keeps kb₁) T.noS (hmb.keeps kb₁) ((hmbe "super" (by decide)).trans (b := bootBuiltins "super") (c := some (.type "super")) (by decide +kernel)) ⟨rfl, ?_⟩)
  refine wpAny_loadName_free rfl rfl rfl ⟨_, X₁ _ _ hcc, rfl⟩ ?_
  refine wpAny_loadName_local rfl rfl hns (v := .ref x) rfl ?_
  refine ks_wpAny_isType_cls hD1 hD2 ⟨rfl, ?_⟩
  refine ks_wpAny_call_super hD1 hD2 hx₁ rfl (fun c e => by cases e) (looks_mroIn X₁ T.mro) (fun h₂ e₂ k₂ => ?_)
  generalize hso : h₁.objs.size = so at *
  have X₂ : K.In h₂ := X₁.keeps k₂
  have hx₂ := k₂ _ _ hx₁
  have I₂ : InstAt h₂ x (excO C t0) C none := ⟨hx₂, rfl, rfl, trivial⟩
  have hsup := T.sup
  unfold ks_superIn at hsup
  rw [hcl] at hsup
  refine kxs_getMethod kxs_ValueError e₂ (looks_opaque X₂ T.tp) (l₀ := Value.ref C :: bm) (fun A Q E s k q => wpAny_bind ((looks_clsIn X₂ hcl) A _ E s k (wpAny_pure q))) rfl X₂ hsup (I₂.type.andThen (looks_subIn X₂ T.veC)) (ks_ne X₂ I₂ hcl) (by decide) ?_
  have k₃ : ∀ b o, h₂.get? b = some o → (h₂.push (kxs_mw "ValueError.__init__" x)).get? b = some o := fun b o e => Heap.get?_push_of_some _ e
  have hm₃ : (h₂.push (kxs_mw "ValueError.__init__" x)).get? h₂.objs.size = some (kxs_mw "ValueError.__init__" x) := Heap.get?_push_at rfl rfl
  generalize hu : h₂.objs.size = u at *
  generalize h₂.push (kxs_mw "ValueError.__init__" x) = h₃ at *
  have X₃ : K.In h₃ := X₂.keeps k₃
  have hx₃ := k₃ _ _ hx₂
  have hns₃ : h₃.Ns L _ := hns.keeps fun b o e => k₃ _ _ (k₂ _ _ e)
  dsimp only
  rw [show starEach [Expr.JoinedStr (iP pre q4 q5 q6) q7] (ksEnv qn iS L fI (.ref cda) cc) = (false, eval (Expr.JoinedStr (iP pre q4 q5 q6) q7) (ksEnv qn iS L fI (.ref cda) cc)) :: starEach [] (ksEnv qn iS L fI (.ref cda) cc) from rfl]
  refine kxs_callWith (i := "ValueError.__init__") (x := x) rfl ?_
  refine evalArgs_plain ?_
  refine spliced_cons (joined_ok (q7 := q7) hns₃ rfl hs rfl rfl fun v tk => spliced_nil ⟨hm₃, ?_⟩)
  refine call_mw (X₃ _ _ hC) hx₃ hm₃ (one_size _) fun h₄ t1 k₄ hx₄ => ?_
  have X₄ : K.In h₄ := fun a o e => k₄ a o (fun q => by
    subst q
    have := MD.kin _ _ e
    rw [hnx] at this
    cases this) (X₃ a o e)
  have Lx : L ≠ x := fun e => by
    refine absurd (Heap.lt_size hx) ?_
    rw [hL, e]
    exact Nat.lt_irrefl _
  have hns₄ : h₄.Ns L (fun y => List.lookup y [(("self" : Str), Value.ref x), (("field" : Str), Value.str f tk0)].reverse) := by
    obtain ⟨oL, es, ep, e, r⟩ := hns₃
    exact ⟨oL, es, ep, k₄ _ _ Lx e, r⟩
  refine wpAt_of_wpAny ?_
  refine wpAny_execs_cons (plainObj_wpAny_Assign_Attribute ?_)
  refine wpAny_Name (wpAny_loadName_local rfl rfl hns₄ (v := .str f tk0) rfl ?_) (by decide)
  refine wpAny_Name (wpAny_loadName_local rfl rfl hns₄ (v := .ref x) rfl ?_) (by decide)
  refine set_plain X₄ (ox := excO C t1) (od := none) ⟨hx₄, rfl, rfl, trivial⟩ T.sa ?_
  refine exc_osa X₄ hx₄ hcl (show refsVE (.ref C :: bm) = true from hbm) rfl T.noN (fun h₅ tk₅ dx k₅ dn dne hx₅ hn₅ => ?_)
  have sz : s.heap.objs.size ≤ h₄.objs.size := by
    rw [hL]
    exact Nat.le_of_lt hns₄.lt
  refine wpAny_execs_nil (hq h₅ tk₅ dx t1 ⟨fun b o hb e => k₅ b o hb (k₄ b o hb (k₃ _ _ (k₂ _ _ (k₁ b o e)))), hx₅, Nat.le_trans sz dn, dne, hn₅⟩)
theorem exc_made (T : ExcT prog K mg nm C fI) {f : Str} {tk0 : Tok} (hs : f.length ≤ 1000) (MD : L2.Mod K mg base) (kb : ∀ b o, base.get? b = some o → s.heap.get? b = some o) (bz : base.objs.size ≤ s.heap.objs.size) (hroom : A.depth + 1 < recursionLimit)
    (hq : ∀ h' tk e d, OwnMade s.heap h' e C d (.str f tk0) → R (.ok (.ret (.ref e))) { s with heap := h', toks := tk }) :
    codeAny (model prog w) A (.call (.ref C) ⟨[.str f tk0], []⟩) R s := by
  obtain ⟨n', q, N, bs, bm, sn, sub, ab, col, dd, k0, k1, k2, k3, k5, hC, hbm⟩ := T.cls
  have X : K.In s.heap := MD.kin.keeps kb
  obtain ⟨hp, g, dr, tk, os⟩ := s
  have k : ∀ b o, hp.get? b = some o → ((hp.push (kdv_tup [.str f tk0])).push (excO C hp.objs.size)).get? b = some o := fun b o e => Heap.get?_push_of_some _ (Heap.get?_push_of_some _ e)
  have hget : ((hp.push (kdv_tup [.str f tk0])).push (excO C hp.objs.size)).get? (hp.objs.size + 1) = some (excO C hp.objs.size) := by heap_get
  have hnx : base.get? (hp.objs.size + 1) = none := by
    cases e : base.get? (hp.objs.size + 1) with
    | none => rfl
    | some o => exact absurd (Nat.lt_of_lt_of_le (Heap.lt_size e) bz) (Nat.not_lt.mpr (Nat.le_succ _))
  refine call_own F.excBase_ValueError (fun X => refsVE_contains X bm hbm) (X _ _ hC) (looks_findIn X T.iC) (fun self => bind_fn X self T.tC) (one_size _) ?_
  refine exc_init (s := ⟨(hp.push (kdv_tup [.str f tk0])).push (excO C hp.objs.size), g, dr, tk, os⟩) T hs MD (fun b o e => k b o (kb b o e)) hget hnx ?_ fun h' tk' dx t1 ⟨k', hx, dn, dne, hns⟩ => ?_
  · show A.depth + 1 < recursionLimit
    exact hroom
  · have old : ∀ b o, hp.get? b = some o → h'.get? b = some o := fun b o e => k' b o (Nat.ne_of_lt (Nat.lt_succ_of_lt (Heap.lt_size e))) (k b o e)
    have z : hp.objs.size + 1 + 1 ≤ dx := by
      first
        | (simpa only [Heap.size_push] using dn)
        | exact dn
        | (have q := dn; rw [Heap.size_push, Heap.size_push] at q; exact q)
    exact ⟨rfl, hq h' tk' (hp.objs.size + 1) dx ⟨old, Nat.le_succ _, ⟨_, _, hx, rfl, rfl, rfl, rfl⟩, Nat.le_trans (Nat.le_trans (Nat.le_succ _) (Nat.le_succ _)) z, dne, hns⟩⟩
end
end DLX
end PySem
namespace L2
open PySem PySem.Spec PyProof.Rows
theorem relO_field {v : V} {v' : Value} (r : RelV v v') (f : Str) : RelO (List.lookup f [(("field" : Str), v)]) (if f = "field" then some v' else none) := by
  by_cases hw : f = "field"
  · subst hw
    rw [if_pos rfl]
    have q : List.lookup ("field" : Str) [(("field" : Str), v)] = some v := by simp [List.lookup]
    rw [q]
    exact r
  · rw [if_neg hw]
    have qw : (f == ("field" : Str)) = false := by simpa using hw
    have q2 : List.lookup f [(("field" : Str), v)] = none := by simp [List.lookup, qw]
    rw [q2]
    trivial
section
variable {X : Cx} {C fI : Addr} {nm : Str}
/-- C(e) -/
def tMkX (C : Addr) (ta : TA) : St → Hp → XK → Prop := fun σ H Q => ta σ H fun vs H1 => ∃ f : Str, vs = [.str f] ∧ f.length ≤ 1000 ∧ ∀ d, H1 d = none → Q (.ref C) (some d) (upd H1 d (.xd [(("field" : Str), .str f)]))
theorem pmk_x {a : Expr} {ta : TA} {p pos : Pos} {k : Nat} (T : PySem.DLX.ExcT X.prog X.K X.mg nm C fI) (hr : Room (k + 1) X.A) (ha : PA X [a] ta) (hg : Gl X nm) (hdb : (nm == ("__debug__" : Str)) = false := by decide)
    (he : starEach (a :: []) X.env = (false, eval a X.env) :: starEach [] X.env := by rfl) (hpl : (backTo pos (starEach [] X.env)).any (·.1) = false := by rfl) :
    PMk X (.Call (.Name nm p) [a] [] pos) (tMkX C ta) := by
  intro pins s σ H Q I h
  refine wpAny_Call_Name_kw (ld_glob I hg T.gC ?_ hdb)
  refine PySem.W.callWith_K (h₀ := X.base) I.ok.mod.kin T.kC (thn (ha.run pos pins s σ H _ I h) fun us s1 hh => ?_) he hpl
  obtain ⟨vs, H1, I1, r1, f, ev, hz, q1⟩ := hh
  subst ev
  refine ⟨I1.kIn, ?_⟩
  cases r1 with
  | cons rv rn =>
    rename_i v' us'
    cases rn
    obtain ⟨tk0, rfl⟩ := rv
    show wpAny _ _ (call (.ref C) [.str f tk0]) _ _ _
    have bz : X.base.objs.size ≤ s1.heap.objs.size := Nat.le_trans I1.ok.bsz I1.sz
    have bk := I1.bk
    obtain ⟨hp, g, dr, tk, os⟩ := s1
    refine wpAny_call (PySem.DLX.exc_made T hz I1.ok.mod bk bz (by have := hr.dp; omega) fun h' tk' e d M => ?_)
    show MkP X pins σ Q (.ref e) ⟨h', g, dr, tk', os⟩
    obtain ⟨oe, fv, hoe, hc, hd, hdat, h1⟩ := M.obj
    have hns := M.ns
    obtain ⟨G', g1, g2⟩ := restrict h' fun b => decide (b ≠ e)
    have gk : ∀ b, b ≠ e → G'.get? b = h'.get? b := fun b hb => g1 b (decide_eq_true hb)
    have ge : G'.get? e = none := g2 e (by simp)
    have old : ∀ b o, hp.get? b = some o → G'.get? b = some o := fun b o q => (gk b (Nat.ne_of_lt (Nat.lt_of_lt_of_le (Heap.lt_size q) M.new))).trans (M.keep b o q)
    have ob : ObjOk X.prog X.w (upd H1 d (.xd [(("field" : Str), .str f)])) G' d (.xd [(("field" : Str), .str f)]) :=
      ⟨_, hns.at (fun o q => (gk d M.dne).trans q), fun g => relO_field (v := .str f) ⟨tk0, rfl⟩ g⟩
    have J : Inv X pins σ (upd H1 d (.xd [(("field" : Str), .str f)])) ⟨G', g, dr, tk', os⟩ := I1.laid (t' := tk') old M.dbig ob
    refine ⟨e, oe, fv, ⟨G', g, dr, tk', os⟩, _, .ref C, some d, rfl, J, fun b o q => ?_, ge, hoe, ⟨hc, hd⟩, hdat, h1, ?_, rfl, I1.bare, raises_own T.exC T.tyC, q1 d (I1.hok.fresh M.dbig)⟩
    · by_cases hb : b = e
      · have q' : G'.get? b = some o := q
        rw [hb, ge] at q'; cases q'
      · exact (gk b hb).symm.trans q
    · rw [upd_ne (Ne.symm M.dne)]
      exact I1.hok.fresh M.new
/-- raise C(e) -/
def tRaiseX (C : Addr) (W : WX) (ta : TA) : TS := fun _ σ H => tMkX C ta σ H fun cls d H' => W cls d σ H'
theorem ps_raiseX {a : Expr} {ta : TA} {W : WX} {p pos pos2 : Pos} {k : Nat} (hc : X.calm = true) (T : PySem.DLX.ExcT X.prog X.K X.mg nm C fI) (hr : Room (k + 1) X.A) (tk : Takes X W) (ha : PA X [a] ta) (hg : Gl X nm) (hdb : (nm == ("__debug__" : Str)) = false := by decide)
    (he : starEach (a :: []) X.env = (false, eval a X.env) :: starEach [] X.env := by rfl) (hpl : (backTo pos (starEach [] X.env)).any (·.1) = false := by rfl) :
    PS X (.Raise (some (.Call (.Name nm p) [a] [] pos)) none pos2) (tRaiseX C W ta) := ps_raise hc tk (pmk_x T hr ha hg hdb he hpl)
theorem xfC_of (T : PySem.DLX.ExcT X.prog X.K X.mg nm C fI) : XfC X.K C := ⟨T.ga, T.gg, T.exC, T.hdC⟩
end
end L2

/-! ### the layer -/
namespace DL
open PySem L2
def xdF (f : Str) : HO := .xd [(("field" : Str), V.str f)]
/-- where an exception of the class at c with its field f leaves -/
def GoodX (F G : Hp) (E : XK) (c : Addr) (f : Str) : Prop := ∀ dd G' H', Same F H' → Same G' H' → (∀ a o, F a = some o → G' a = none) → Same G G' → H' dd = some (xdF f) → F dd = none → G' dd = none → E (.ref c) (some dd) H'
def SEvX (K : PySem.W.Frag) (t : TS) (E : XK) (es : List Sl) (c : Addr) (f : Str) : Prop := ∀ F G H σ D, Stt K F G H σ es → GoodX F G E c f → t D σ H
def SMX (K : PySem.W.Frag) (t : TS) (E : XK) (es : List Sl) (c : Addr) (m : Option Str) : Prop := ∀ f, m = some f → SEvX K t E es c f
theorem GoodX.up {F G G1 : Hp} {E : XK} {c : Addr} {f : Str} (h : GoodX F G E c f) (g : Same G G1) : GoodX F G1 E c f := fun dd G' H' a b d e u v w => h dd G' H' a b d (g.trans e) u v w
section
variable {K : PySem.W.Frag} {E : XK} {es fs : List Sl} {c : Addr} {t u tz : TS} {m p q : Option Str} {te : TE} {d : Dt} {tt : TT}
theorem smx_none : SMX K t E es c none := fun f e => by cases e
theorem smx_bind {α : Type} {m1 : Option α} {f : α → Option Str} (h : ∀ x, m1 = some x → SMX K t E es c (f x)) : SMX K t E es c (m1.bind f) := fun r e => by
  cases q : m1 with
  | none => rw [q] at e; cases e
  | some x =>
    rw [q] at e
    exact h x q r e
theorem smx_lt {α : Type} {e : α} {f : α → Option Str} (h : ∀ x, e = x → SMX K t E es c (f x)) : SMX K t E es c (lt e f) := h e rfl
theorem smx_one (h : SMX K (tSeq t tNext) E es c m) : SMX K t E es c m := h
theorem smx_as {v : TS} (h : SMX K (tSeq t (tSeq u v)) E es c m) : SMX K (tSeq (tSeq t u) v) E es c m := h
theorem smx_nil (h : SMX K tz E es c m) : SMX K (tSeq tNext tz) E es c m := h
theorem smx_wk {gs : List Sl} (w : Wk es gs) (h : SMX K t E gs c m) : SMX K t E es c m := fun r e F G H σ D s q => h r e F G H σ D (s.wk w) q
theorem smx_asg {i : Nat} (h : Ev K te es d) (k : SMX K tz E (es.set i (.d d)) c m) : SMX K (tSeq (tAsg te (gName i)) tz) E es c m := fun r e F G H σ D s q =>
  h F G H σ s _ fun v G1 H1 s1 g1 r1 => k r e F G1 H1 _ D (s1.set r1) (q.up g1)
theorem smx_if {b : Bool} (h : EvT K tt es b) (h1 : b = true → SMX K (tSeq t tz) E es c p) (h2 : b = false → SMX K (tSeq u tz) E es c q) : SMX K (tSeq (tIfS tt t u) tz) E es c (if b = true then p else q) := fun r e F G H σ D s k =>
  h F G H σ s _ fun G1 H1 s1 g1 => by
    cases b with
    | true =>
      show t _ σ H1
      exact h1 rfl r e F G1 H1 σ D s1 (k.up g1)
    | false =>
      show u _ σ H1
      exact h2 rfl r e F G1 H1 σ D s1 (k.up g1)
theorem smx_raise {ta : TA} {f : Str} (ha : EvA K ta es [.str f]) (hz : f.length ≤ 1000) : SMX K (tSeq (tRaiseX c (fun cls d _ H => E cls d H) ta) tz) E es c (some f) := fun r e F G H σ D s q => by
  cases e
  refine ha F G H σ s _ fun vs G1 H1 s1 g1 r1 => ?_
  cases r1 with
  | cons rv rn =>
    cases rn
    cases rv
    refine ⟨f, rfl, hz, fun dd hd => ?_⟩
    have fd := s1.fnone hd
    have gd := s1.gnone hd
    exact q dd G1 _ (s1.f.trans (same_upd hd)) (s1.g.trans (same_upd hd)) s1.dj g1 upd_same fd gd
end
/-- the promise of a def that raises -/
def FSpecX (K : PySem.W.Frag) (R : List Sl → Addr → Str → Prop) : Sp := fun vs H _ E => ∃ F G ss c f, Stt K F G H (vs.map some) ss ∧ R ss c f ∧ GoodX F G E c f
def XD (P : List Dt → Addr → Str → Prop) : List Sl → Addr → Str → Prop := fun ss c f => ∃ ds, ss = ds.map .d ∧ P ds c f
def XI (C : Addr) (P : List Dt → Addr → Str → Prop) : List Sl → Addr → Str → Prop := fun ss c f => ∃ p ds, ss = .obo (some p) C [] :: ds.map .d ∧ P ds c f
def spOr (a b : Sp) : Sp := fun vs H Q E => a vs H Q E ∨ b vs H Q E
section
variable {P : Program} {w : World} {K : PySem.W.Frag} {mg : Str → Option Value} {base : Heap}
theorem fn_or {f : Addr} {fd : FuncData} {ps : List Str} {j k : Nat} {a b : Sp} (F1 : FnOk P w K mg base CX0 j f fd ps a) (F2 : FnOk P w K mg base (L2.CX P w) k f fd ps b) : FnOk P w K mg base (L2.CX P w) (max j k) f fd ps (spOr a b) :=
  ⟨fun vs H Q E h => h.elim (F1.len vs H Q E) (F2.len vs H Q E), fun A outer s H args us vs Q E hr he hb hv hs => hs.elim
    (fun h => codeAny_mono (F1.run A outer s H args us vs Q E (hr.mono (Nat.le_max_left ..)) he hb hv h) fun r s' q => by
      cases r with
      | ok fl => cases fl <;> exact q
      | error e => exact False.elim q)
    (fun h => F2.run A outer s H args us vs Q E (hr.mono (Nat.le_max_right ..)) he hb hv h)⟩
theorem fnx_D {x qual : Str} {st : Stmt} {f : Addr} {fd : FuncData} {N ps : List Str} {k : Nat} {R : List Dt → Addr → Str → Prop} (F : Fun K x qual st f fd) (S : FnScope N ps (defScope st)) (hl : ∀ ds c g, R ds c g → ds.length = ps.length)
    (body : ∀ (cdv : Value) (A : Around) (outer : List Env) (s : Shared) (H : Hp) (E : XK), Room k (A.deeper (PyProof.Rows.envOfC qual (defScope st) s.heap.objs.size f cdv)) →
      ∃ t, PSs (cxOf (L2.CX P w) P w K mg base N qual (defScope st) f cdv A outer s H E) (defBody st) t ∧ ∀ ds c g, R ds c g → SEvX K t E (ds.map .d ++ List.replicate (N.length - ps.length) .un) c g) :
    FnOk P w K mg base (L2.CX P w) (k + 1) f fd ps (FSpecX K (XD R)) := by
  refine F.okX S (fun vs H Q E h => ?_) (fun cdv A outer s H vs Q E hr h => ?_)
  · obtain ⟨F, G, ss, c, g, s, ⟨ds, rfl, hR⟩, _⟩ := h
    have := s.len
    rw [List.length_map, List.length_map, hl ds c g hR] at this
    exact this
  · obtain ⟨t, ht, hb⟩ := body cdv A outer s H E hr
    refine ⟨t, ht, ?_⟩
    obtain ⟨F1, G, ss, c, g, st1, ⟨ds, rfl, hR⟩, q⟩ := h
    exact hb ds c g hR F1 G H _ _ (stt_start st1 (by rw [List.length_map, hl ds c g hR])) q
theorem fnx_I {x qual : Str} {st : Stmt} {f : Addr} {fd : FuncData} {N ps : List Str} {k : Nat} {C : Addr} {R : List Dt → Addr → Str → Prop} (F : Fun K x qual st f fd) (S : FnScope N ps (defScope st)) (hl : ∀ ds c g, R ds c g → ds.length + 1 = ps.length)
    (body : ∀ (cdv : Value) (A : Around) (outer : List Env) (s : Shared) (H : Hp) (E : XK), Room k (A.deeper (PyProof.Rows.envOfC qual (defScope st) s.heap.objs.size f cdv)) →
      ∃ t, PSs (cxOf (L2.CX P w) P w K mg base N qual (defScope st) f cdv A outer s H E) (defBody st) t ∧ ∀ p ds c g, R ds c g → SEvX K t E (.obo (some p) C [] :: ds.map .d ++ List.replicate (N.length - ps.length) .un) c g) :
    FnOk P w K mg base (L2.CX P w) (k + 1) f fd ps (FSpecX K (XI C R)) := by
  refine F.okX S (fun vs H Q E h => ?_) (fun cdv A outer s H vs Q E hr h => ?_)
  · obtain ⟨F, G, ss, c, g, s, ⟨p, ds, rfl, hR⟩, _⟩ := h
    have := s.len
    rw [List.length_map, List.length_cons, List.length_map, hl ds c g hR] at this
    exact this
  · obtain ⟨t, ht, hb⟩ := body cdv A outer s H E hr
    refine ⟨t, ht, ?_⟩
    obtain ⟨F1, G, ss, c, g, st1, ⟨p, ds, rfl, hR⟩, q⟩ := h
    exact hb p ds c g hR F1 G H _ _ (stt_start st1 (by rw [List.length_cons, List.length_map, hl ds c g hR])) q
end

/-! ### calls that may raise -/
/-- a call raises: c with its field f -/
def XvE (K : PySem.W.Frag) (tc : (L2.St → XK) → TE) (es : List Sl) (c : Addr) (f : Str) : Prop := ∀ F G H σ, Stt K F G H σ es → ∀ (Q : VK) (E : L2.St → XK),
  (∀ dd G' H', Stt K F G' H' σ es → Same G G' → H' dd = some (xdF f) → F dd = none → G' dd = none → E σ (.ref c) (some dd) H') → tc E σ H Q
section
variable {K : PySem.W.Frag} {es : List Sl} {ta tk : TA} {ds ks ds' : List Dt} {d : Dt} {c : Addr} {f : Str} {R : List Dt → Addr → Str → Prop} {sp2 : Sp}
theorem ev_callX {P : List Dt → Dt → Prop} {E : L2.St → XK} (ha : EvA K ta es ds) (hP : P ds d) : Ev K (tCallS (spOr (FSpec K (RD P)) sp2) E ta) es d := fun F G H σ s Q q =>
  ha F G H σ s _ fun vs G1 H1 s1 g1 r1 => .inl ⟨DL.rem G1 H1, G1, ds.map .d, d, ds.map .d, stt_data s1.rem.1 s1.g s1.rem.2 r1, ⟨_, rfl, rfl, hP⟩, fun v G2 H2 s2 g2 r2 =>
    q v G2 H2 (s1.after s2.f s2.g s2.dj g2) (g1.trans g2) r2⟩
theorem xv_call {a : Sp} (ha : EvA K ta es ds) (hP : R ds c f) : XvE K (fun E => tCallS (spOr a (FSpecX K (XD R))) E ta) es c f := fun F G H σ s Q E q =>
  ha F G H σ s _ fun vs G1 H1 s1 g1 r1 => .inr ⟨DL.rem G1 H1, G1, ds.map .d, c, f, stt_data s1.rem.1 s1.g s1.rem.2 r1, ⟨_, rfl, hP⟩, fun dd G2 H2 a1 a2 a3 a4 a5 a6 a7 => by
    have s2 := s1.after a1 a2 a3 a4
    refine q dd G2 H2 s2 (g1.trans a4) a5 ?_ a7
    cases q : F dd with
    | none => rfl
    | some o =>
      have h1 := s1.f dd o q
      have g0 := s1.dj dd o q
      rw [DL.rem_of g0, h1] at a6
      cases a6⟩
/-- f(e, .., k = v, ..) -/
def tCallNS (n m : Nat) (sp : Sp) (gV : List V → List V → List V) (E : L2.St → XK) (t tk : TA) : TE := fun σ H Q => t σ H fun vs H1 => tk σ H1 fun zs H2 => vs.length = n ∧ zs.length = m ∧ sp (gV vs zs) H2 Q (E σ)
theorem tCallNS_perm {n m : Nat} {sp : Sp} {fV : List V → List V → List V} {E : L2.St → XK} : tCallS sp E (tPermA n m fV ta tk) = tCallNS n m sp fV E ta tk := by
  funext σ H Q
  unfold tCallS tCallNS tPermA
  rfl
theorem ev_callNX {P : List Dt → Dt → Prop} {n m : Nat} {fV : List V → List V → List V} {E : L2.St → XK} (ha : EvA K ta es ds) (hk : EvA K tk es ks) (hn : ds.length = n) (hm : ks.length = m)
    (hf : ∀ G vs zs, Reps K G vs ds → Reps K G zs ks → Reps K G (fV vs zs) ds') (hP : P ds' d) : Ev K (tCallNS n m (spOr (FSpec K (RD P)) sp2) fV E ta tk) es d := by
  rw [← tCallNS_perm]
  exact ev_callX (ea_perm ha hk hn hm hf) hP
theorem xv_callN {a : Sp} {n m : Nat} {fV : List V → List V → List V} (ha : EvA K ta es ds) (hk : EvA K tk es ks) (hn : ds.length = n) (hm : ks.length = m)
    (hf : ∀ G vs zs, Reps K G vs ds → Reps K G zs ks → Reps K G (fV vs zs) ds') (hP : R ds' c f) : XvE K (fun E => tCallNS n m (spOr a (FSpecX K (XD R))) fV E ta tk) es c f := by
  have h := xv_call (a := a) (ea_perm ha hk hn hm hf) hP
  intro F G H σ s Q E q
  exact h F G H σ s Q E q
/-- C(e, ..) -/
def tMakeS (C : Addr) (sp : Sp) (E : L2.St → XK) (t : TA) : TE := fun σ H Q => t σ H fun vs H1 => ∀ x dx, H1 x = none → H1 dx = none → dx ≠ x →
  sp (.ref x :: vs) (upd (upd H1 dx (.own x)) x (.ins C dx [])) (fun v H2 => v = .non ∧ Q (.ref x) H2) (E σ)
theorem ev_makeX {P : List Dt → List (Str × Dt) → Prop} {C : Addr} {fs : List (Str × Dt)} {E : L2.St → XK} (ha : EvA K ta es ds) (hP : P ds fs) : Ev K (tMakeS C (spOr (FSpec K (RI C P)) sp2) E ta) es (.obj C fs) := fun F G H σ s Q q =>
  ha F G H σ s _ fun vs G1 H1 s1 g1 r1 x dx hx hdx ne => by
    have hx1 : upd H1 dx (.own x) x = none := by
      rw [upd_ne (fun z => ne z.symm)]
      exact hx
    have s2 : Stt K F G1 (upd (upd H1 dx (.own x)) x (.ins C dx [])) σ es := (s1.lay hdx).lay hx1
    have gx : G1 x = none := s1.gnone hx
    have rx : ∀ a o, a ≠ x → DL.rem G1 (upd (upd H1 dx (.own x)) x (.ins C dx [])) a = some o → DL.rem G1 (upd (upd H1 dx (.own x)) x (.ins C dx [])) a = some o := fun _ _ _ e => e
    -- what is another's: all but the known and the new one
    refine .inl ⟨fun a => if a = x then none else DL.rem G1 (upd (upd H1 dx (.own x)) x (.ins C dx [])) a, G1, .obo (some x) C [] :: ds.map .d, .non, .obo (some x) C fs :: ds.map .d, ?_, ⟨x, _, fs, rfl, rfl, rfl, hP⟩, ?_⟩
    · have base : Stt K (fun a => if a = x then none else DL.rem G1 (upd (upd H1 dx (.own x)) x (.ins C dx [])) a) G1 (upd (upd H1 dx (.own x)) x (.ins C dx [])) (vs.map some) (ds.map .d) := by
        refine stt_data (fun a o e => ?_) s2.g (fun a o e => ?_) r1
        · by_cases q : a = x
          · rw [if_pos q] at e; cases e
          · rw [if_neg q] at e; exact (DL.rem_some e).1
        · by_cases q : a = x
          · rw [if_pos q] at e; cases e
          · rw [if_neg q] at e; exact (DL.rem_some e).2
      refine ⟨base.f, base.g, base.dj, by rw [List.map_cons, List.length_cons, List.length_cons, base.len], fun i t e => ?_, fun i j t u nij ei ej hi hj => ?_⟩
      · cases i with
        | zero =>
          cases e
          exact ⟨_, rfl, x, dx, [], rfl, gx, if_pos rfl, upd_same, .nil, fun q e => (Option.some.inj e).symm⟩
        | succ i => exact base.sl i t e
      · cases i with
        | zero =>
          cases j with
          | zero => exact absurd rfl nij
          | succ j =>
            have ej' : (ds.map Sl.d)[j]? = some u := ej
            rw [List.getElem?_map] at ej'
            cases q : ds[j]? with
            | none => rw [q] at ej'; cases ej'
            | some d => rw [q] at ej'; cases ej'; cases hj
        | succ i =>
          have ei' : (ds.map Sl.d)[i]? = some t := ei
          rw [List.getElem?_map] at ei'
          cases q : ds[i]? with
          | none => rw [q] at ei'; cases ei'
          | some d => rw [q] at ei'; cases ei'; cases hi
    · intro v G2 H2 s3 g3 r3
      cases r3
      obtain ⟨o, ho, p, dx', fv, eo, gp, fp, hp, rf, an⟩ := s3.sl 0 _ rfl
      cases ho
      cases eo
      refine ⟨rfl, ?_⟩
      have gx2 : Same G2 (upd G2 x (.ins C dx' fv)) := same_upd gp
      have s4 : Stt K F (upd G2 x (.ins C dx' fv)) H2 σ es := by
        have keep : ∀ a o, H1 a = some o → G1 a = none → H2 a = some o ∧ G2 a = none := fun a o e g => by
          have ax : a ≠ x := fun z => by subst z; rw [hx] at e; cases e
          have adx : a ≠ dx := fun z => by subst z; rw [hdx] at e; cases e
          have fa : (if a = x then none else DL.rem G1 (upd (upd H1 dx (.own x)) x (.ins C dx [])) a) = some o := by
            rw [if_neg ax, DL.rem_of g, upd_ne ax, upd_ne adx]
            exact e
          exact ⟨s3.f a o fa, s3.dj a o fa⟩
        have nex : ∀ a o, H1 a = some o → a ≠ x := fun a o e z => by subst z; rw [hx] at e; cases e
        refine s1.after (H' := H2) (G' := upd G2 x (.ins C dx' fv)) (fun a o e => (keep a o (DL.rem_some e).1 (DL.rem_some e).2).1) (fun a o e => ?_) (fun a o e => ?_) (g3.trans gx2)
        · by_cases q : a = x
          · subst q
            rw [upd_same] at e
            cases e
            exact hp
          · rw [upd_ne q] at e
            exact s3.g a o e
        · rw [upd_ne (nex a o (DL.rem_some e).1)]
          exact (keep a o (DL.rem_some e).1 (DL.rem_some e).2).2
      exact q _ _ H2 s4 (g1.trans (g3.trans gx2)) (.obj upd_same (rf.mono gx2))
theorem xv_make {a : Sp} {C : Addr} (ha : EvA K ta es ds) (hP : R ds c f) : XvE K (fun E => tMakeS C (spOr a (FSpecX K (XI C R))) E ta) es c f := fun F G H σ s Q E q =>
  ha F G H σ s _ fun vs G1 H1 s1 g1 r1 x dx hx hdx ne => by
    have hx1 : upd H1 dx (.own x) x = none := by
      rw [upd_ne (fun z => ne z.symm)]
      exact hx
    have s2 : Stt K F G1 (upd (upd H1 dx (.own x)) x (.ins C dx [])) σ es := (s1.lay hdx).lay hx1
    have gx : G1 x = none := s1.gnone hx
    have rx : ∀ a o, a ≠ x → DL.rem G1 (upd (upd H1 dx (.own x)) x (.ins C dx [])) a = some o → DL.rem G1 (upd (upd H1 dx (.own x)) x (.ins C dx [])) a = some o := fun _ _ _ e => e
    -- what is another's: all but the known and the new one
    refine .inr ⟨fun a => if a = x then none else DL.rem G1 (upd (upd H1 dx (.own x)) x (.ins C dx [])) a, G1, .obo (some x) C [] :: ds.map .d, c, f, ?_, ⟨x, _, rfl, hP⟩, ?_⟩
    · have base : Stt K (fun a => if a = x then none else DL.rem G1 (upd (upd H1 dx (.own x)) x (.ins C dx [])) a) G1 (upd (upd H1 dx (.own x)) x (.ins C dx [])) (vs.map some) (ds.map .d) := by
        refine stt_data (fun a o e => ?_) s2.g (fun a o e => ?_) r1
        · by_cases q : a = x
          · rw [if_pos q] at e; cases e
          · rw [if_neg q] at e; exact (DL.rem_some e).1
        · by_cases q : a = x
          · rw [if_pos q] at e; cases e
          · rw [if_neg q] at e; exact (DL.rem_some e).2
      refine ⟨base.f, base.g, base.dj, by rw [List.map_cons, List.length_cons, List.length_cons, base.len], fun i t e => ?_, fun i j t u nij ei ej hi hj => ?_⟩
      · cases i with
        | zero =>
          cases e
          exact ⟨_, rfl, x, dx, [], rfl, gx, if_pos rfl, upd_same, .nil, fun q e => (Option.some.inj e).symm⟩
        | succ i => exact base.sl i t e
      · cases i with
        | zero =>
          cases j with
          | zero => exact absurd rfl nij
          | succ j =>
            have ej' : (ds.map Sl.d)[j]? = some u := ej
            rw [List.getElem?_map] at ej'
            cases q : ds[j]? with
            | none => rw [q] at ej'; cases ej'
            | some d => rw [q] at ej'; cases ej'; cases hj
        | succ i =>
          have ei' : (ds.map Sl.d)[i]? = some t := ei
          rw [List.getElem?_map] at ei'
          cases q : ds[i]? with
          | none => rw [q] at ei'; cases ei'
          | some d => rw [q] at ei'; cases ei'; cases hi
    · intro dd G2 H2 a1 a2 a3 a4 a5 a6 a7
      have keep : ∀ a o, H1 a = some o → G1 a = none → (if a = x then none else DL.rem G1 (upd (upd H1 dx (.own x)) x (.ins C dx [])) a) = some o := fun a o e g => by
        have ax : a ≠ x := fun z => by subst z; rw [hx] at e; cases e
        have adx : a ≠ dx := fun z => by subst z; rw [hdx] at e; cases e
        rw [if_neg ax, DL.rem_of g, upd_ne ax, upd_ne adx]
        exact e
      refine q dd G2 H2 (s1.after (fun a o e => a1 a o (keep a o (DL.rem_some e).1 (DL.rem_some e).2)) a2 (fun a o e => a3 a o (keep a o (DL.rem_some e).1 (DL.rem_some e).2)) a4) (g1.trans a4) a5 ?_ a7
      cases hq : F dd with
      | none => rfl
      | some o =>
        have := keep dd o (s1.f dd o hq) (s1.dj dd o hq)
        have a6' : (if dd = x then none else DL.rem G1 (upd (upd H1 dx (.own x)) x (.ins C dx [])) dd) = none := a6
        rw [this] at a6'
        cases a6'
end
end DL
namespace L2
open PySem PySem.Spec PyProof.Rows DL
section
variable {X : Cx} {CX : CXT} {k n : Nat} {f C : Addr} {fd : FuncData} {ps ks : List Str} {sp : Sp} {E : St → XK} {x : Str} {p pos : Pos} {e : Expr} {es : List Expr} {kws : List Keyword} {t tk : TA} {g : List Value → List Value → List Value} {gV : List V → List V → List V}
theorem run_fnNS {pins : List (Addr × Obj)} {σ : St} {H : Hp} {s : Shared} {Q : VK} {us ws : List Value} {vs zs : List V} (F : FnOk X.prog X.w X.K X.mg X.base CX k f fd ps sp) (hr : Room k X.A) (hb : KBn X.K fd ps n ks g gV) (hx : PassesAt CX X σ (E σ))
    (I : Inv X pins σ H s) (r : Vals vs us) (rz : Vals zs ws) (l1 : vs.length = n) (l2 : zs.length = ks.length) (h : sp (gV vs zs) H Q (E σ)) : wpAny (model X.prog X.w) X.A (call (.ref f) us (ks.zip ws)) (EP X pins σ Q) X.xe s := by
  have r2 := hb.rel r rz
  refine wpAny_call (codeAny_mono (F.run X.A X.stack s H ⟨us, ks.zip ws⟩ (g us ws) (gV vs zs) Q (E σ) hr I.env0 (hb.to s us ws I.kIn (r.length.symm.trans l1) (rz.length.symm.trans l2)) r2 h) fun r s' hq => ?_)
  cases r with
  | error e => exact hx pins H s e s' I hq
  | ok fl =>
    cases fl with
    | ret u => exact I.after hq
    | next => exact False.elim hq
    | brk => exact False.elim hq
    | cont => exact False.elim hq
/-- f(e, .., k = v, ..), where what is raised is wished for at the caller's slots -/
theorem pe_callNS (F : FnOk X.prog X.w X.K X.mg X.base CX k f fd ps sp) (hr : Room k X.A) (hg : Gl X x) (hm : X.mg x = some (.ref f)) (hk : PySem.W.keepIn X.K (.ref f) = true) (hb : KBn X.K fd ps n ks g gV) (hx : ∀ σ, PassesAt CX X σ (E σ))
    (ha : PA X (e :: es) t) (hkw : PK X kws tk) (hall : (backToKw pos (keywordEach kws X.env)).all (·.1.isSome) = true := by rfl) (hks : (backToKw pos (keywordEach kws X.env)).filterMap (·.1) = ks := by rfl)
    (hdb : (x == ("__debug__" : Str)) = false := by decide) (he : starEach (e :: es) X.env = (false, eval e X.env) :: starEach es X.env := by rfl)
    (hpl : ((backTo pos (starEach (e :: es) X.env)).any (·.1) || (backToKw pos (keywordEach kws X.env)).any (·.1.isNone)) = false := by rfl) :
    PE X (.Call (.Name x p) (e :: es) kws pos) (tCallNS n ks.length sp gV E t tk) := by
  refine ⟨fun pins s σ H Q I h => ?_⟩
  refine wpAny_Call_Name_kw (ld_glob I hg hm ?_ hdb)
  refine PySem.W.callWith_KW (h₀ := X.base) I.ok.mod.kin hk hall (thn (ha.run pos pins s σ H _ I h) fun us s1 ⟨vs, H1, I1, r, q⟩ => ?_) hpl he
  refine thn (hkw.run pos pins s1 σ H1 _ I1 q) fun ws s2 ⟨zs, H2, I2, rz, l1, l2, q2⟩ => ⟨I2.kIn, ?_⟩
  rw [hks]
  exact run_fnNS F hr hb (hx σ) I2 r rz l1 l2 q2
theorem run_makeS {pins : List (Addr × Obj)} {σ : St} {H : Hp} {s : Shared} {Q : VK} {us : List Value} {vs : List V} (M : Mk X.K C f) (F : FnOk X.prog X.w X.K X.mg X.base CX k f fd ps sp) (hr : Room (k + 1) X.A) (hb : Binds X.K fd ps [])
    (hx : PassesAt CX X σ (E σ)) (I : Inv X pins σ H s) (r : Vals vs us)
    (h : ∀ x dx, H x = none → H dx = none → dx ≠ x → sp (.ref x :: vs) (upd (upd H dx (.own x)) x (.ins C dx [])) (fun v H2 => v = .non ∧ Q (.ref x) H2) (E σ)) :
    wpAny (model X.prog X.w) X.A (call (.ref C) us) (EP X pins σ Q) X.xe s := by
  have hq := h (s.heap.objs.size + 1) s.heap.objs.size (I.hok.fresh (Nat.le_succ _)) (I.hok.fresh (Nat.le_refl _)) (Nat.ne_of_lt (Nat.lt_succ_self _))
  have I2 := Inv.made (C := C) I
  have r2 : Vals (V.ref (s.heap.objs.size + 1) :: vs) (Value.ref (s.heap.objs.size + 1) :: us) := .cons rfl r
  have hl : (Value.ref (s.heap.objs.size + 1) :: us).length = ps.length := by
    have e := r2.length
    rw [F.len _ _ _ _ hq] at e
    exact e.symm
  have b := hb { s with heap := _ } (Value.ref (s.heap.objs.size + 1) :: us) I2.kIn (by rw [List.append_nil]; exact hl)
  rw [List.append_nil] at b
  refine wpAny_call (make_map (f := f) I.kIn M.makes M.init (beq_iff_eq.mp M.fn) (codeAny_mono (F.run _ X.stack _ _ ⟨Value.ref (s.heap.objs.size + 1) :: us, []⟩ (Value.ref (s.heap.objs.size + 1) :: us) _ _ (E σ) (hr.make C us [])
    (I2.env0.make C us []) b r2 hq) fun r s' hq' => ?_))
  cases r with
  | error e => exact hx pins _ _ e s' I2 hq'
  | ok fl =>
    cases fl with
    | ret u =>
      obtain ⟨v, H', I3, rv, ev, q3⟩ := I2.after hq'
      subst ev
      exact ⟨rv, ⟨V.ref (s.heap.objs.size + 1), H', I3, rfl, q3⟩⟩
    | next => exact False.elim hq'
    | brk => exact False.elim hq'
    | cont => exact False.elim hq'
theorem pe_makeS (M : Mk X.K C f) (F : FnOk X.prog X.w X.K X.mg X.base CX k f fd ps sp) (hr : Room (k + 1) X.A) (hg : Gl X x) (hm : X.mg x = some (.ref C)) (hb : Binds X.K fd ps []) (hx : ∀ σ, PassesAt CX X σ (E σ))
    (ha : PA X (e :: es) t) (hdb : (x == ("__debug__" : Str)) = false := by decide) (he : starEach (e :: es) X.env = (false, eval e X.env) :: starEach es X.env := by rfl) (hpl : (backTo pos (starEach es X.env)).any (·.1) = false := by rfl) :
    PE X (.Call (.Name x p) (e :: es) [] pos) (tMakeS C sp E t) := by
  refine ⟨fun pins s σ H Q I h => ?_⟩
  refine wpAny_Call_Name_kw (ld_glob I hg hm ?_ hdb)
  refine PySem.W.callWith_K (h₀ := X.base) I.ok.mod.kin M.kp (thn (ha.run pos pins s σ H _ I h) fun us s1 ⟨vs, H1, I1, r, q⟩ => ⟨I1.kIn, ?_⟩) he hpl
  exact run_makeS M F hr hb (hx σ) I1 r q
end
end L2
namespace DL
open PySem L2
/-! ### except suites -/
section
variable {K : PySem.W.Frag} {F G H : Hp} {σ : L2.St} {es : List Sl} {dd : Addr} {f : Str}
/-- the exception's dict is held -/
theorem Stt.hold (s : Stt K F G H σ es) (h : H dd = some (xdF f)) (hg : G dd = none) (hf : F dd = none) : Stt K (upd F dd (xdF f)) G H σ es where
  f := fun a o e => by
    by_cases q : a = dd
    · subst q
      rw [upd_same] at e
      cases e
      exact h
    · rw [upd_ne q] at e
      exact s.f a o e
  g := s.g
  dj := fun a o e => by
    by_cases q : a = dd
    · subst q
      exact hg
    · rw [upd_ne q] at e
      exact s.dj a o e
  len := s.len
  sl := fun i t e => by
    obtain ⟨x, hx, k⟩ := s.sl i t e
    refine ⟨x, hx, ?_⟩
    cases t with
    | un => trivial
    | d x => exact k
    | own a xs =>
      obtain ⟨p, vs, e1, e2, e3, e4, e5, e6⟩ := k
      refine ⟨p, vs, e1, e2, ?_, e4, e5, e6⟩
      rw [upd_ne fun q => by rw [q, h] at e4; cases e4]
      exact e3
    | obo a C fs =>
      obtain ⟨p, dx, vs, e1, e2, e3, e4, e5, e6⟩ := k
      refine ⟨p, dx, vs, e1, e2, ?_, e4, e5, e6⟩
      rw [upd_ne fun q => by rw [q, h] at e4; cases e4]
      exact e3
  ow := s.ow
/-- let go -/
theorem Stt.loose {o : HO} (s : Stt K (upd F dd o) G H σ es) (hf : F dd = none) : Stt K F G H σ es where
  f := fun a u e => s.f a u (by rw [upd_ne (ne_of_none e hf)]; exact e)
  g := s.g
  dj := fun a u e => s.dj a u (by rw [upd_ne (ne_of_none e hf)]; exact e)
  len := s.len
  sl := fun i t e => by
    obtain ⟨x, hx, k⟩ := s.sl i t e
    exact ⟨x, hx, k.grow (Same.refl _) (fun q u _ _ e => e) fun q g _ h => ⟨g, (upd_none h).2⟩⟩
  ow := s.ow
theorem Stt.undo (s : Stt K F G H σ es) (i : Nat) (x : Option V) : Stt K F G H (σ.set i x) (es.set i .un) where
  f := s.f
  g := s.g
  dj := s.dj
  len := by rw [List.length_set, List.length_set]; exact s.len
  sl := fun j t e => by
    by_cases q : i = j
    · subst q
      have hl : i < es.length := by
        have := (List.getElem?_eq_some_iff.mp e).1
        rwa [List.length_set] at this
      rw [List.getElem?_set_self hl] at e
      cases e
      exact ⟨x, List.getElem?_set_self (by rw [s.len]; exact hl), trivial⟩
    · rw [List.getElem?_set_ne q] at e ⊢
      exact s.sl j t e
  ow := fun j k t u nj ej ek hj hk => by
    have out : ∀ (j : Nat) z, (es.set i .un)[j]? = some z → z.isOwn = true → i ≠ j ∧ es[j]? = some z := fun j z e h => by
      by_cases q : i = j
      · subst q
        have hl : i < es.length := by
          have := (List.getElem?_eq_some_iff.mp e).1
          rwa [List.length_set] at this
        rw [List.getElem?_set_self hl] at e
        cases e
        cases h
      · rw [List.getElem?_set_ne q] at e
        exact ⟨q, e⟩
    obtain ⟨a1, a2⟩ := out j t ej hj
    obtain ⟨b1, b2⟩ := out k u ek hk
    rw [List.getElem?_set_ne a1, List.getElem?_set_ne b1]
    exact s.ow j k t u nj a2 b2 hj hk
end
/-- within an except suite: the exception at a in slot i, its dict at dd -/
def Hld (F : Hp) (σ : L2.St) (a dd : Addr) (i : Nat) (f : Str) : Prop := F dd = some (xdF f) ∧ σ[i]? = some (some (.ref a))
def EvH (K : PySem.W.Frag) (a dd : Addr) (i : Nat) (f : Str) (te : TE) (es : List Sl) (d : Dt) : Prop := ∀ F G H σ, Stt K F G H σ es → Hld F σ a dd i f → ∀ Q : VK, (∀ v G' H', Stt K F G' H' σ es → Same G G' → Rep K G' v d → Q v H') → te σ H Q
def SMH {ρ : Type} (K : PySem.W.Frag) (a dd : Addr) (i : Nat) (f : Str) (t : TS) (es : List Sl) (m : Option ρ) (oc : ρ → Res) : Prop := ∀ r, m = some r → ∀ F G H σ D, Stt K F G H σ es → Hld F σ a dd i f → Good K F G D (oc r) → t D σ H
section
variable {K : PySem.W.Frag} {a dd c : Addr} {i : Nat} {f : Str} {te ta tb : TE} {es fs : List Sl} {d x y z : Dt} {ρ : Type} {m p q : Option ρ} {oc : ρ → Res} {t u tz : TS}
theorem evh_of (h : Ev K te es d) : EvH K a dd i f te es d := fun F G H σ s _ Q q => h F G H σ s Q q
theorem evh_fld : EvH K a dd i f (tXf a (.ref c) (some dd) c "field" (tVar i)) es (.str f) := fun F G H σ s h Q q =>
  ⟨_, h.2, rfl, rfl, dd, _, .str f, rfl, s.f _ _ h.1, by rfl, q _ G H s (Same.refl _) (.str f)⟩
theorem evh_op {r : R2} (ha : EvH K a dd i f ta es x) (hb : EvH K a dd i f tb es y) (hr : R2D K r x y z) : EvH K a dd i f (tOp r ta tb) es z := fun F G H σ s h Q q =>
  ha F G H σ s h _ fun x G1 H1 s1 g1 r1 => hb F G1 H1 σ s1 h _ fun y G2 H2 s2 g2 r2 => hr F G2 H2 σ es x y s2 (r1.mono g2) r2 Q fun v G3 H3 s3 g3 r3 => q v G3 H3 s3 (g1.trans (g2.trans g3)) r3
theorem evh_eqS {g h : Str} (ha : EvH K a dd i f ta es (.str g)) (hb : EvH K a dd i f tb es (.str h)) : EvH K a dd i f (tOp rEq ta tb) es (.bl (decide (g = h))) := by
  have e : decide (g = h) = decide (fl (.str g) = fl (.str h)) := dec_congr ⟨fun e => by rw [e], fun e => by cases e; rfl⟩
  rw [e]
  exact evh_op ha hb (r2_eq rfl rfl rfl)
theorem evh_neS {g h : Str} (ha : EvH K a dd i f ta es (.str g)) (hb : EvH K a dd i f tb es (.str h)) : EvH K a dd i f (tOp rNe ta tb) es (.bl (!decide (g = h))) := by
  have e : decide (g = h) = decide (fl (.str g) = fl (.str h)) := dec_congr ⟨fun e => by rw [e], fun e => by cases e; rfl⟩
  rw [e]
  exact evh_op ha hb (r2_ne rfl rfl rfl)
theorem smh_of (h : SM K t es m oc) : SMH K a dd i f t es m oc := fun r e F G H σ D s _ q => h r e F G H σ D s q
theorem smh_one (h : SMH K a dd i f (tSeq t tNext) es m oc) : SMH K a dd i f t es m oc := h
theorem smh_ret {r : ρ} (h : EvH K a dd i f te es d) (w : Wk es fs) (e : oc r = .rt d fs) : SMH K a dd i f (tSeq (tRet te) tz) es (some r) oc := fun r' e' F G H σ D s hh q => by
  cases e'
  rw [e] at q
  exact h F G H σ s hh _ fun v G1 H1 s1 g1 r1 => q v G1 H1 σ (s1.wk w) g1 r1
theorem smh_if {b : Bool} (h : EvH K a dd i f te es (.bl b)) (h1 : b = true → SMH K a dd i f (tSeq t tz) es p oc) (h2 : b = false → SMH K a dd i f (tSeq u tz) es q oc) : SMH K a dd i f (tSeq (tIfS (tB te) t u) tz) es (if b = true then p else q) oc := fun r e F G H σ D s hh k =>
  h F G H σ s hh _ fun v G1 H1 s1 g1 r1 => by
    cases r1
    refine ⟨b, rfl, ?_⟩
    cases b with
    | true =>
      show t _ σ H1
      exact h1 rfl r e F G1 H1 σ D s1 hh (k.up g1)
    | false =>
      show u _ σ H1
      exact h2 rfl r e F G1 H1 σ D s1 hh (k.up g1)
end
def tryX {ρ : Type} (x : Option Str) (h : Str → Option ρ) (m : Option ρ) : Option ρ := match x with
  | some f => h f
  | none => m
section
variable {K : PySem.W.Frag} {ta tb : TE} {es : List Sl}
theorem fl_dO {i j : Option Int} : fl (dO Dt.int i) = fl (dO Dt.int j) ↔ i = j := by
  constructor
  · intro h
    cases i with
    | none => cases j with
      | none => rfl
      | some y => exact V.noConfusion (show V.non = V.int y from h)
    | some x => cases j with
      | none => exact V.noConfusion (show V.int x = V.non from h)
      | some y => exact congrArg some (V.int.inj (show V.int x = V.int y from h))
  · intro h
    rw [h]
theorem scal_dO {i j : Option Int} : scal (fl (dO Dt.int i)) (fl (dO Dt.int j)) = true := by
  cases i <;> cases j <;> rfl
theorem isFl_dO {i : Option Int} : isFl (dO Dt.int i) = true := by
  cases i <;> rfl
theorem ev_eqOI {i j : Option Int} (ha : Ev K ta es (dO Dt.int i)) (hb : Ev K tb es (dO Dt.int j)) : Ev K (tOp rEq ta tb) es (.bl (decide (i = j))) := by
  have h := ev_op ha hb (r2_eq (K := K) scal_dO isFl_dO isFl_dO)
  rwa [dec_congr fl_dO] at h
theorem ev_neOI {i j : Option Int} (ha : Ev K ta es (dO Dt.int i)) (hb : Ev K tb es (dO Dt.int j)) : Ev K (tOp rNe ta tb) es (.bl (!decide (i = j))) := by
  have h := ev_op ha hb (r2_ne (K := K) scal_dO isFl_dO isFl_dO)
  rwa [dec_congr fl_dO] at h
end
/-- try: call; rest / except C as e: suite; the exception's slot is i -/
theorem sm_try {ρ : Type} {K : PySem.W.Frag} {es : List Sl} {tc : (L2.St → XK) → TE} {rest : TS} {ts : Addr → Value → Option Addr → TS} {c : Addr} {i : Nat} {x : Option Str} {m : Option ρ} {hm : Str → Option ρ} {oc : ρ → Res}
    (he : PySem.W.exmOne K (.ref c) (.ref c) = some true) (hu : ∃ z, es[i]? = some z ∧ z = .un)
    (hx : ∀ f, x = some f → XvE K tc es c f) (hn : x = none → ∀ E, SM K (tSeq (tDrop (tc E)) rest) es m oc)
    (hh : ∀ a dd f, SMH K a dd i f (ts a (.ref c) (some dd)) es (hm f) oc)
    (ho : ∀ r fs, oc r = .nx fs → fs[i]? = some .un) (hno : ∀ r, (∃ fs, oc r = .nx fs) ∨ ∃ d fs, oc r = .rt d fs) :
    SM K (fun D σ H => (fun W => tSeq (tDrop (tc (WE W))) rest) (wAs K (.ref c) i ts (fun _ _ _ _ => False) D) D σ H) es (tryX x hm m) oc := fun r e F G H σ D s q => by
  obtain ⟨z, hz, rfl⟩ := hu
  cases x with
  | none => exact hn rfl _ r e F G H σ D s q
  | some f =>
    have e : hm f = some r := e
    refine hx f rfl F G H σ s _ _ fun dd G' H' s1 g1 h1 f1 n1 => ?_
    refine ⟨true, he, fun _ a ha => ?_, fun z => by cases z⟩
    have hi : i < σ.length := by rw [s.len]; exact (List.getElem?_eq_some_iff.mp hz).1
    have es' : es.set i .un = es := List.ext_getElem? fun k => by
      by_cases q : i = k
      · subst q
        rw [List.getElem?_set_self (List.getElem?_eq_some_iff.mp hz).1, hz]
      · rw [List.getElem?_set_ne q]
    have s2 : Stt K (upd F dd (xdF f)) G' H' (σ.set i (some (.ref a))) es := by
      have := (s1.hold h1 n1 f1).undo i (some (.ref a))
      rw [es'] at this
      exact this
    refine hh a dd f r e _ G' H' _ _ s2 ⟨upd_same, List.getElem?_set_self hi⟩ ?_
    rcases hno r with ⟨fs, w⟩ | ⟨d, fs, w⟩
    · have wi := ho r fs w
      rw [w] at q ⊢
      intro G2 H2 σ2 s3 g2
      refine q G2 H2 (σ2.set i none) ?_ (g1.trans g2)
      have := (s3.loose f1).undo i none
      have e3 : fs.set i .un = fs := List.ext_getElem? fun k => by
        by_cases q : i = k
        · subst q
          rw [List.getElem?_set_self (List.getElem?_eq_some_iff.mp wi).1, wi]
        · rw [List.getElem?_set_ne q]
      rw [e3] at this
      exact this
    · rw [w] at q ⊢
      intro v G2 H2 σ2 s3 g2 r2
      exact q v G2 H2 σ2 (s3.loose f1) (g1.trans g2) r2
end DL
namespace L2
open PySem PySem.Spec PyProof.Rows DL
theorem smx_run {K : PySem.W.Frag} {t : TS} {E : XK} {es : List Sl} {c : Addr} {m : Option Str} {g : Str} (h : m = some g) (k : SMX K t E es c m) : SEvX K t E es c g := k g h
theorem exm_self {K : PySem.W.Frag} {S : Addr} (h1 : PySem.W.subIn K (.ref S) (.type "BaseException") = some true) (h2 : PySem.W.isClsIn K S = true) (h3 : PySem.W.typeIn K (.ref S) = some (.type "type")) (h4 : PySem.W.subIn K (.ref S) (.ref S) = some true) :
    PySem.W.exmOne K (.ref S) (.ref S) = some true := by
  have e1 : (PySem.W.subIn K (.ref S) (.type "BaseException") == some true) = true := by rw [h1] <;> rfl
  have e2 : ((PySem.W.clsIn K S).isSome && PySem.W.typeIn K (.ref S) == some (.type "type")) = true := by
    have h2' : (PySem.W.clsIn K S).isSome = true := h2
    rw [h2', h3] <;> rfl
  show (if (PySem.W.subIn K (.ref S) (.type "BaseException") == some true) = true then (if ((PySem.W.clsIn K S).isSome && PySem.W.typeIn K (.ref S) == some (.type "type")) = true then PySem.W.subIn K (.ref S) (.ref S) else none) else none) = some true
  rw [if_pos e1, if_pos e2]
  exact h4
section
variable {X : Cx} {k n : Nat} {f C : Addr} {fd : FuncData} {ps ks : List Str} {sp : Sp} {x nm : Str} {p pos : Pos} {e : Expr} {es : List Expr} {kws : List Keyword} {t tk : TA} {g : List Value → List Value → List Value} {gV : List V → List V → List V}
theorem sm_tryF {R : Type} {K : PySem.W.Frag} {es : List Sl} {tc : (L2.St → XK) → TE} {rest : TS} {ts : Addr → Value → Option Addr → TS} {c : Addr} {i : Nat} {x : Option Str} {m : Option (Fl Unit R)} {hm : Str → Option (Fl Unit R)} {env : Unit → List Sl} {ed : R → Dt} {ee : R → List Sl}
    (he : PySem.W.exmOne K (.ref c) (.ref c) = some true) (hu : es[i]? = some .un) (he2 : (env ())[i]? = some .un) (hx : ∀ f, x = some f → XvE K tc es c f) (hn : x = none → ∀ E, SM K (tSeq (tDrop (tc E)) rest) es m (loopRes env ed ee))
    (hh : ∀ a dd f, SMH K a dd i f (ts a (.ref c) (some dd)) es (hm f) (loopRes env ed ee)) :
    SM K (fun D σ H => (fun W => tSeq (tDrop (tc (WE W))) rest) (wAs K (.ref c) i ts (fun _ _ _ _ => False) D) D σ H) es (tryX x hm m) (loopRes env ed ee) :=
  sm_try he ⟨_, hu, rfl⟩ hx hn hh (fun r fs h => by
    cases r with
    | nx s => cases h; exact he2
    | bk s => cases h; exact he2
    | rt r => cases h) (fun r => by
    cases r with
    | nx s => exact .inl ⟨_, rfl⟩
    | bk s => exact .inl ⟨_, rfl⟩
    | rt r => exact .inr ⟨_, _, rfl⟩)
/-- a call that may raise, in a def that lets it out -/
theorem smx_callS {K : PySem.W.Frag} {E : XK} {es : List Sl} {c : Addr} {sp : Sp} {ta : TA} {E' : L2.St → XK} {tz : TS} {x m : Option Str} (hE : E' = fun _ => E) (hx : ∀ f, x = some f → XvE K (fun E => tCallS sp E ta) es c f) (hn : x = none → SMX K (tSeq (tDrop (tCallS sp E' ta)) tz) E es c m) :
    SMX K (tSeq (tDrop (tCallS sp E' ta)) tz) E es c (tryX x some m) := fun f e F G H σ D s q => by
  cases x with
  | none => exact hn rfl f e F G H σ D s q
  | some g =>
    have e : some g = some f := e
    cases e
    subst hE
    exact hx _ rfl F G H σ s _ (fun _ => E) fun dd G' H' s' g' h1 f1 n1 => q dd G' H' s'.f s'.g s'.dj g' h1 f1 n1
theorem smx_drop {K : PySem.W.Frag} {E : XK} {es : List Sl} {c : Addr} {te : TE} {d : Dt} {tz : TS} {m : Option Str} (h : Ev K te es d) (k : SMX K tz E es c m) : SMX K (tSeq (tDrop te) tz) E es c m := fun r e F G H σ D s q =>
  h F G H σ s _ fun v G1 H1 s1 g1 r1 => k r e F G1 H1 _ D s1 (q.up g1)
/-- the call of a try's body -/
def PBody (X : Cx) (call : Expr) (tc : (St → XK) → TE) : Prop := ∀ (W : WX) (pn : List (Addr × Obj)) (xe : Value → Shared → Prop), Takes (X.tr pn xe) W → PE (X.tr pn xe) call (tc (WE W))
theorem pb_call (F : FnOk X.prog X.w X.K X.mg X.base (L2.CX X.prog X.w) k f fd ps sp) (hr : Room k X.A) (hg : Gl X x) (hm : X.mg x = some (.ref f)) (hk : PySem.W.keepIn X.K (.ref f) = true) (hb : Binds X.K fd ps [])
    (ha : ∀ pn xe, PA (X.tr pn xe) (e :: es) t) (hdb : (x == ("__debug__" : Str)) = false := by decide) (he : starEach (e :: es) X.env = (false, eval e X.env) :: starEach es X.env := by rfl) (hpl : (backTo pos (starEach es X.env)).any (·.1) = false := by rfl) :
    PBody X (.Call (.Name x p) (e :: es) [] pos) (fun E => tCallS sp E t) := fun W pn xe tk => pe_callS (X := X.tr pn xe) F hr hg hm hk hb (fun σ => passAt tk σ) (ha pn xe) hdb he hpl
theorem pb_callN (F : FnOk X.prog X.w X.K X.mg X.base (L2.CX X.prog X.w) k f fd ps sp) (hr : Room k X.A) (hg : Gl X x) (hm : X.mg x = some (.ref f)) (hk : PySem.W.keepIn X.K (.ref f) = true) (hb : KBn X.K fd ps n ks g gV)
    (ha : ∀ pn xe, PA (X.tr pn xe) (e :: es) t) (hkw : ∀ pn xe, PK (X.tr pn xe) kws tk) (hall : (backToKw pos (keywordEach kws X.env)).all (·.1.isSome) = true := by rfl) (hks : (backToKw pos (keywordEach kws X.env)).filterMap (·.1) = ks := by rfl)
    (hdb : (x == ("__debug__" : Str)) = false := by decide) (he : starEach (e :: es) X.env = (false, eval e X.env) :: starEach es X.env := by rfl)
    (hpl : ((backTo pos (starEach (e :: es) X.env)).any (·.1) || (backToKw pos (keywordEach kws X.env)).any (·.1.isNone)) = false := by rfl) :
    PBody X (.Call (.Name x p) (e :: es) kws pos) (fun E => tCallNS n ks.length sp gV E t tk) := fun W pn xe tk' => pe_callNS (X := X.tr pn xe) F hr hg hm hk hb (fun σ => passAt tk' σ) (ha pn xe) (hkw pn xe) hall hks hdb he hpl
theorem pb_make (M : Mk X.K C f) (F : FnOk X.prog X.w X.K X.mg X.base (L2.CX X.prog X.w) k f fd ps sp) (hr : Room (k + 1) X.A) (hg : Gl X x) (hm : X.mg x = some (.ref C)) (hb : Binds X.K fd ps [])
    (ha : ∀ pn xe, PA (X.tr pn xe) (e :: es) t) (hdb : (x == ("__debug__" : Str)) = false := by decide) (he : starEach (e :: es) X.env = (false, eval e X.env) :: starEach es X.env := by rfl) (hpl : (backTo pos (starEach es X.env)).any (·.1) = false := by rfl) :
    PBody X (.Call (.Name x p) (e :: es) [] pos) (fun E => tMakeS C sp E t) := fun W pn xe tk => pe_makeS (X := X.tr pn xe) M F hr hg hm hb (fun σ => passAt tk σ) (ha pn xe) hdb he hpl
/-- an except suite -/
def PHand (X : Cx) (body : List Stmt) (ts : Addr → Value → Option Addr → TS) : Prop := ∀ (a : Addr) (oe : Obj) (cls : Value) (d : Option Addr) (pn : List (Addr × Obj)), Zc cls d oe → (∃ vs, oe.data = .fields vs) → PSs (X.suite a ((a, oe) :: pn)) body (ts a cls d)
variable {fI : Addr} {i : Nat} {eo : Expr} {p2 p3 p4 p5 : Pos} {s0 : Str} {te : TE} {rest : List Stmt} {kk : Nat}
/-- return e.field -/
theorem ph_ret (T : PySem.DLX.ExcT X.prog X.K X.mg nm C fI) (he : ∀ a pn, PE (X.suite a pn) eo (tVar i)) (hb : attributeBase eo "field" X.env (eval eo X.env) = eval eo X.env := by rfl) :
    PHand X [.Return (some (.Attribute eo "field" p)) p2] (fun a cls d => tSeq (tRet (tXf a cls d C "field" (tVar i))) tNext) := fun a oe cls d pn hz hf =>
  pss_cons (ps_ret (pe_xf (xfC_of T) T.noN hz hf (he _ _) hb)) pss_nil
/-- return e.field == '..' -/
theorem ph_retEq (T : PySem.DLX.ExcT X.prog X.K X.mg nm C fI) (he : ∀ a pn, PE (X.suite a pn) eo (tVar i)) (hb : attributeBase eo "field" X.env (eval eo X.env) = eval eo X.env := by rfl) :
    PHand X [.Return (some (.Compare (.Attribute eo "field" p) [.Eq] [.Constant (.str s0) kk p3] p4)) p2] (fun a cls d => tSeq (tRet (tOp rEq (tXf a cls d C "field" (tVar i)) (tC (.str s0)))) tNext) := fun a oe cls d pn hz hf =>
  pss_cons (ps_ret (pe_cmpR op_eq (pe_xf (xfC_of T) T.noN hz hf (he _ _) hb) pe_str (nomark _))) pss_nil
/-- if e.field != '..': return .. -/
theorem ph_ifNe (T : PySem.DLX.ExcT X.prog X.K X.mg nm C fI) (he : ∀ a pn, PE (X.suite a pn) eo (tVar i)) (hrt : ∀ a pn, PSs (X.suite a pn) rest t') (hb : attributeBase eo "field" X.env (eval eo X.env) = eval eo X.env := by rfl) :
    PHand X [.If (.Compare (.Attribute eo "field" p) [.NotEq] [.Constant (.str s0) kk p3] p4) rest [] p2] (fun a cls d => tSeq (tIfS (tB (tOp rNe (tXf a cls d C "field" (tVar i)) (tC (.str s0)))) t' tNext) tNext) := fun a oe cls d pn hz hf =>
  pss_cons (ps_if (pt_cmpR op_ne (pe_xf (xfC_of T) T.noN hz hf (he _ _) hb) pe_str (nomark _)) (hrt _ _) pss_nil) pss_nil
variable {b₀ : Stmt} {suite : List Stmt} {np pos' pos2 pos3 : Pos} {call : Expr} {tc : (St → XK) → TE} {ts : Addr → Value → Option Addr → TS} {trest : TS} {y : Str}
/-- try: call; rest / except C as e: suite -/
theorem ps_try (T : PySem.DLX.ExcT X.prog X.K X.mg nm C fI) (hs : X.stack = X.env :: X.outer) (hf : X.env.frame = some X.env.locals) (hN : X.N.Nodup) (hi : X.N[i]? = some y) (hln : X.env.kindOf y = some .local) (hg : Gl X nm) (hdb : (nm == ("__debug__" : Str)) = false)
    (hb : PBody X call tc) (hr : ∀ pn xe, PSs (X.tr pn xe) rest trest) (hh : PHand X (b₀ :: suite) ts) (hsw : ∀ pn xe, swapsWith call none pos3.line (X.tr pn xe).env = pure false := by intro _ _; rfl) :
    PS X (.Try (.Expr call pos3 :: rest) [.ExceptHandler (some (.Name nm np)) (some y) (b₀ :: suite) pos'] [] [] pos) (fun D σ H => (fun W => tSeq (tDrop (tc (WE W))) trest) (wAs X.K (.ref C) i ts (fun _ _ _ _ => False) D) D σ H) :=
  ps_try_as hs hf hN hi hln ⟨hg, hdb, .inl T.gC⟩ takes0 (fun W pn xe tk _ => pss_cons (ps_expr (hb W pn xe tk) (hsw pn xe)) (hr pn xe)) hh
end
end L2

/-! Dl11: comprehensions of several clauses -/
namespace DL
open PySem PySem.Spec PyProof.Rows L2
/-- what a clause does with the list at D, up to N -/
abbrev BD := L2.St → Hp → Addr → (Hp → Prop) → Prop
def bElt (tt : TT) (te : TE) : BD := fun σ H D N => tt σ H fun b H1 => if b = true then te σ H1 fun y H2 => ∃ acc, H2 D = some (.lst acc) ∧ acc.length < sizeLine ∧ N (upd H2 D (.lst (acc ++ [y]))) else N H1
def bLoop (J : It) (g : TG) (vs : List Nat) (b : BD) : BD := fun σ H D N => ∃ W : Nat → Nat → Hp → Prop, (∃ m, W 0 m H) ∧ ∀ i m H1, W i m H1 →
  (J.stop i H1 ∧ N H1) ∨ (J.go i H1 ∧ ∃ N1 : Hp → Prop, (∀ H', N1 H' → ∃ m', m' < m ∧ W (i + 1) m' H') ∧ ∀ x H', J.yld i H1 x H' → g x (L2.wipe σ vs) H' fun σ2 H2 => L2.wipe σ2 vs = L2.wipe σ vs ∧ b σ2 H2 D N1)
def bFor (tt : TT) (wi : TI) (g : TG) (vs : List Nat) (b : BD) : BD := fun σ H D N => tt σ H fun c H1 => if c = true then wi σ H1 fun J H2 => bLoop J g vs b σ H2 D N else N H1
def tCmp (wi : TI) (g : TG) (vs : List Nat) (b : BD) : TE := fun σ H Q => wi σ H fun J H1 => ∀ D, H1 D = none → bLoop J g vs b σ (upd H1 D (.lst [])) D fun H2 => Q (.ref D) H2
abbrev NoX : Value → Shared → Prop := fun _ _ => False
abbrev BP := (Shared → Prop) → Shared → Prop
section
variable (M : Model) (A : Around) (env : Env)
def ifsK (ifs : List Expr) (k : Bool → Shared → Prop) (s : Shared) : Prop :=
  wpAny M A (forIn ifs true fun c r => if r = true then do let ok ← isTrue c env (eval c env); pure (ForInStep.yield ok) else pure (ForInStep.yield r)) k NoX s
def bpElt (ifs : List Expr) (elt : Expr) (acc : Value) : BP := fun P => ifsK M A env ifs fun ok s3 => if ok = true then wpAny M A (eval elt env) (fun x s4 => wpAny M A (call (.builtin "list.append") [acc, x]) (fun _ s5 => P s5) NoX s4) NoX s3 else P s3
def bpFor (ifs : List Expr) (i1 : Expr) (acc : Value) (e : Expr) (k1 : Nat) : BP := fun P => ifsK M A env ifs fun ok s3 => if ok = true then wpAny M A (eval i1 env) (fun x s4 => wpAny M A (pyIter x) (fun it s5 =>
  codeAny M A (.compStart e k1 it acc env) (fun r s' => match r with | .ok _ => P s' | .error _ => False) s5) NoX s4) NoX s3 else P s3
/-- a clause's loop, by what its turns keep -/
def LoopR (e : Expr) (k : Nat) (t : Expr) (acc : Value) (B : BP) : Prop := ∀ (it : Value) (R : Result → Shared → Prop) (I : Nat → Shared → Prop),
  (∀ n s, I n s → wpAny M A (pyNext it) (fun r s1 => match r with
    | none => R (.ok .next) s1
    | some v => wpAny M A (letOwnedTupleGo t it v) (fun _ s2 => wpAny M A (assign t env v) (fun _ s3 => B (fun s' => ∃ m, m < n ∧ I m s') s3) NoX s2) NoX s1) NoX s) →
  ∀ n s, I n s → codeAny M A (.compLoop e k it acc env) R s
def StartR (e : Expr) (k : Nat) (acc : Value) : Prop := ∀ (it : Value) (R : Result → Shared → Prop) (s : Shared), codeAny M A (.compLoop e k it acc env) R s →
  wpAny M A (pyIter it) (fun it' s' => codeAny M A (.compLoop e k it' acc env) R s') NoX s → codeAny M A (.compStart e k it acc env) R s
end
section
variable {prog : Program} {w : World} {A : Around} {env : Env} {t elt i1 : Expr} {gs : List Comprehension} {scope : Scope} {pos : Pos} {k k1 : Nat} {ifs : List Expr} {acc : Value} {p p1 : Pos}
theorem noX {α : Type} {M : Model} {m : Sem α} {Q Q' : α → Shared → Prop} {E : Value → Shared → Prop} {s : Shared} (h : wpAny M A m Q NoX s) (hq : ∀ a s', Q a s' → Q' a s') : wpAny M A m Q' E s := wpAny_mono h hq fun _ _ z => z.elim
theorem loop_elt (hq : ∀ it, compTurn (.ListComp elt gs scope pos) k it acc env = (do
      standAt p
      match ← pyNext it with
      | none => pure (.done .next)
      | some v =>
        letOwnedTupleGo t it v
        assign t env v
        let mut ok := true
        for c in ifs do
          if ok then ok ← isTrue c env (eval c env)
        if ok then
          (do let _ ← call (.builtin "list.append") [acc, ← eval elt env])
        again (.compLoop (.ListComp elt gs scope pos) k it acc env))) : LoopR (model prog w) A env (.ListComp elt gs scope pos) k t acc (bpElt (model prog w) A env ifs elt acc) := fun it R I turn n s h => by
  refine codeAny_loop rfl I (fun n s hI => ?_) n h
  show wpAny _ A ((compTurn (.ListComp elt gs scope pos) k it acc env).onRaise fun x => do noteFrame x env; theTreesLotGoes x) _ _ s
  refine wpAny_noted ?_
  rw [hq it]
  refine wpAny_bind (wpAny_standAt (wpAny_bind (noX (turn n s hI) fun r s1 h1 => ?_)))
  cases r with
  | none => exact wpAny_pure h1
  | some v =>
    refine wpAny_bind (noX h1 fun _ s2 h2 => wpAny_bind (noX h2 fun _ s3 h3 => wpAny_bind (noX h3 fun ok s4 h4 => ?_)))
    cases ok with
    | false => exact wpAny_pure ⟨rfl, h4⟩
    | true => exact wpAny_bind (wpAny_bind (noX h4 fun x s5 h5 => wpAny_bind (noX h5 fun _ s6 h6 => wpAny_pure (wpAny_pure ⟨rfl, h6⟩))))
theorem loop_for (hs : ∀ x, foldedSetIterable i1 env x = pure x) (hq : ∀ it, compTurn (.ListComp elt gs scope pos) k it acc env = (do
      standAt p
      match ← pyNext it with
      | none => pure (.done .next)
      | some v =>
        letOwnedTupleGo t it v
        assign t env v
        let mut ok := true
        for c in ifs do
          if ok then ok ← isTrue c env (eval c env)
        if ok then
          let x ← eval i1 env
          standAt p1
          let x ← foldedSetIterable i1 env x
          let _ ← runOwn (.compStart (.ListComp elt gs scope pos) k1 (← holding [x] (pyIter x)) acc env) env
        again (.compLoop (.ListComp elt gs scope pos) k it acc env))) : LoopR (model prog w) A env (.ListComp elt gs scope pos) k t acc (bpFor (model prog w) A env ifs i1 acc (.ListComp elt gs scope pos) k1) := fun it R I turn n s h => by
  refine codeAny_loop rfl I (fun n s hI => ?_) n h
  show wpAny _ A ((compTurn (.ListComp elt gs scope pos) k it acc env).onRaise fun x => do noteFrame x env; theTreesLotGoes x) _ _ s
  refine wpAny_noted ?_
  rw [hq it]
  refine wpAny_bind (wpAny_standAt (wpAny_bind (noX (turn n s hI) fun r s1 h1 => ?_)))
  cases r with
  | none => exact wpAny_pure h1
  | some v =>
    refine wpAny_bind (noX h1 fun _ s2 h2 => wpAny_bind (noX h2 fun _ s3 h3 => wpAny_bind (noX h3 fun ok s4 h4 => ?_)))
    cases ok with
    | false => exact wpAny_pure ⟨rfl, h4⟩
    | true =>
      refine wpAny_bind (noX h4 fun x s5 h5 => wpAny_bind (wpAny_standAt (wpAny_bind (wpAny_of_eq (hs x) (wpAny_bind (wpAny_holding (noX h5 fun it1 s6 h6 => ?_)))))))
      refine wpAny_bind (wpAny_runOwn ?_)
      rw [Around.mark_none]
      refine codeAny_mono h6 fun r s' hr => ?_
      cases r with
      | error x => exact hr.elim
      | ok f =>
        first
          | exact wpAny_pure ⟨rfl, hr⟩
          | exact wpAny_bind (wpAny_pure (wpAny_pure ⟨rfl, hr⟩))
end
section
variable {Y : Cx} {D : Addr}
/-- a clause's part, as the model runs it -/
structure PB (Y : Cx) (D : Addr) (B : BP) (b : BD) (vs : List Nat) : Prop where
  run : ∀ (pins : List (Addr × Obj)) (s : Shared) (σ : L2.St) (H : Hp) (N : Hp → Prop) (P : Shared → Prop), Inv Y pins σ H s → b σ H D N →
    (∀ s' σ' H', Inv Y pins σ' H' s' → (L2.wipe σ vs).length = σ'.length → (∀ (j : Nat) v, (L2.wipe σ vs)[j]? = some (some v) → σ'[j]? = some (some v)) → N H' → P s') → B P s
theorem pb_elt {ifs : List Expr} {elt : Expr} {tt : TT} {te : TE} (hx : Y.xe = NoX) (pt : PTs Y ifs tt) (pe : PE Y elt te) : PB Y D (bpElt (model Y.prog Y.w) Y.A Y.env ifs elt (.ref D)) (bElt tt te) [] := ⟨fun pins s σ H N P I h k => by
  have r := pt.run pins s σ H _ I h
  rw [hx] at r
  refine noX r fun b s1 ⟨H1, I1, q1⟩ => ?_
  cases b with
  | false => exact k s1 σ H1 I1 rfl (fun _ _ z => z) q1
  | true =>
    have r2 := pe.run _ s1 σ H1 _ I1 q1
    rw [hx] at r2
    exact noX r2 fun z s2 ⟨y, H2, I2, ry, acc, hD, hz, nx⟩ => app_ok I2 hD hz ry fun s3 I3 => k s3 σ _ I3 rfl (fun _ _ z => z) nx⟩
theorem loop_run {t e : Expr} {k : Nat} {B : BP} {b : BD} {vb vs : List Nat} {g : TG} {J : It} {fp : List Addr} {it : Addr} {tn : Nat → Heap → Prop} {pins : List (Addr × Obj)} {s : Shared} {σ : L2.St} {H : Hp} {N : Hp → Prop} {R : Result → Shared → Prop}
    (hc : Y.calm = true) (hx : Y.xe = NoX) (pg : PG Y t g) (lr : LoopR (model Y.prog Y.w) Y.A Y.env e k t (.ref D) B) (pb : PB Y D B b vb) (hv : ∀ j ∈ vb, j ∈ vs) (T : Turn Y.prog Y.w Y.K t J fp it tn)
    (hst : ∀ s' H', Inv Y pins (L2.wipe σ vs) H' s' → (∀ b ∈ fp, H' b = none) → ∀ b ∈ fp, FpOk Y pins H' b) (I : Inv Y pins (L2.wipe σ vs) H s) (h0 : tn 0 s.heap) (hn : ∀ b ∈ fp, H b = none) (h : bLoop J g vs b σ H D N)
    (hend : ∀ s' H', Inv Y pins (L2.wipe σ vs) H' s' → N H' → R (.ok .next) s') : codeAny (model Y.prog Y.w) Y.A (.compLoop e k (.ref it) (.ref D) Y.env) R s := by
  obtain ⟨W, ⟨m0, w0⟩, turn⟩ := h
  refine lr (.ref it) R (fun n s' => ∃ i H', Inv Y pins (L2.wipe σ vs) H' s' ∧ tn i s'.heap ∧ (∀ b ∈ fp, H' b = none) ∧ W i n H') ?_ m0 s ⟨0, H, I, h0, hn, w0⟩
  rintro n s1 ⟨i, H1, I1, t1, n1, w1⟩
  rcases turn i n H1 w1 with ⟨st, q⟩ | ⟨go, N1, hN, step⟩
  · refine noX (T.done Y rfl rfl rfl hc i pins s1 _ H1 NoX I1 (hst _ _ I1 n1) t1 st) fun r s2 ⟨hr, I2⟩ => ?_
    subst hr
    exact hend _ _ I2 q
  · refine noX (T.item Y rfl rfl rfl hc i pins s1 _ H1 NoX I1 (hst _ _ I1 n1) t1 go) fun r s2 ⟨u, hr, h2⟩ => ?_
    subst hr
    refine noX h2 fun _ s3 ⟨x, H3, I3, r3, y3, t3, n3⟩ => ?_
    have r4 := pg.run _ s3 _ H3 x u _ (I3.pinned (hst _ _ I3 n3) (T.obj _ _ t3)) r3 (step x H3 y3)
    rw [hx] at r4
    refine noX r4 fun _ s4 ⟨σ4, H4, I4, w4, q4⟩ => pb.run _ s4 σ4 H4 N1 _ I4 q4 fun s5 σ5 H5 I5 l5 k5 nx => ?_
    obtain ⟨m', hm, w5⟩ := hN H5 nx
    have keep : ∀ b ∈ fp, ∀ o, s3.heap.get? b = some o → s5.heap.get? b = some o ∧ H5 b = none := fun b hb o eo =>
      let z := I5.pin (b, o) (List.mem_append_right _ (List.mem_append_right _ (mem_pinsAt hb eo)))
      ⟨z.1, z.2.1⟩
    refine ⟨m', hm, i + 1, H5, I5.unpinned.weak ?_ fun j v ej => ?_, T.keep _ _ _ t3 fun b hb o eo => (keep b hb o eo).1, fun b hb => ?_, w5⟩
    · rw [← w4, wipe_length, ← l5, wipe_length]
    · rw [← w4] at ej
      obtain ⟨a, c⟩ := wipe_some ej
      refine k5 j v ?_
      rw [wipe_out fun z => c (hv j z)]
      exact a
    · obtain ⟨o, eo, _⟩ := T.obj _ _ t3 b hb
      exact (keep b hb o eo).2
theorem pb_for {t1 i1 e : Expr} {k1 : Nat} {ifs : List Expr} {tt : TT} {wi : TI} {g : TG} {B1 : BP} {b : BD} {vb vs : List Nat} (hc : Y.calm = true) (hx : Y.xe = NoX) (pt : PTs Y ifs tt) (pi : PI Y t1 i1 wi) (pg : PG Y t1 g)
    (lr : LoopR (model Y.prog Y.w) Y.A Y.env e k1 t1 (.ref D) B1) (sr : StartR (model Y.prog Y.w) Y.A Y.env e k1 (.ref D)) (pb : PB Y D B1 b vb) (hv : ∀ j ∈ vb, j ∈ vs) :
    PB Y D (bpFor (model Y.prog Y.w) Y.A Y.env ifs i1 (.ref D) e k1) (bFor tt wi g vs b) vs := ⟨fun pins s σ H N P I h k => by
  have r := pt.run pins s σ H _ I h
  rw [hx] at r
  refine noX r fun c s1 ⟨H1, I1, q1⟩ => ?_
  cases c with
  | false => exact k s1 σ H1 I1 (wipe_length _ _) (fun j v z => (wipe_some z).1) q1
  | true =>
    have r2 := pi.run _ s1 σ H1 _ I1 q1
    rw [hx] at r2
    refine noX r2 fun v s2 h2 => noX h2 fun itv s3 h3 => ?_
    obtain ⟨it, fp, tn, J, H3, ev, I3, T, t3, f3, hl⟩ := h3
    subst ev
    have hl' : bLoop J g vs b σ H3 D N := hl
    have lp : codeAny (model Y.prog Y.w) Y.A (.compLoop e k1 (.ref it) (.ref D) Y.env) (fun r s' => match r with | .ok _ => P s' | .error _ => False) s3 :=
      loop_run hc hx pg lr pb hv T (fun s' H' _ hn b hb => ⟨hn b hb, (f3 b hb).2⟩) (I3.weak (wipe_length _ _) fun j v z => (wipe_some z).1) t3 (fun b hb => (f3 b hb).1) hl' fun s' H' I' nx => k s' _ H' I' rfl (fun _ _ z => z) nx
    exact sr _ _ _ lp (T.self Y.A 0 _ _ _ t3 lp)⟩
end
section
variable {X : Cx} {pins : List (Addr × Obj)} {s : Shared} {σ : L2.St} {H : Hp} {Q : VK}
theorem cmp_core {elt tg iter : Expr} {ifs : List Expr} {rest : List Comprehension} {scope : Scope} {own : List (Str × Nat)} {pos pos' : Pos} {wi : TI} {g : TG} {b : BD} {vb : List Nat} {use : Option (Value → Sem Unit)} {Qf : Value → Shared → Prop}
    (hc : X.calm = true) (hN : X.N.Nodup) (I : Inv X pins σ H s) (hi : PI X tg iter wi) (ok : BlkOk X.N X.env.scope scope own) (hv : ∀ j ∈ vb, j ∈ own.map (·.2)) (hs : ∀ x, foldedSetIterable iter X.env x = pure x)
    (hg : ∀ (s : Shared) (H : Hp) (C : Addr) (cl : List (Str × Addr)) (fp : List Addr), PG (X.blk s H scope (compEnvC scope cl C X.env) fp) tg g)
    (hb : ∀ (s : Shared) (H : Hp) (C : Addr) (cl : List (Str × Addr)) (fp : List Addr) (D : Addr), ∃ B : BP, LoopR (model X.prog X.w) X.A (compEnvC scope cl C X.env) (.ListComp elt (⟨tg, iter, ifs, 0⟩ :: rest) scope pos) 0 tg (.ref D) B ∧ PB (X.blk s H scope (compEnvC scope cl C X.env) fp) D B b vb)
    (h : tCmp wi g (own.map (·.2)) b σ H Q)
    (hRR : ∀ D C s' m H', Inv X pins σ H' s' → Q (.ref D) H' → s'.heap.Ns C m → FpOk X pins H' C → compPost (model X.prog X.w) X.A X.xe use Qf (.ref D) C (.ok .next) s') :
    wpAny (model X.prog X.w) X.A (comprehension (.ListComp elt (⟨tg, iter, ifs, 0⟩ :: rest) scope pos) scope X.env pos' (newList []) false (eval iter X.env) use) Qf X.xe s := by
  refine wpAny_comprehension_free (use := use) rfl hs (closure_ok fun y hy ey => (ok.free y hy ey).elim (fun z => I.ok.has _ (.inl z)) fun z => I.ok.has _ (.inr z)) ok.kind (fun y hy ey => by rw [ok.uniq y hy, ey])
    (thn (hi.run pins s σ H _ I h) fun v s1 h1 => thn h1 fun itv s2 h2 => ?_)
  obtain ⟨it, fp, tn, J, H2, ev, I2, T, t2, f2, q⟩ := h2
  subst ev
  refine wpAny_newObj_type (newEnv_comp ?_) (by show 0 ≤ sizeLine; decide)
  generalize hD : s2.heap.objs.size = D
  have lp0 := q D (I2.hok.fresh (Nat.le_of_eq hD))
  generalize es3 : ({ s2 with heap := s2.heap.push { cls := .type "list", data := .seq ([] : List Value).toArray } } : Shared) = s3
  have hp3 : s3.heap = s2.heap.push { cls := .type "list", data := .seq ([] : List Value).toArray } := by rw [← es3]
  have I3 : Inv X pins σ (upd H2 D (.lst [])) s3 := by
    rw [← es3]
    refine I2.laid (t' := s2.toks) (fun b o eo => Heap.get?_push_of_some _ eo) (Nat.le_of_eq hD) ⟨Nat.zero_le _, [], 0, .nil, ?_⟩
    rw [← hD]
    exact Heap.get?_push_size _ rfl
  have f3 : ∀ a ∈ fp, FpOk X pins (upd H2 D (.lst [])) a ∧ a < s3.heap.objs.size := fun a ha => by
    obtain ⟨o, eo, _⟩ := T.obj _ _ t2 a ha
    have lt := Heap.lt_size eo
    refine ⟨⟨?_, (f2 a ha).2⟩, ?_⟩
    · rw [upd_ne (fun z => absurd lt (by rw [z, ← hD]; exact Nat.lt_irrefl _))]
      exact (f2 a ha).1
    · rw [hp3, Heap.size_push]
      exact Nat.lt_succ_of_lt lt
  have t3 : tn 0 s3.heap := T.keep _ _ _ t2 fun b _ o eo => by rw [hp3]; exact Heap.get?_push_of_some _ eo
  generalize hH3 : upd H2 D (.lst []) = H3 at I3 f3 lp0
  have I4 := block_start I3 ok hN f3
  obtain ⟨B, lr, pb⟩ := hb s3 H3 s3.heap.objs.size (cellsFrom (s3.heap.objs.size + 1) scope.names (cloFrom X.env.cells scope.names [])) fp D
  have pg := hg s3 H3 s3.heap.objs.size (cellsFrom (s3.heap.objs.size + 1) scope.names (cloFrom X.env.cells scope.names [])) fp
  show codeAny _ _ (.compStart (.ListComp elt (⟨tg, iter, ifs, 0⟩ :: rest) scope pos) 0 (.ref it) (.ref D) (compEnvC scope (cellsFrom (s3.heap.objs.size + 1) scope.names (cloFrom X.env.cells scope.names [])) s3.heap.objs.size X.env)) (compPost (model X.prog X.w) X.A X.xe use Qf (.ref D) s3.heap.objs.size) { s3 with heap := pushCells (s3.heap.push { cls := .type "dict", data := .dict #[] }) scope.names }
  generalize ece : compEnvC scope (cellsFrom (s3.heap.objs.size + 1) scope.names (cloFrom X.env.cells scope.names [])) s3.heap.objs.size X.env = ce at I4 lr pb pg ⊢
  have cL : ce.locals = s3.heap.objs.size := by subst ece; rfl
  generalize es4 : ({ s3 with heap := pushCells (s3.heap.push { cls := .type "dict", data := .dict #[] }) scope.names } : Shared) = s4 at I4 ⊢
  have t4 : tn 0 s4.heap := T.keep _ _ _ t3 fun b _ o eo => by rw [← es4]; exact pushCells_keeps _ _ _ _ (Heap.get?_push_of_some _ eo)
  have lp : codeAny (model X.prog X.w) X.A (.compLoop (.ListComp elt (⟨tg, iter, ifs, 0⟩ :: rest) scope pos) 0 (.ref it) (.ref D) ce) (compPost (model X.prog X.w) X.A X.xe use Qf (.ref D) s3.heap.objs.size) s4 := by
    refine loop_run (Y := X.blk s3 H3 scope ce fp) hc rfl pg lr pb hv T (fun s' H' I' hn a ha => ⟨hn a ha, (I'.ok.exf a ha).1, I'.ok.exfs a ha, .inl ha, fun x c z => (I'.ok.exf a ha).2 x c z, fun p hp => absurd (show p ∈ ([] : List (Addr × Obj)) ++ [] from hp) (by simp)⟩) I4 t4 (fun a ha => (f3 a ha).1.1) lp0 fun s6 H6 I6 q6 => ?_
    have I7 : Inv X pins σ H6 s6 := I3.call' (ch := fp) I6.os I6.base I6.hok I6.bare fun a ha => ⟨(f3 a ha).1.2.2.2.1, (f3 a ha).1.2.1, (f3 a ha).1.2.2.2.2.1, (f3 a ha).1.2.2.2.2.2⟩
    have nC : H6 s3.heap.objs.size = none := by
      have z : H6 ce.locals = none := I6.free
      rw [cL] at z
      exact z
    obtain ⟨m, hn, _⟩ := I6.loc
    have hn : s6.heap.Ns ce.locals m := hn
    rw [cL] at hn
    exact hRR D s3.heap.objs.size s6 m H6 I7 q6 hn (I3.fpOk (Nat.le_refl _) nC)
  exact codeAny_compStart_list lp (T.self X.A 0 _ _ _ t4 lp)
theorem pe_cmp {elt tg iter : Expr} {ifs : List Expr} {rest : List Comprehension} {scope : Scope} {own : List (Str × Nat)} {pos : Pos} {wi : TI} {g : TG} {b : BD} {vb : List Nat}
    (hc : X.calm = true) (hN : X.N.Nodup) (hi : PI X tg iter wi) (ok : BlkOk X.N X.env.scope scope own) (hv : ∀ j ∈ vb, j ∈ own.map (·.2))
    (hg : ∀ (s : Shared) (H : Hp) (C : Addr) (cl : List (Str × Addr)) (fp : List Addr), PG (X.blk s H scope (compEnvC scope cl C X.env) fp) tg g)
    (hb : ∀ (s : Shared) (H : Hp) (C : Addr) (cl : List (Str × Addr)) (fp : List Addr) (D : Addr), ∃ B : BP, LoopR (model X.prog X.w) X.A (compEnvC scope cl C X.env) (.ListComp elt (⟨tg, iter, ifs, 0⟩ :: rest) scope pos) 0 tg (.ref D) B ∧ PB (X.blk s H scope (compEnvC scope cl C X.env) fp) D B b vb)
    (hs : ∀ x, foldedSetIterable iter X.env x = pure x := by intro _; rfl) :
    PE X (.ListComp elt (⟨tg, iter, ifs, 0⟩ :: rest) scope pos) (tCmp wi g (own.map (·.2)) b) := by
  refine ⟨fun pins s σ H Q I h => ?_⟩
  rw [eval_ListComp]
  refine cmp_core hc hN I hi ok hv hs hg hb h fun D C s' m H' I' q hn f => ⟨m, hn, fun h'' sb => ?_⟩
  obtain ⟨f0, f1, f2, f3, f4, f5⟩ := f
  exact ⟨.ref D, H', I'.turned (t' := s'.toks) (fun b o hb eo => (sb.2 b hb).trans eo) f0 f1 f3 f4 f5, rfl, q⟩
end
section
variable {prog : Program} {w : World} {A : Around} {env : Env} {elt t0 i0 t1 i1 t2 i2 : Expr} {ifs0 ifs1 ifs2 : List Expr} {scope : Scope} {pos : Pos} {acc : Value}
theorem start3_1 : StartR (model prog w) A env (.ListComp elt [⟨t0, i0, ifs0, 0⟩, ⟨t1, i1, ifs1, 0⟩, ⟨t2, i2, ifs2, 0⟩] scope pos) 1 acc := fun it R s h0 h => by
  refine codeAny_of_tree ?_
  show wpAny _ _ ((compStart _ 1 it acc env).onRaise fun x => do noteFrame x env; standAt theWindowsPlace) _ _ s
  refine wpAny_notedAt ?_
  unfold compStart
  show wpAny _ _ (ask >>= _) _ _ s
  refine wpAny_bind (wpAny_askSetting (wpAny_ite ?_))
  split
  · first
      | exact wpAny_bind (wpAny_pure (wpAny_pure (And.intro rfl h0)))
      | exact wpAny_pure (And.intro rfl h0)
  · refine wpAny_bind (wpAny_rule ?_)
    show wpAny _ _ (standAt i1.pos >>= _) _ _ s
    exact wpAny_bind (wpAny_standAt (wpAny_bind (noX h fun it' s' h' => wpAny_pure (And.intro rfl h'))))
theorem start3_2 : StartR (model prog w) A env (.ListComp elt [⟨t0, i0, ifs0, 0⟩, ⟨t1, i1, ifs1, 0⟩, ⟨t2, i2, ifs2, 0⟩] scope pos) 2 acc := fun it R s h0 h => by
  refine codeAny_of_tree ?_
  show wpAny _ _ ((compStart _ 2 it acc env).onRaise fun x => do noteFrame x env; standAt theWindowsPlace) _ _ s
  refine wpAny_notedAt ?_
  unfold compStart
  show wpAny _ _ (ask >>= _) _ _ s
  refine wpAny_bind (wpAny_askSetting (wpAny_ite ?_))
  split
  · first
      | exact wpAny_bind (wpAny_pure (wpAny_pure (And.intro rfl h0)))
      | exact wpAny_pure (And.intro rfl h0)
  · refine wpAny_bind (wpAny_rule ?_)
    show wpAny _ _ (standAt i2.pos >>= _) _ _ s
    exact wpAny_bind (wpAny_standAt (wpAny_bind (noX h fun it' s' h' => wpAny_pure (And.intro rfl h'))))
theorem start2_1 : StartR (model prog w) A env (.ListComp elt [⟨t0, i0, ifs0, 0⟩, ⟨t1, i1, ifs1, 0⟩] scope pos) 1 acc := fun it R s h0 h => by
  refine codeAny_of_tree ?_
  show wpAny _ _ ((compStart _ 1 it acc env).onRaise fun x => do noteFrame x env; standAt theWindowsPlace) _ _ s
  refine wpAny_notedAt ?_
  unfold compStart
  show wpAny _ _ (ask >>= _) _ _ s
  refine wpAny_bind (wpAny_askSetting (wpAny_ite ?_))
  split
  · first
      | exact wpAny_bind (wpAny_pure (wpAny_pure (And.intro rfl h0)))
      | exact wpAny_pure (And.intro rfl h0)
  · refine wpAny_bind (wpAny_rule ?_)
    show wpAny _ _ (standAt i1.pos >>= _) _ _ s
    exact wpAny_bind (wpAny_standAt (wpAny_bind (noX h fun it' s' h' => wpAny_pure (And.intro rfl h'))))
end
section
variable {X : Cx} {elt t0 i0 t1 i1 t2 i2 : Expr} {ifs0 ifs1 ifs2 : List Expr} {scope : Scope} {own : List (Str × Nat)} {pos : Pos} {wi wi1 wi2 : TI} {g g1 g2 : TG} {tt tt1 tt2 : TT} {te : TE} {vs1 vs2 : List Nat}
theorem pe_cmp3 (hc : X.calm = true) (hN : X.N.Nodup) (hi : PI X t0 i0 wi) (ok : BlkOk X.N X.env.scope scope own) (hv : ∀ j ∈ vs1, j ∈ own.map (·.2)) (hv2 : ∀ j ∈ vs2, j ∈ vs1)
    (hg : ∀ (s : Shared) (H : Hp) (C : Addr) (cl : List (Str × Addr)) (fp : List Addr), PG (X.blk s H scope (compEnvC scope cl C X.env) fp) t0 g)
    (ht : ∀ (s : Shared) (H : Hp) (C : Addr) (cl : List (Str × Addr)) (fp : List Addr), PTs (X.blk s H scope (compEnvC scope cl C X.env) fp) ifs0 tt)
    (hi1 : ∀ (s : Shared) (H : Hp) (C : Addr) (cl : List (Str × Addr)) (fp : List Addr), PI (X.blk s H scope (compEnvC scope cl C X.env) fp) t1 i1 wi1)
    (hg1 : ∀ (s : Shared) (H : Hp) (C : Addr) (cl : List (Str × Addr)) (fp : List Addr), PG (X.blk s H scope (compEnvC scope cl C X.env) fp) t1 g1)
    (ht1 : ∀ (s : Shared) (H : Hp) (C : Addr) (cl : List (Str × Addr)) (fp : List Addr), PTs (X.blk s H scope (compEnvC scope cl C X.env) fp) ifs1 tt1)
    (hi2 : ∀ (s : Shared) (H : Hp) (C : Addr) (cl : List (Str × Addr)) (fp : List Addr), PI (X.blk s H scope (compEnvC scope cl C X.env) fp) t2 i2 wi2)
    (hg2 : ∀ (s : Shared) (H : Hp) (C : Addr) (cl : List (Str × Addr)) (fp : List Addr), PG (X.blk s H scope (compEnvC scope cl C X.env) fp) t2 g2)
    (ht2 : ∀ (s : Shared) (H : Hp) (C : Addr) (cl : List (Str × Addr)) (fp : List Addr), PTs (X.blk s H scope (compEnvC scope cl C X.env) fp) ifs2 tt2)
    (he : ∀ (s : Shared) (H : Hp) (C : Addr) (cl : List (Str × Addr)) (fp : List Addr), PE (X.blk s H scope (compEnvC scope cl C X.env) fp) elt te)
    (hs : ∀ x, foldedSetIterable i0 X.env x = pure x := by intro _; rfl) (hs1 : ∀ env x, foldedSetIterable i1 env x = pure x := by intro _ _; rfl) (hs2 : ∀ env x, foldedSetIterable i2 env x = pure x := by intro _ _; rfl) :
    PE X (.ListComp elt [⟨t0, i0, ifs0, 0⟩, ⟨t1, i1, ifs1, 0⟩, ⟨t2, i2, ifs2, 0⟩] scope pos) (tCmp wi g (own.map (·.2)) (bFor tt wi1 g1 vs1 (bFor tt1 wi2 g2 vs2 (bElt tt2 te)))) :=
  pe_cmp hc hN hi ok hv hg (fun s H C cl fp D => ⟨_, loop_for (p := i0.pos) (p1 := i1.pos) (hs1 _) (fun it => rfl), pb_for hc rfl (ht s H C cl fp) (hi1 s H C cl fp) (hg1 s H C cl fp) (loop_for (p := i1.pos) (p1 := i2.pos) (hs2 _) (fun it => rfl)) start3_1
    (pb_for hc rfl (ht1 s H C cl fp) (hi2 s H C cl fp) (hg2 s H C cl fp) (loop_elt (p := i2.pos) (fun it => rfl)) start3_2 (pb_elt rfl (ht2 s H C cl fp) (he s H C cl fp)) (fun _ z => nomatch z)) hv2⟩) hs
theorem pe_cmp2 (hc : X.calm = true) (hN : X.N.Nodup) (hi : PI X t0 i0 wi) (ok : BlkOk X.N X.env.scope scope own) (hv : ∀ j ∈ vs1, j ∈ own.map (·.2))
    (hg : ∀ (s : Shared) (H : Hp) (C : Addr) (cl : List (Str × Addr)) (fp : List Addr), PG (X.blk s H scope (compEnvC scope cl C X.env) fp) t0 g)
    (ht : ∀ (s : Shared) (H : Hp) (C : Addr) (cl : List (Str × Addr)) (fp : List Addr), PTs (X.blk s H scope (compEnvC scope cl C X.env) fp) ifs0 tt)
    (hi1 : ∀ (s : Shared) (H : Hp) (C : Addr) (cl : List (Str × Addr)) (fp : List Addr), PI (X.blk s H scope (compEnvC scope cl C X.env) fp) t1 i1 wi1)
    (hg1 : ∀ (s : Shared) (H : Hp) (C : Addr) (cl : List (Str × Addr)) (fp : List Addr), PG (X.blk s H scope (compEnvC scope cl C X.env) fp) t1 g1)
    (ht1 : ∀ (s : Shared) (H : Hp) (C : Addr) (cl : List (Str × Addr)) (fp : List Addr), PTs (X.blk s H scope (compEnvC scope cl C X.env) fp) ifs1 tt1)
    (he : ∀ (s : Shared) (H : Hp) (C : Addr) (cl : List (Str × Addr)) (fp : List Addr), PE (X.blk s H scope (compEnvC scope cl C X.env) fp) elt te)
    (hs : ∀ x, foldedSetIterable i0 X.env x = pure x := by intro _; rfl) (hs1 : ∀ env x, foldedSetIterable i1 env x = pure x := by intro _ _; rfl) :
    PE X (.ListComp elt [⟨t0, i0, ifs0, 0⟩, ⟨t1, i1, ifs1, 0⟩] scope pos) (tCmp wi g (own.map (·.2)) (bFor tt wi1 g1 vs1 (bElt tt1 te))) :=
  pe_cmp hc hN hi ok hv hg (fun s H C cl fp D => ⟨_, loop_for (p := i0.pos) (p1 := i1.pos) (hs1 _) (fun it => rfl), pb_for hc rfl (ht s H C cl fp) (hi1 s H C cl fp) (hg1 s H C cl fp) (loop_elt (p := i1.pos) (fun it => rfl)) start2_1
    (pb_elt rfl (ht1 s H C cl fp) (he s H C cl fp)) (fun _ z => nomatch z)⟩) hs
end
end DL
namespace DL
open PySem PySem.Spec PyProof.Rows L2
theorem pi_tupK {X : Cx} {K : PySem.W.Frag} {tg l : Expr} {tl : TE} (hl : PE X l tl) (hK : X.K = K) : PI X tg l (iTup K tl) := hK ▸ pi_tup hl
theorem pi_listK {X : Cx} {K : PySem.W.Frag} {tg l : Expr} {tl : TE} (hl : PE X l tl) (hK : X.K = K) : PI X tg l (iList K tl) := hK ▸ pi_list hl
/-! the heap-free side -/
def flatO {α γ : Type} : List α → (α → Option (List γ)) → Option (List γ)
  | [], _ => some []
  | x :: xs, f => (f x).bind fun a => (flatO xs f).bind fun b => some (a ++ b)
def flatC {α γ : Type} (xs : List α) (f : α → Option (List γ)) : Option (List γ) := (flatO xs f).bind fun zs => if xs.length + zs.length ≤ 1000000 then some zs else none
/-- a clause appends ds -/
def EvB (K : PySem.W.Frag) (b : BD) (es : List Sl) (ds : List Dt) : Prop := ∀ (F G H : Hp) (σ : L2.St) (D : Addr) (acc : List V), Stt K (upd F D (.lst acc)) G H σ es → acc.length + ds.length ≤ 1000000 →
  ∀ N : Hp → Prop, (∀ G' H' vs, Stt K (upd F D (.lst (acc ++ vs))) G' H' σ es → Same G G' → Reps K G' vs ds → N H') → b σ H D N
section
variable {K : PySem.W.Frag} {es : List Sl} {α β γ : Type}
theorem flatO_cons {x : α} {xs : List α} {f : α → Option (List γ)} {zs : List γ} (h : flatO (x :: xs) f = some zs) : ∃ a b, f x = some a ∧ flatO xs f = some b ∧ zs = a ++ b := by
  unfold flatO at h
  cases p : f x with
  | none => rw [p] at h; cases h
  | some a =>
    rw [p] at h
    cases q : flatO xs f with
    | none =>
      rw [q] at h
      cases h
    | some b =>
      rw [q] at h
      exact ⟨a, b, rfl, rfl, (Option.some.inj h).symm⟩
theorem ec_pure {te : TE} {em2 : β → Dt} {y : β} (h : Ev K te es (em2 y)) : ∀ ys, some [y] = some ys → EvB K (bElt tYes te) es (ys.map em2) := fun ys e F G H σ D acc s hz N q => by
  cases e
  refine h _ G H σ s _ fun v G1 H1 s1 g1 r1 => ?_
  have sz : (1000000 : Nat) < sizeLine := by decide
  rw [List.length_map, List.length_singleton] at hz
  exact ⟨acc, s1.f D _ upd_same, by omega, q G1 _ [v] s1.reprot g1 (.cons r1 .nil)⟩
theorem ec_bnd {α β : Type} {b : BD} {em2 : β → Dt} {m : Option α} {f : α → Option (List β)} (h : ∀ x, m = some x → ∀ ys, f x = some ys → EvB K b es (ys.map em2)) : ∀ ys, m.bind f = some ys → EvB K b es (ys.map em2) := fun ys e => by
  cases p : m with
  | none => rw [p] at e; cases e
  | some x =>
    rw [p] at e
    exact h x p ys e
/-- a clause's loop -/
theorem eb_turns {J : It} {g : TG} {vs : List Nat} {b : BD} {xs : List α} {em : α → Dt} {em2 : β → Dt} {en2 : α → List Sl} {f : α → Option (List β)} {zs : List β} {F G G1 H1 : Hp} {σ : L2.St} {D : Addr} {acc : List V} {N : Hp → Prop}
    (hg : ∀ x, EvG K g vs (wipeS es vs) (em x) (en2 x)) (hb : ∀ x, ∀ ys, f x = some ys → EvB K b (en2 x) (ys.map em2)) (hd : es.all (fun t => !t.isOwn) = true) (h : flatO xs f = some zs)
    (hy : Yields K J G (xs.map em)) (s : Stt K (upd F D (.lst acc)) G1 H1 σ es) (g0 : Same G G1) (hz : acc.length + zs.length ≤ 1000000)
    (q : ∀ G' H' us, Stt K (upd F D (.lst (acc ++ us))) G' H' σ es → Same G1 G' → Reps K G' us (zs.map em2) → N H') : bLoop J g vs b σ H1 D N := by
  refine ⟨fun i m H' => ∃ (G' : Hp) (us : List V) (ys rest : List β), Stt K (upd F D (.lst (acc ++ us))) G' H' σ es ∧ Same G1 G' ∧ Reps K G' us (ys.map em2) ∧ flatO (xs.drop i) f = some rest ∧ ys ++ rest = zs ∧ m = xs.length - i ∧ i ≤ xs.length,
    ⟨_, G1, [], [], zs, by rw [List.append_nil]; exact s, Same.refl _, .nil, h, rfl, rfl, Nat.zero_le _⟩, ?_⟩
  rintro i m H' ⟨G', us, ys, rest, st', g', ru, hc, hap, rfl, hle⟩
  by_cases hlt : i < xs.length
  · refine .inr ?_
    rw [List.drop_eq_getElem_cons hlt] at hc
    obtain ⟨a, r2, ea, er, rfl⟩ := flatO_cons hc
    obtain ⟨go, yld⟩ := (hy i _ G' H' σ es (g0.trans g') st').1 (em xs[i]) (by rw [List.getElem?_map, List.getElem?_eq_getElem hlt]; rfl)
    refine ⟨go, fun H2 => ∃ (G2 : Hp) (us2 : List V) (ys2 : List β), Stt K (upd F D (.lst (acc ++ us2))) G2 H2 σ es ∧ Same G1 G2 ∧ Reps K G2 us2 (ys2.map em2) ∧ ys2 ++ r2 = zs,
      fun H2 ⟨G2, us2, ys2, a1, a2, a3, a4⟩ => ⟨xs.length - (i + 1), by omega, G2, us2, ys2, r2, a1, a2, a3, er, a4, rfl, by omega⟩, fun x H2 hx => ?_⟩
    obtain ⟨G2, st2, g2, rx⟩ := yld x H2 hx
    refine hg xs[i] _ G2 H2 (L2.wipe σ vs) x (st2.wipe vs) rx _ fun σ3 G3 H3 st3 g3 l3 k3 => ?_
    refine ⟨by rw [wipe_ext (σ := L2.wipe σ vs) l3 k3]; exact wipe_ext (wipe_length _ _) fun k hk => wipe_get hk, ?_⟩
    have lu := ru.length
    rw [List.length_map] at lu
    have lz : ys.length + (a.length + r2.length) = zs.length := by rw [← hap, List.length_append, List.length_append]
    refine hb xs[i] a ea F G3 H3 σ3 D _ st3 (by rw [List.length_append, List.length_map]; omega) _ fun G4 H4 vs4 st4 g4 r4 => ?_
    have gg : Same G' G4 := g2.trans (g3.trans g4)
    refine ⟨G4, us ++ vs4, ys ++ a, ?_, g'.trans gg, ?_, by rw [List.append_assoc]; exact hap⟩
    · rw [← List.append_assoc]
      have swp : ∀ {F1 F2 Ga Ha Gb Hb : Hp} {τ τ2 : L2.St} {e1 e2 : List Sl}, Stt K F1 Ga Ha τ e1 → e1.all (fun t => !t.isOwn) = true → Stt K F2 Gb Hb τ2 e2 → Same Ga Gb → Stt K F2 Gb Hb τ e1 := fun {F1 F2 Ga Ha Gb Hb τ τ2 e1 e2} s hd s2 g => {
        f := s2.f, g := s2.g, dj := s2.dj, len := s.len, ow := s.ow
        sl := fun i t e => by
          obtain ⟨x, hx, k⟩ := s.sl i t e
          refine ⟨x, hx, ?_⟩
          have := List.all_eq_true.mp hd t (List.mem_of_getElem? e)
          cases t with
          | un => trivial
          | d x =>
            obtain ⟨v, e, r⟩ := k
            exact ⟨v, e, r.mono g⟩
          | own _ _ => cases this
          | obo _ _ _ => cases this }
      exact swp st2 hd st4 (g3.trans g4)
    · rw [List.map_append]
      exact (ru.mono gg).append r4
  · have e3 : i = xs.length := by omega
    subst e3
    refine .inl ⟨(hy xs.length _ G' H' σ es (g0.trans g') st').2 (by simp), ?_⟩
    rw [List.drop_length] at hc
    cases hc
    rw [List.append_nil] at hap
    subst hap
    exact q G' H' us st' g' ru
theorem eb_loop {wi : TI} {g : TG} {vs : List Nat} {b : BD} {xs : List α} {em : α → Dt} {em2 : β → Dt} {en2 : α → List Sl} {f : α → Option (List β)} (hi : EvI K wi es (xs.map em)) (hg : ∀ x, EvG K g vs (wipeS es vs) (em x) (en2 x))
    (hb : ∀ x, ∀ ys, f x = some ys → EvB K b (en2 x) (ys.map em2)) (hd : es.all (fun t => !t.isOwn) = true) : ∀ ys, flatO xs f = some ys → EvB K (bFor tYes wi g vs b) es (ys.map em2) := fun ys h F G H σ D acc s hz N q =>
  hi _ G H σ s _ fun J G1 H1 s1 g1 y => eb_turns (G := G1) hg hb hd h y s1 (Same.refl _) (by rw [List.length_map] at hz; exact hz) fun G' H' us st' g' r' => q G' H' us st' (g1.trans g') r'
theorem el_flat {wi : TI} {g : TG} {vs : List Nat} {b : BD} {xs : List α} {em : α → Dt} {em2 : β → Dt} {en2 : α → List Sl} {f : α → Option (List β)} {zs : List β} (hi : EvI K wi es (xs.map em)) (hg : ∀ x, EvG K g vs (wipeS es vs) (em x) (en2 x))
    (hb : ∀ x, ∀ ys, f x = some ys → EvB K b (en2 x) (ys.map em2)) (hd : es.all (fun t => !t.isOwn) = true) (h : flatC xs f = some zs) : EvL K (tCmp wi g vs b) es (zs.map em2) := fun F G H σ st Q q => by
  unfold flatC at h
  cases p : flatO xs f with
  | none => rw [p] at h; cases h
  | some ys =>
    rw [p] at h
    have h : (if xs.length + ys.length ≤ 1000000 then some ys else none) = some zs := h
    by_cases hz : xs.length + ys.length ≤ 1000000
    · rw [if_pos hz] at h
      cases h
      refine hi F G H σ st _ fun J G1 H1 s1 g1 y => fun D hD => ?_
      have hF : F D = none := s1.fnone hD
      refine eb_turns (acc := []) (G := G1) hg hb hd p y (s1.prot hD) (Same.refl _) (by simp only [List.length_nil]; omega) fun G' H' us st' g' r' => q D us G' H' ?_ hF (g1.trans g') r'
      exact st'
    · rw [if_neg hz] at h
      cases h
end
end DL

/-! Dl12: max(xs, default=None); lists of values that may be left out -/
namespace DL
open PySem PySem.Spec PyProof.Rows L2
section
variable {prog : Program} {w : World} {A : Around} {I : Addr} {fp wr : List Addr} {n : Nat} {P : Nat → Value → Prop} {St : Nat → Heap → Prop} {bt : Nat → Nat → Bool} {S : Addr} {d : Value} {R : Result → Shared → Prop}
def maxKw (d : Value) : List (Str × Value) := [(Str.ofString "default", d)]
/-- the walk of max with a default: S holds nothing, or the best so far twice -/
theorem maxD_walk (W : Walks prog w A.in1 I fp wr n P St) (hcmp : CmpOf prog w A.in1 .Gt P bt) (hSf : S ∉ fp) : ∀ (k j : Nat) (s : Shared) (c : Nat) (its : Array Value), n - j = k → j ≤ n → St j s.heap →
    ((j = 0 ∧ its = #[]) ∨ ∃ i v, j = i + 1 ∧ its = #[v, v] ∧ P (argBest bt i) v) → s.heap.get? S = some { cls := .type "list", dict := none, data := .seq its c, slots := #[] } →
    (∀ v h' tk, ((n = 0 ∧ v = d) ∨ (0 < n ∧ P (argBest bt (n - 1)) v)) → (∀ b o, b ∉ wr → b ≠ S → s.heap.get? b = some o → h'.get? b = some o) → R (.ok (.ret v)) { s with heap := h', toks := tk }) →
    codeAny (model prog w) A (.builtin "max.loop" ⟨[.ref I, .none, .ref S], maxKw d⟩) R s := by
  have hSw : S ∉ wr := fun h => hSf (W.sub _ h)
  have nm : (toString "max" ++ toString ".loop" : String) = "max.loop" := by decide
  have oth : ∀ {a : Addr} {g : Heap} {f : Obj → Obj}, a ≠ S → (g.update S f).get? a = g.get? a := fun h => Heap.get?_update_other _ _ (Ne.symm h)
  intro k
  induction k with
  | zero =>
    intro j s c its hk hj st hits hS hR
    obtain rfl : j = n := by omega
    refine codeAny_builtin F.entry_max_loop ?_
    rw [Around.under_plainId F.plain_max_loop _]
    show wpAny _ A.in1 (seqItems? (.ref S) >>= _) _ _ s
    refine wpAny_bind (wpAny_seqItems hS rfl ?_)
    show wpAny _ A.in1 (tryCatch (pyNext (.ref I)) _ >>= _) _ _ s
    refine wpAny_bind (wpAny_tryCatch (W.done s _ _ st fun h' tk keep => ?_))
    rcases hits with ⟨rfl, rfl⟩ | ⟨i, v, rfl, rfl, pv⟩
    · show wpAny _ A.in1 (rule _ >>= _) _ _ _
      exact wpAny_bind (wpAny_rule (wpAny_pure (hR d _ tk (.inl ⟨rfl, rfl⟩) fun b o hb _ e => keep b o hb e)))
    · show wpAny _ A.in1 (updateSeq S (fun _ => #[]) >>= _) _ _ _
      refine wpAny_bind ?_
      refine wpAny_updateSeq (keep S _ hSw hS) rfl (wpAny_bind (wpAny_letGo (wpAny_pure ?_)))
      exact hR v _ tk (.inr ⟨Nat.succ_pos _, pv⟩) fun b o hb hbS e => (oth hbS).trans (keep b o hb e)
  | succ k ih =>
    intro j s c its hk hj st hits hS hR
    have lt : j < n := by omega
    refine codeAny_builtin F.entry_max_loop ?_
    rw [Around.under_plainId F.plain_max_loop _]
    show wpAny _ A.in1 (seqItems? (.ref S) >>= _) _ _ s
    refine wpAny_bind (wpAny_seqItems hS rfl ?_)
    show wpAny _ A.in1 (tryCatch (pyNext (.ref I)) _ >>= _) _ _ s
    refine wpAny_bind (wpAny_tryCatch (W.item j s _ _ lt st fun u h' tk pu st' keep => ?_))
    have hS' := keep S _ hSw hS
    rcases hits with ⟨rfl, rfl⟩ | ⟨i, v, rfl, rfl, pv⟩
    · show wpAny _ A.in1 (updateSeq S (fun _ => #[u, u]) >>= _) _ _ _
      refine wpAny_bind ?_
      refine wpAny_updateSeq hS' rfl ?_
      rw [nm]
      refine wpAny_pure ⟨plainId_quiet F.plain_max_loop _, ih 1 _ _ _ (by omega) lt (W.frame _ _ _ st' fun b hb o e => (oth fun z => hSf (by rw [← z]; exact hb)).trans e) (.inr ⟨0, u, rfl, rfl, pu⟩) (Heap.get?_update_self _ hS' rfl) fun v' h2 tk2 hv k2 => ?_⟩
      exact hR v' h2 tk2 hv fun b o hb hbS e => k2 b o hb hbS ((oth hbS).trans (keep b o hb e))
    · show wpAny _ A.in1 (tryCatch (holding [u, u] (richCompare .Gt u v >>= _)) _ >>= _) _ _ _
      refine wpAny_bind (wpAny_tryCatch (wpAny_holding (wpAny_bind (hcmp (i + 1) (argBest bt i) u v _ _ _ pu pv ?_))))
      refine wpAny_bind (wpAny_holding (wpAny_truthy_bool (wpAny_bind (wpAny_letGo (wpAny_pure ?_)))))
      cases hb : bt (i + 1) (argBest bt i) with
      | true =>
        rw [if_pos rfl]
        refine wpAny_bind ?_
        refine wpAny_updateSeq hS' rfl (wpAny_bind (wpAny_letGo ?_))
        rw [nm]
        refine wpAny_pure ⟨plainId_quiet F.plain_max_loop _, ih (i + 2) _ _ _ (by omega) lt (W.frame _ _ _ st' fun b hbf o e => (oth fun z => hSf (by rw [← z]; exact hbf)).trans e) (.inr ⟨i + 1, u, rfl, rfl, ?_⟩) (Heap.get?_update_self _ hS' rfl) fun v' h2 tk2 hv k2 => ?_⟩
        · simp only [argBest, hb, if_true]
          exact pu
        · exact hR v' h2 tk2 hv fun b o hbw hbS e => k2 b o hbw hbS ((oth hbS).trans (keep b o hbw e))
      | false =>
        rw [if_neg Bool.false_ne_true]
        refine wpAny_bind (wpAny_letGo ?_)
        rw [nm]
        refine wpAny_pure ⟨plainId_quiet F.plain_max_loop _, ih (i + 2) _ c _ (by omega) lt st' (.inr ⟨i + 1, v, rfl, rfl, ?_⟩) hS' fun v' h2 tk2 hv k2 => ?_⟩
        · simp only [argBest, hb, Bool.false_eq_true, if_false]
          exact pv
        · exact hR v' h2 tk2 hv fun b o hbw hbS e => k2 b o hbw hbS (keep b o hbw e)
end
section
variable {prog : Program} {w : World} {A : Around} {E : Value → Shared → Prop} {s : Shared} {l : Addr} {its : List Value} {ns : List Int} {Q : Value → Shared → Prop} {d : Value}
theorem maxD_args (a d : Value) : argsOk "max" ⟨[a], maxKw d⟩ := by unfold argsOk; kernel_rfl
theorem maxD_call (hh : A.handled = none) (hl : s.heap.IsList l its.toArray) (hi : IntsAre its ns)
    (h : ∀ h' tk v, (∀ b o, s.heap.get? b = some o → h'.get? b = some o) → ((ns = [] ∧ v = d) ∨ ∃ m t, v = .int m t ∧ m ∈ ns ∧ ∀ a, a ∈ ns → a ≤ m) → Q v { s with heap := h', toks := tk }) : wpAny (model prog w) A (call (.builtin "max") [.ref l] (maxKw d)) Q E s := by
  obtain ⟨xs, e⟩ := hi.allInts.items
  have hn : numsOf (intItems xs).toList = ns := by rw [← e]; exact hi.numsOf
  rw [nums_intItems] at hn
  subst hn
  rw [e] at hl
  have nm : (toString "max" ++ toString ".loop" : String) = "max.loop" := by decide
  refine wpAny_call (codeAny_call_builtin F.plain_max F.entry_max ?_)
  have main : wpAny (model prog w) A.in1 (Builtin.«max» ⟨[.ref l], maxKw d⟩) (fun fin s' => match fin with
      | .done f => (match (Except.ok f : Result) with | .ok (.ret v) => Q v s' | .ok _ => False | .error e => E e s')
      | .again c' => c'.quiet = true ∧ codeAny (model prog w) A c' (fun r s' => match r with | .ok (.ret v) => Q v s' | .ok _ => False | .error e => E e s') s') E s := by
    show wpAny _ A.in1 (Builtin.Builtins.bindParams "max" ["key", "default"] 0 ⟨[], maxKw d⟩ >>= _) _ _ s
    refine wpAny_bind (wpAny_of_eq (show Builtin.Builtins.bindParams "max" ["key", "default"] 0 ⟨[], maxKw d⟩ = pure [none, some d] from rfl) ?_)
    refine wpAny_bind (wpAny_pure ?_)
    refine wpAny_bind (iter_intList hl fun s2 es st hfp hlI => ?_)
    refine wpAny_bind (wpAny_newObj_type ?_)
    have W : Walks prog w A.in1 s.heap.objs.size _ _ _ _ _ := Walks.list (A := A.in1) hh _ l hlI (intItems xs)
    have hSf : s2.heap.objs.size ∉ [s.heap.objs.size, l] := fun hm => Nat.lt_irrefl _ (hfp _ hm)
    rw [nm]
    refine wpAny_pure ⟨plainId_quiet F.plain_max_loop _, maxD_walk W (CmpOf.ints_gt (numAt xs) (fun _ _ => intItems_at)) hSf _ 0 _ _ _ rfl (Nat.zero_le _) (W.frame _ _ _ st fun b _ o e => Heap.get?_push_of_some _ e) (.inl ⟨rfl, rfl⟩) (Heap.get?_push_size _ rfl) fun v h' tk hv keep => ?_⟩
    subst es
    refine h h' tk v (fun b o eb => ?_) ?_
    · have lt : b < s.heap.objs.size := Heap.lt_size eb
      refine keep b o (fun hm => ?_) (fun z => ?_) (Heap.get?_push_of_some _ (Heap.get?_push_of_some _ eb))
      · rw [List.mem_singleton] at hm
        exact absurd (hm ▸ lt) (Nat.lt_irrefl _)
      · rw [z, Heap.size_push] at lt
        exact absurd lt (Nat.not_lt_of_le (Nat.le_succ _))
    · rcases hv with ⟨h0, hd⟩ | ⟨h0, hp⟩
      · refine .inl ⟨?_, hd⟩
        have : xs.size = 0 := by simpa [intItems] using h0
        rw [Array.eq_empty_of_size_eq_zero this]
        rfl
      · have hsz : 0 < xs.size := by simpa [intItems] using h0
        have hp : (intItems xs)[argBest (fun i j => decide (numAt xs i > numAt xs j)) (xs.size - 1)]? = some v := by simpa [intItems] using hp
        obtain ⟨t, rfl⟩ := intItems_at hp
        obtain ⟨h1, h2⟩ := argBest_gt (numAt xs) (xs.size - 1)
        refine .inr ⟨_, t, rfl, ?_, fun a ha => ?_⟩
        · rw [numAt_eq]; exact PySem.getD_mem (by rw [List.length_map, Array.length_toList]; omega)
        · obtain ⟨j, hj, rfl⟩ := mem_getD ha
          rw [List.length_map, Array.length_toList] at hj
          rw [← numAt_eq]; exact h2 j (by omega)
  simp only [checkBuiltinCall, F.kind_max]
  cases hsig : Manifest.signature? "max" with
  | none => exact wpAny_pure main
  | some sig =>
    have ha := maxD_args (.ref l) d
    simp only [argsOk, hsig] at ha
    have h2 : Bind.checkArgs "max" sig ⟨[.ref l], maxKw d⟩ = pure () := ha
    show wpAny _ A.in1 (Bind.checkArgs "max" sig ⟨[.ref l], maxKw d⟩) _ _ s
    rw [h2]
    exact wpAny_pure main
end
/-- max(xs, default=None) -/
def rMaxD (K : PySem.W.Frag) : List V → List V → Hp → VK → Prop := fun vs zs H Q => ∃ (a : Addr) (ns : List Int), vs = [V.ref a] ∧ zs = [.non] ∧ SqL K H a (ns.map V.int) ∧ (ns = [] → Q .non H) ∧ ∀ m, m ∈ ns → (∀ y, y ∈ ns → y ≤ m) → Q (.int m) H
theorem cr_maxD {X : Cx} (hc : X.calm = true) : CallRK X (.builtin "max") [Str.ofString "default"] (rMaxD X.K) := by
  intro pins s σ H xs zs us ws Q I r r2 h
  obtain ⟨a, ns, rfl, rfl, hs, q0, q⟩ := h
  obtain ⟨its, rv, hl, _⟩ := I.list hs
  rw [Vals.ref1 r]
  cases r2 with
  | cons r3 t3 =>
    cases t3
    cases r3
    refine maxD_call (d := .none) (I.ok.hd hc) hl.isList rv.ints fun h' tk v hk hv => ?_
    rcases hv with ⟨e, rfl⟩ | ⟨m, t, rfl, h1, h2⟩
    · exact ⟨.non, H, I.kept hk, rfl, q0 e⟩
    · exact ⟨.int _, H, I.kept hk, ⟨_, rfl⟩, q m h1 h2⟩
def maxDC (xs : List Int) : Option (Option Int) := if xs = [] then some none else (maxL xs).bind fun m => some (some m)
section
variable {K : PySem.W.Frag} {es : List Sl} {te : TE}
theorem ev_maxD {ns : List Int} {m : Option Int} (ha : Ev K te es (.lst (ns.map .int))) (h : maxDC ns = some m) : Ev K (tCKw (rMaxD K) (tCons te tNil) (tCons (tC .non) tNil)) es (dO Dt.int m) := fun F G H σ s Q q =>
  ha F G H σ s _ fun v G1 H1 s1 g1 r1 => by
    show rMaxD K [v] [.non] H1 Q
    cases r1 with
    | lst hh r =>
      have e := ints_of r
      subst e
      refine ⟨_, ns, rfl, rfl, s1.g.seq hh, fun e0 => ?_, fun k h1 h2 => ?_⟩
      · unfold maxDC at h
        rw [if_pos e0] at h
        cases h
        exact q _ G1 H1 s1 g1 .non
      · have ne : ns ≠ [] := fun e => by rw [e] at h1; cases h1
        unfold maxDC at h
        rw [if_neg ne] at h
        cases hm : maxL ns with
        | none => rw [hm] at h; cases h
        | some z =>
          rw [hm] at h
          cases h
          obtain ⟨k1, k2⟩ := maxL_spec hm
          have : k = z := Int.le_antisymm (k2 k h1) (h2 z k1)
          subst this
          exact q _ G1 H1 s1 g1 (.int _)
/-- a list none of whose values is left out -/
def allC {α : Type} : List (Option α) → Option (List α)
  | [] => some []
  | x :: xs => x.bind fun a => (allC xs).bind fun b => some (a :: b)
theorem allC_map {α : Type} {em : α → Dt} : ∀ {xs : List (Option α)} {ys : List α}, allC xs = some ys → xs.map (dO em) = ys.map em
  | [], ys, h => by cases h; rfl
  | x :: xs, ys, h => by
    unfold allC at h
    cases x with
    | none => cases h
    | some a =>
      have h : (allC xs).bind (fun b => some (a :: b)) = some ys := h
      cases p : allC xs with
      | none => rw [p] at h; cases h
      | some b =>
        rw [p] at h
        cases h
        rw [List.map_cons, List.map_cons, allC_map p]
        rfl
theorem ev_unL {α : Type} {em : α → Dt} {xs : List (Option α)} {ys : List α} (h : allC xs = some ys) (ha : Ev K te es (.lst (xs.map (dO em)))) : Ev K te es (.lst (ys.map em)) := by
  rw [← allC_map h]
  exact ha
/-- isinstance of a number that may be left out -/
theorem ev_isiOI {ta tb : TE} {o : Option Int} (ha : Ev K ta es (dO Dt.int o)) (hb : Ev K tb es (.ty "int")) : Ev K (tCB (rIsi K) (tCons ta (tCons tb tNil))) es (.bl o.isSome) := by
  cases o with
  | none => exact ev_isi (n := "int") (t := "NoneType") rfl (by decide) (by decide) (by decide +kernel) ha hb
  | some i => exact ev_isi (n := "int") (t := "int") (b := true) rfl (by decide) (by decide) (by decide +kernel) ha hb
theorem ev_isiOB {ta tb : TE} {o : Option Int} (ha : Ev K ta es (dO Dt.int o)) (hb : Ev K tb es (.ty "bool")) : Ev K (tCB (rIsi K) (tCons ta (tCons tb tNil))) es (.bl false) := by
  cases o with
  | none => exact ev_isi (n := "bool") (t := "NoneType") rfl (by decide) (by decide) (by decide +kernel) ha hb
  | some i => exact ev_isi (n := "bool") (t := "int") rfl (by decide) (by decide) (by decide +kernel) ha hb
end
/-! x in a tuple of data of any depth -/
def inD (a : Dt) (ds : List Dt) : Bool := ds.any fun z => eqD z a
theorem any_pds (a : Dt) : ∀ ds : List Dt, (pds ds).any (fun z => PyData.eqv z (pd a)) = inD a ds
  | [] => rfl
  | d :: ds => by
    show ((pd d :: pds ds).any fun z => PyData.eqv z (pd a)) = _
    rw [List.any_cons, any_pds a ds]
    rfl
section
variable {X : Cx}
def rInTD (K : PySem.W.Frag) (neg : Bool) : R2 := fun x y H Q => ∃ d ds, Dp K H x d ∧ Dp K H y (.tuple ds) ∧ (d.canLay0 = true ∧ d.depth ≤ 60) ∧ SeqAt.shaped (.tuple ds) = true ∧ Q (.bl (if neg = true then !ds.any (fun z => PyData.eqv z d) else ds.any fun z => PyData.eqv z d)) H
theorem room_inT {xs : List PyData} {d : PyData} {u : Nat} (sd : d.canLay0 = true ∧ d.depth ≤ 60) (hu : u + 64 < cLine) : u + 1 + min (PyData.depthAll xs) d.depth < cLine := by
  have := sd.2
  have := Nat.min_le_right (PyData.depthAll xs) d.depth
  omega
theorem op_inTD (hu : X.A.units + 64 < cLine) : OpR X (compareOp .In) (rInTD X.K false) := by
  intro pins s σ H x y v u Q I rx ry h
  obtain ⟨d, ds, hd, he, sd, se, q⟩ := h
  obtain ⟨as, r1⟩ := Dp.reads I d x v hd rx
  obtain ⟨bs, r2⟩ := Dp.reads I (.tuple ds) y u he ry
  exact SeqAt.in_tuple_reads r2 r1 (SeqAt.canLay_of_shaped se) sd.1 (room_inT sd hu) ⟨.bl _, H, I, rfl, q⟩
theorem op_ninTD (hu : X.A.units + 64 < cLine) : OpR X (compareOp .NotIn) (rInTD X.K true) := by
  intro pins s σ H x y v u Q I rx ry h
  obtain ⟨d, ds, hd, he, sd, se, q⟩ := h
  obtain ⟨as, r1⟩ := Dp.reads I d x v hd rx
  obtain ⟨bs, r2⟩ := Dp.reads I (.tuple ds) y u he ry
  exact SeqAt.notIn_tuple_reads r2 r1 (SeqAt.canLay_of_shaped se) sd.1 (room_inT sd hu) ⟨.bl _, H, I, rfl, q⟩
end
section
variable {K : PySem.W.Frag} {es : List Sl} {ta tb : TE} {a : Dt} {ds : List Dt}
theorem ev_inTD (sa : SH 60 a) (sb : SH 64 (.tup ds)) (ha : Ev K ta es a) (hb : Ev K tb es (.tup ds)) : Ev K (tOp (rInTD K false) ta tb) es (.bl (inD a ds)) := ev_op ha hb fun F G H σ es x y s rx ry Q q => by
  have e : pd (.tup ds) = .tuple (pds ds) := by simp only [pd]
  have d2 := sb.dp s.g ry
  have s2 := shaped_of sb
  rw [e] at d2 s2
  refine ⟨pd a, pds ds, sa.dp s.g rx, d2, sa.lay, s2, ?_⟩
  rw [any_pds]
  exact q _ G H s (Same.refl _) (.bl _)
theorem ev_ninTD (sa : SH 60 a) (sb : SH 64 (.tup ds)) (ha : Ev K ta es a) (hb : Ev K tb es (.tup ds)) : Ev K (tOp (rInTD K true) ta tb) es (.bl (!inD a ds)) := ev_op ha hb fun F G H σ es x y s rx ry Q q => by
  have e : pd (.tup ds) = .tuple (pds ds) := by simp only [pd]
  have d2 := sb.dp s.g ry
  have s2 := shaped_of sb
  rw [e] at d2 s2
  refine ⟨pd a, pds ds, sa.dp s.g rx, d2, sa.lay, s2, ?_⟩
  rw [any_pds]
  exact q _ G H s (Same.refl _) (.bl _)
end
end DL

namespace G
open PySem L2 DL
structure Joint where
  turns : Bool
  axis : Int
  offset : (Int × Int × Int)
  least : Int
  most : Int
  box : Int
  error : Int
  speed : Int
  accel : Int
  brake : Int
structure Body where
  first : (Int × Int × Int)
  last : (Int × Int × Int)
  radius : Int
structure Capsule where
  link : Int
  body : Body
structure Arm where
  joints : (List Joint)
  capsules : (List Capsule)
  beside : (List (Int × Int))
structure Move where
  first : (List Int)
  last : (List Int)
structure Mover where
  arm : Arm
  move : Move
  held : (List Body)
def m__law_rows (script : (List Int)) (count : Int) : Option (List Int) :=
lt ([] : (List Int)) fun rows_here1 =>
(rngC 0 count).bind fun r2 =>
(forL r2 (rows_here1 : (List Int)) fun k4 s3 =>
lt (0 : Int) fun cell5 =>
(if (decide (0 < (script.length : Int))) = true then
(modC k4 (script.length : Int)).bind fun t6 =>
(atC script t6).bind fun t7 =>
some (t7 : Int)
else
some (cell5 : Int)).bind fun (s8 : Int) =>
(if (decide (s8 < 0)) = true then
(mulC 2 s8).bind fun t9 =>
lt (1 - t9 : Int) fun cell10 =>
some (cell10 : Int)
else
some (s8 : Int)).bind fun (s11 : Int) =>
(if ((decide ((script.length : Int) ≤ k4)) || (decide (s11 < 1000000000))) = true then
(mulC 977 k4).bind fun t12 =>
(mulC ((s11 + t12) + 5) 69623).bind fun t13 =>
(mulC k4 k4).bind fun t14 =>
(mulC t14 48273).bind fun t15 =>
(modC (t13 + t15) 2147483629).bind fun t16 =>
(mulC 31 k4).bind fun t17 =>
(mulC ((t16 + t17) + 11) 4829173650284619377).bind fun t18 =>
(modC t18 18446744073709551533).bind fun t19 =>
some (t19 : Int)
else
some (s11 : Int)).bind fun (s20 : Int) =>
(appC s3 s20).bind fun rows_here21 =>
some (rows_here21 : (List Int))).bind fun (s22 : (List Int)) =>
some s22
def m_is_within (vector : (Int × Int × Int)) (most : Int) : Option Bool :=
some (decide ((max (max (vector.1.natAbs : Int) (vector.2.1.natAbs : Int)) (vector.2.2.natAbs : Int)) ≤ most))
def m_Joint_init (turns : Bool) (axis : Int) (offset : (Int × Int × Int)) (least : Int) (most : Int) (box : Int) (error : Int) (speed : Int) (accel : Int) (brake : Int) : Option Joint :=
lt (if turns = true then 8000000 else 10000000 : Int) fun bound1 =>
if (!(decide (axis ∈ [0, 1, 2]))) = true then
none
else
(m_is_within offset 10000000).bind fun t2 =>
if (!t2) = true then
none
else
if (!((decide ((-bound1) ≤ least)) && ((decide (least ≤ most)) && (decide (most ≤ bound1))))) = true then
none
else
if (!((decide (0 ≤ box)) && (decide (box ≤ 100000)))) = true then
none
else
if (!((decide (0 ≤ error)) && (decide (error ≤ 100000)))) = true then
none
else
if (!((decide (1 ≤ speed)) && (decide (speed ≤ 1000000000)))) = true then
none
else
if (!((decide (1 ≤ accel)) && (decide (accel ≤ 10000000000)))) = true then
none
else
if (!((decide (accel ≤ brake)) && (decide (brake ≤ 10000000000)))) = true then
none
else
some (⟨turns, axis, offset, least, most, box, error, speed, accel, brake⟩ : Joint)
def m__law_joint (row : Int) (error : Int) : Option Joint :=
(modC row 3).bind fun t1 =>
lt (decide (0 < t1) : Bool) fun turns2 =>
(divC row 3).bind fun t3 =>
(modC t3 3).bind fun t4 =>
(divC row 9).bind fun t5 =>
(modC t5 41).bind fun t6 =>
(divC row 369).bind fun t7 =>
(modC t7 41).bind fun t8 =>
(divC row 15129).bind fun t9 =>
(modC t9 201).bind fun t10 =>
lt ((t6 - 20, t8 - 20, t10 - 100) : (Int × Int × Int)) fun offset11 =>
lt (if turns2 = true then 2000000 else 300 : Int) fun reach_here12 =>
(if (!turns2) = true then
(modC error 7).bind fun t13 =>
some (t13 : Int)
else
some (error : Int)).bind fun (s14 : Int) =>
(divC row 3041).bind fun t15 =>
(modC t15 3).bind fun t16 =>
(m_Joint_init turns2 t4 offset11 (-reach_here12) reach_here12 t16 s14 1 1 1).bind fun t17 =>
some t17
def m_Body_init (first : (Int × Int × Int)) (last : (Int × Int × Int)) (radius : Int) : Option Body :=
(m_is_within first 10000000).bind fun t1 =>
(if (!t1) = true then some true else (m_is_within last 10000000).bind fun t2 => some (!t2)).bind fun b3 =>
if b3 = true then
none
else
if (!((decide (0 ≤ radius)) && (decide (radius ≤ 1000000)))) = true then
none
else
some (⟨first, last, radius⟩ : Body)
def m_Capsule_init (link : Int) (body : Body) : Option Capsule :=
some (⟨link, body⟩ : Capsule)
def m__law_capsule (row : Int) (links : Int) : Option Capsule :=
(modC row 61).bind fun t1 =>
(divC row 61).bind fun t2 =>
(modC t2 61).bind fun t3 =>
(divC row 3721).bind fun t4 =>
(modC t4 121).bind fun t5 =>
lt ((t1 - 30, t3 - 30, t5 - 60) : (Int × Int × Int)) fun first6 =>
(divC row 450241).bind fun t7 =>
(modC t7 61).bind fun t8 =>
(divC row 7).bind fun t9 =>
(modC t9 61).bind fun t10 =>
(divC row 13).bind fun t11 =>
(modC t11 121).bind fun t12 =>
lt ((t8 - 30, t10 - 30, t12 - 60) : (Int × Int × Int)) fun last13 =>
(divC row 97).bind fun t14 =>
(modC t14 (links + 1)).bind fun t15 =>
(divC row 11).bind fun t16 =>
(modC t16 12).bind fun t17 =>
(m_Body_init first6 last13 t17).bind fun t18 =>
(m_Capsule_init t15 t18).bind fun t19 =>
some t19
def m_Arm_init (joints : (List Joint)) (capsules : (List Capsule)) (beside : (List (Int × Int))) : Option Arm :=
if (!((decide (1 ≤ (joints.length : Int))) && (decide ((joints.length : Int) ≤ 6)))) = true then
none
else
if (decide (8 < (capsules.length : Int))) = true then
none
else
(forL capsules (() : Unit) fun capsule2 s1 =>
if (!((decide (0 ≤ capsule2.link)) && (decide (capsule2.link ≤ (joints.length : Int))))) = true then
none
else
some (() : Unit)).bind fun (s3 : Unit) =>
(forL beside (() : Unit) fun pair5 s4 =>
if (!((decide (0 ≤ pair5.1)) && ((decide (pair5.1 < pair5.2)) && (decide (pair5.2 < (capsules.length : Int)))))) = true then
none
else
some (() : Unit)).bind fun (s6 : Unit) =>
(mapP beside (fun pair7 => pair7)).bind fun t8 =>
some (⟨joints, capsules, t8⟩ : Arm)
def m__law_arm (rows_here : (List Int)) (at_ : Int) (error : Int) : Option Arm :=
(atC rows_here at_).bind fun t1 =>
(modC t1 3).bind fun t2 =>
lt (1 + t2 : Int) fun many3 =>
(rngC 0 many3).bind fun r4 =>
(mapC r4 (fun k5 => (atC rows_here ((at_ + 1) + k5)).bind fun t6 => (mulC 200 k5).bind fun t7 => (modC error (1 + t7)).bind fun t8 => (m__law_joint t6 t8).bind fun t9 => some t9)).bind fun t10 =>
(atC rows_here at_).bind fun t11 =>
(divC t11 3).bind fun t12 =>
(modC t12 3).bind fun t13 =>
(rngC 0 (1 + t13)).bind fun r14 =>
(mapC r14 (fun k15 => (atC rows_here ((at_ + 4) + k15)).bind fun t16 => (m__law_capsule t16 many3).bind fun t17 => some t17)).bind fun t18 =>
lt ([] : (List (Int × Int))) fun beside19 =>
(if (decide (2 < (t18.length : Int))) = true then (atC rows_here at_).bind fun t20 => (divC t20 9).bind fun t21 => (modC t21 2).bind fun t22 => some (decide (t22 = 0)) else some false).bind fun b23 =>
(if b23 = true then
lt ([(0, 2)] : (List (Int × Int))) fun beside24 =>
some (beside24 : (List (Int × Int)))
else
some (beside19 : (List (Int × Int)))).bind fun (s25 : (List (Int × Int))) =>
(m_Arm_init t10 t18 s25).bind fun t26 =>
some t26
def m__law_values (joints : (List Joint)) (row : Int) : Option (List Int) :=
lt ([] : (List Int)) fun values_here1 =>
(rngC 0 (joints.length : Int)).bind fun r2 =>
(forL r2 (values_here1 : (List Int)) fun k4 s3 =>
(atC joints k4).bind fun t5 =>
(atC joints k4).bind fun t6 =>
lt ((t5.most - t6.least) + 1 : Int) fun size7 =>
(atC joints k4).bind fun t8 =>
(divC row (k4 + 1)).bind fun t9 =>
(divC row 1000003).bind fun t10 =>
(mulC t10 (k4 + 3)).bind fun t11 =>
(modC (t9 + t11) size7).bind fun t12 =>
(appC s3 (t8.least + t12)).bind fun values_here13 =>
some (values_here13 : (List Int))).bind fun (s14 : (List Int)) =>
some s14
def m_Arm_fits (self : Arm) (row : (List Int)) : Option Bool :=
if (!(decide ((row.length : Int) = (self.joints.length : Int)))) = true then
some false
else
(rngC 0 (row.length : Int)).bind fun r1 =>
(mapC r1 (fun k2 => (atC self.joints k2).bind fun t3 => (atC row k2).bind fun t4 => (if (decide (t3.least ≤ t4)) = true then ((atC self.joints k2).bind fun t5 => some t5.most).bind fun y6 => some (decide (t4 ≤ y6)) else some false).bind fun t7 => some t7)).bind fun t8 =>
some (t8.all _root_.id)
def m_Move_init (arm : Arm) (first : (List Int)) (last : (List Int)) : Option Move :=
(m_Arm_fits arm first).bind fun t1 =>
if (!t1) = true then
none
else
(m_Arm_fits arm last).bind fun t2 =>
if (!t2) = true then
none
else
some (⟨first, last⟩ : Move)
def m_Mover_init (arm : Arm) (move : Move) (held : (List Body)) : Option Mover :=
some (⟨arm, move, held⟩ : Mover)
def m__law_mover (rows_here : (List Int)) (at_ : Int) (error : Int) : Option Mover :=
(m__law_arm rows_here at_ error).bind fun t1 =>
(atC rows_here (at_ + 7)).bind fun t2 =>
(m__law_values t1.joints t2).bind fun t3 =>
(atC rows_here (at_ + 8)).bind fun t4 =>
(m__law_values t1.joints t4).bind fun t5 =>
(atC rows_here at_).bind fun t7 =>
(divC t7 18).bind fun t8 =>
(modC t8 3).bind fun t9 =>
(if (decide (t9 = 0)) = true then
some (t3 : (List Int))
else
some (t5 : (List Int))).bind fun (s11 : (List Int)) =>
(rngC 0 (t3.length : Int)).bind fun r12 =>
(forL r12 (s11 : (List Int)) fun k14 s13 =>
(atC rows_here at_).bind fun t15 =>
(divC t15 54).bind fun t16 =>
(modC t16 3).bind fun t17 =>
(if (decide (0 < t17)) = true then
(atC t3 k14).bind fun t18 =>
(atC s13 k14).bind fun t19 =>
(atC t3 k14).bind fun t20 =>
(divC (t19 - t20) 16).bind fun t21 =>
(setC s13 k14 (t18 + t21)).bind fun last22 =>
some (last22 : (List Int))
else
some (s13 : (List Int))).bind fun (s23 : (List Int)) =>
some (s23 : (List Int))).bind fun (s24 : (List Int)) =>
(atC rows_here at_).bind fun t25 =>
(divC t25 162).bind fun t26 =>
(modC t26 2).bind fun t27 =>
(if (decide (t27 = 0)) = true then
(atC rows_here (at_ + 8)).bind fun t28 =>
(modC t28 40).bind fun t29 =>
(atC rows_here (at_ + 7)).bind fun t30 =>
(modC t30 9).bind fun t31 =>
(m_Body_init (0, 0, 20) (t29, 0, 30) t31).bind fun t32 =>
some ([t32] : (List Body))
else
some (([] : (List Body)) : (List Body))).bind fun (s33 : (List Body)) =>
(m_Move_init t1 t3 s24).bind fun t34 =>
(m_Mover_init t1 t34 s33).bind fun t35 =>
some t35
def m_dot (first : (Int × Int × Int)) (second : (Int × Int × Int)) : Option Int :=
(mulC first.1 second.1).bind fun t1 =>
(mulC first.2.1 second.2.1).bind fun t2 =>
(mulC first.2.2 second.2.2).bind fun t3 =>
some ((t1 + t2) + t3)
def m_root_up (number : Int) : Option Int :=
(isqrtC number).bind fun t1 =>
(mulC t1 t1).bind fun t2 =>
if (decide (t2 = number)) = true then
some t1
else
some (t1 + 1)
def m_length_up (vector : (Int × Int × Int)) : Option Int :=
(m_dot vector vector).bind fun t1 =>
(m_root_up t1).bind fun t2 =>
some t2
def m_Move_middle (self : Move) (part : (Int × Int)) : Option (List Int) :=
lt ([] : (List Int)) fun row1 =>
(rngC 0 (self.first.length : Int)).bind fun r2 =>
(forL r2 (row1 : (List Int)) fun k4 s3 =>
(atC self.last k4).bind fun t5 =>
(atC self.first k4).bind fun t6 =>
(mulC 2 part.2).bind fun t7 =>
(mulC (t5 - t6) (t7 + 1)).bind fun t8 =>
(atC self.first k4).bind fun t9 =>
(shrC t8 (part.1 + 1)).bind fun t10 =>
(appC s3 (t9 + t10)).bind fun row11 =>
some (row11 : (List Int))).bind fun (s12 : (List Int)) =>
some s12
def m_Mover_bodies (self : Mover) : Option (List (Int × Body)) :=
(mapP self.arm.capsules (fun capsule1 => (capsule1.link, capsule1.body))).bind fun t2 =>
(forL self.held (t2 : (List (Int × Body))) fun body5 s4 =>
(appC s4 ((self.arm.joints.length : Int), body5)).bind fun row6 =>
some (row6 : (List (Int × Body)))).bind fun (s7 : (List (Int × Body))) =>
some s7
def m_turned (place : (Int × Int × Int × Int)) (axis : Int) (value : (Int × Int)) : Option (List Int) :=
(mulC value.2 value.2).bind fun t1 =>
(mulC value.1 value.1).bind fun t2 =>
lt (t1 - t2 : Int) fun straight3 =>
(mulC 2 value.1).bind fun t4 =>
(mulC t4 value.2).bind fun t5 =>
(mulC value.2 value.2).bind fun t6 =>
(mulC value.1 value.1).bind fun t7 =>
lt (t6 + t7 : Int) fun whole8 =>
(modC (axis + 1) 3).bind fun t9 =>
(modC (axis + 2) 3).bind fun t10 =>
(mulC place.2.2.2 whole8).bind fun t11 =>
lt ([0, 0, 0, t11] : (List Int)) fun out12 =>
(atC [place.1, place.2.1, place.2.2.1, place.2.2.2] axis).bind fun t13 =>
(mulC t13 whole8).bind fun t14 =>
(setC out12 axis t14).bind fun out15 =>
(atC [place.1, place.2.1, place.2.2.1, place.2.2.2] t9).bind fun t16 =>
(mulC t16 straight3).bind fun t17 =>
(atC [place.1, place.2.1, place.2.2.1, place.2.2.2] t10).bind fun t18 =>
(mulC t18 t5).bind fun t19 =>
(setC out15 t9 (t17 - t19)).bind fun out20 =>
(atC [place.1, place.2.1, place.2.2.1, place.2.2.2] t9).bind fun t21 =>
(mulC t21 t5).bind fun t22 =>
(atC [place.1, place.2.1, place.2.2.1, place.2.2.2] t10).bind fun t23 =>
(mulC t23 straight3).bind fun t24 =>
(setC out20 t10 (t22 + t24)).bind fun out25 =>
some out25
def m_shifted (place : (Int × Int × Int × Int)) (axis : Int) (value : (Int × Int)) : Option (List Int) :=
(mulC place.1 value.2).bind fun t1 =>
(mulC place.2.1 value.2).bind fun t2 =>
(mulC place.2.2.1 value.2).bind fun t3 =>
(mulC place.2.2.2 value.2).bind fun t4 =>
lt ([t1, t2, t3, t4] : (List Int)) fun out5 =>
(atC out5 axis).bind fun t6 =>
(mulC value.1 place.2.2.2).bind fun t7 =>
(setC out5 axis (t6 + t7)).bind fun out8 =>
some out8
def m_added (place : (List Int)) (other : (Int × Int × Int × Int)) : Option (Int × Int × Int × Int) :=
(atC place 0).bind fun t2 =>
(mulC t2 other.2.2.2).bind fun t3 =>
(atC place 3).bind fun t4 =>
(mulC other.1 t4).bind fun t5 =>
(atC place 1).bind fun t6 =>
(mulC t6 other.2.2.2).bind fun t7 =>
(atC place 3).bind fun t8 =>
(mulC other.2.1 t8).bind fun t9 =>
(atC place 2).bind fun t10 =>
(mulC t10 other.2.2.2).bind fun t11 =>
(atC place 3).bind fun t12 =>
(mulC other.2.2.1 t12).bind fun t13 =>
lt ((t3 + t5, t7 + t9, t11 + t13) : (Int × Int × Int)) fun sums14 =>
(atC place 3).bind fun t15 =>
(mulC t15 other.2.2.2).bind fun t16 =>
some (sums14.1, sums14.2.1, sums14.2.2, t16)
def m_reduced (place : (Int × Int × Int × Int)) : Option (Int × Int × Int × Int) :=
lt (((Nat.gcd ((Nat.gcd place.1.natAbs place.2.1.natAbs : Nat) : Int).natAbs ((Nat.gcd place.2.2.1.natAbs place.2.2.2.natAbs : Nat) : Int).natAbs : Nat) : Int) : Int) fun common1 =>
(divC place.1 common1).bind fun t3 =>
(divC place.2.1 common1).bind fun t4 =>
(divC place.2.2.1 common1).bind fun t5 =>
(divC place.2.2.2 common1).bind fun t6 =>
some (t3, t4, t5, t6)
def m_true_place (arm : Arm) (values : (List (Int × Int))) (offsets : (List (Int × Int × Int × Int))) (link : Int) (point : (Int × Int × Int)) : Option (Int × Int × Int × Int) :=
lt ((point.1, point.2.1, point.2.2, 1) : (Int × Int × Int × Int)) fun place1 =>
(rngDC (link - 1) (-1)).bind fun r2 =>
(forL r2 (place1 : (Int × Int × Int × Int)) fun k4 s3 =>
(atC arm.joints k4).bind fun t5 =>
(atC values k4).bind fun t6 =>
(if t5.turns = true then
(mulC t6.2 1000000).bind fun t7 =>
(m_turned s3 t5.axis (t6.1, t7)).bind fun t8 =>
some (t8 : (List Int))
else
(m_shifted s3 t5.axis (t6.1, t6.2)).bind fun t9 =>
some (t9 : (List Int))).bind fun (s10 : (List Int)) =>
(atC offsets k4).bind fun t11 =>
(m_added s10 t11).bind fun t12 =>
(m_reduced t12).bind fun t13 =>
some (t13 : (Int × Int × Int × Int))).bind fun (s14 : (Int × Int × Int × Int)) =>
some s14
def m_spot (arm : Arm) (row : (List Int)) (link : Int) (point : (Int × Int × Int)) : Option (Int × Int × Int) :=
(mapP arm.joints (fun joint1 => (joint1.offset.1, joint1.offset.2.1, joint1.offset.2.2, 1))).bind fun t2 =>
(mapP row (fun value3 => (value3, 1))).bind fun t4 =>
(m_true_place arm t4 t2 link point).bind fun t5 =>
(divC t5.1 t5.2.2.2).bind fun t6 =>
(divC t5.2.1 t5.2.2.2).bind fun t7 =>
(divC t5.2.2.1 t5.2.2.2).bind fun t8 =>
some (t6, t7, t8)
def m_Mover_lines (self : Mover) (part : (Int × Int)) : Option (List ((Int × Int × Int) × (Int × Int × Int))) :=
(m_Move_middle self.move part).bind fun t1 =>
lt ([] : (List ((Int × Int × Int) × (Int × Int × Int)))) fun row2 =>
(m_Mover_bodies self).bind fun t3 =>
(forL t3 (row2 : (List ((Int × Int × Int) × (Int × Int × Int)))) fun x5 s4 =>
(m_spot self.arm t1 x5.1 x5.2.first).bind fun t6 =>
(m_spot self.arm t1 x5.1 x5.2.last).bind fun t7 =>
(appC s4 (t6, t7)).bind fun row8 =>
some (row8 : (List ((Int × Int × Int) × (Int × Int × Int))))).bind fun (s9 : (List ((Int × Int × Int) × (Int × Int × Int)))) =>
some s9
def m_divide_up (number : Int) (divisor : Int) : Option Int :=
(divC (-number) divisor).bind fun t1 =>
some (-t1)
def m_Move_halves (self : Move) (depth : Int) : Option (List Int) :=
lt ([] : (List Int)) fun row1 =>
(rngC 0 (self.first.length : Int)).bind fun r2 =>
(forL r2 (row1 : (List Int)) fun k4 s3 =>
(atC self.last k4).bind fun t5 =>
(atC self.first k4).bind fun t6 =>
lt (((t5 - t6).natAbs : Int) : Int) fun far7 =>
(if (decide (0 < far7)) = true then (shlC 1 (depth + 1)).bind fun t8 => (m_divide_up far7 t8).bind fun t9 => some (t9 + 1) else some 0).bind fun t10 =>
(appC s3 t10).bind fun row11 =>
some (row11 : (List Int))).bind fun (s12 : (List Int)) =>
some s12
def m_unknown (arm : Arm) (halves : (List Int)) (link : Int) (body : Body) : Option Int :=
lt (2 : Int) fun apart1 =>
(m_length_up body.first).bind fun t2 =>
(m_length_up body.last).bind fun t3 =>
lt (max t2 t3 : Int) fun lever4 =>
(rngDC (link - 1) (-1)).bind fun r5 =>
(forL r5 ((apart1, lever4) : Int × Int) fun k7 s6 =>
(atC arm.joints k7).bind fun t8 =>
(atC halves k7).bind fun t9 =>
lt (t9 + t8.error : Int) fun loose10 =>
(if t8.turns = true then
(mulC 2 s6.2).bind fun t11 =>
(mulC t11 loose10).bind fun t12 =>
(m_divide_up t12 1000000).bind fun t13 =>
lt (s6.1 + t13 : Int) fun apart14 =>
some ((apart14, s6.2) : Int × Int)
else
lt (s6.1 + loose10 : Int) fun apart15 =>
lt ((s6.2 + (max (t8.least.natAbs : Int) (t8.most.natAbs : Int))) + t8.error : Int) fun lever16 =>
some ((apart15, lever16) : Int × Int)).bind fun (s17 : Int × Int) =>
(mulC 2 t8.box).bind fun t18 =>
lt (s17.1 + t18 : Int) fun apart19 =>
(m_length_up t8.offset).bind fun t20 =>
(mulC 2 t8.box).bind fun t21 =>
lt ((s17.2 + t20) + t21 : Int) fun lever22 =>
some ((apart19, lever22) : Int × Int)).bind fun (s23 : Int × Int) =>
some s23.1
def m_Mover_unknowns (self : Mover) (halves : (List Int)) : Option (List Int) :=
(m_Mover_bodies self).bind fun t1 =>
(mapC t1 (fun x2 => (m_unknown self.arm halves x2.1 x2.2).bind fun t3 => some t3)).bind fun t4 =>
some t4
def m_reach_over (mover : Mover) (direction : (Int × Int × Int)) (part : (Int × Int)) : Option (Option Int) :=
(m_length_up direction).bind fun t1 =>
(m_Mover_lines mover part).bind fun t2 =>
(m_Move_halves mover.move part.1).bind fun t3 =>
(m_Mover_unknowns mover t3).bind fun t4 =>
(m_Mover_bodies mover).bind fun t5 =>
lt ([] : (List Int)) fun reaches6 =>
(rngC 0 (t5.length : Int)).bind fun r7 =>
(forL r7 (reaches6 : (List Int)) fun k9 s8 =>
(atC t2 k9).bind fun t10 =>
(m_dot direction t10.1).bind fun t11 =>
(atC t2 k9).bind fun t12 =>
(m_dot direction t12.2).bind fun t13 =>
lt (max t11 t13 : Int) fun far14 =>
(atC t5 k9).bind fun t15 =>
(atC t4 k9).bind fun t16 =>
(mulC t1 (t15.2.radius + t16)).bind fun t17 =>
(appC s8 (far14 + t17)).bind fun reaches18 =>
some (reaches18 : (List Int))).bind fun (s19 : (List Int)) =>
(maxDC s19).bind fun t20 =>
some t20
def m_extent (mover : Mover) (direction : (Int × Int × Int)) (depth : Int) : Option (Option Int) :=
(m_is_within direction 1000).bind fun t1 =>
if ((!t1) || ((decide (direction.1 = direction.2.1)) && ((decide (direction.2.1 = direction.2.2)) && (decide (direction.2.2 = 0))))) = true then
none
else
if (!((decide (0 ≤ depth)) && (decide (depth ≤ 8)))) = true then
none
else
(shlC 1 depth).bind fun t2 =>
(rngC 0 t2).bind fun r3 =>
(mapC r3 (fun at_4 => (m_reach_over mover direction (depth, at_4)).bind fun t5 => some t5)).bind fun t6 =>
(atC t6 0).bind fun t7 =>
if t7.isNone = true then
some (none : (Option Int))
else
(allC t6).bind fun u8 =>
(maxL u8).bind fun t9 =>
some (some t9)
def xm_extent (mover : Mover) (direction : (Int × Int × Int)) (depth : Int) : Option Str :=
(m_is_within direction 1000).bind fun t1 =>
if ((!t1) || ((decide (direction.1 = direction.2.1)) && ((decide (direction.2.1 = direction.2.2)) && (decide (direction.2.2 = 0))))) = true then
some ("direction" : Str)
else
if (!((decide (0 ≤ depth)) && (decide (depth ≤ 8)))) = true then
some ("depth" : Str)
else
none
def m__law_dot (one : (Int × Int × Int)) (two : (Int × Int × Int)) : Option Int :=
(mulC one.1 two.1).bind fun t1 =>
(mulC one.2.1 two.2.1).bind fun t2 =>
(mulC one.2.2 two.2.2).bind fun t3 =>
some ((t1 + t2) + t3)
def m__law_root_up (number : Int) : Option Int :=
lt (0 : Int) fun low1 =>
lt (1 : Int) fun high2 =>
thenF (S := Int) (R := Int) (forF (rng 0 400) (high2 : Int) fun k4 s3 =>
(mulC s3 s3).bind fun t5 =>
if (decide (number ≤ t5)) = true then
some (.bk s3)
else
(mulC s3 2).bind fun t6 =>
some (.nx t6)) (fun (s7 : Int) =>
thenF (S := Int × Int) (R := Int) (forF (rng 0 400) ((s7, low1) : Int × Int) fun k9 s8 =>
if (decide (s8.1 ≤ (s8.2 + 1))) = true then
some (.bk (s8.1, s8.2))
else
(divC (s8.2 + s8.1) 2).bind fun t10 =>
(mulC t10 t10).bind fun t11 =>
(if (decide (number ≤ t11)) = true then
some ((t10, s8.2) : Int × Int)
else
some ((s8.1, t10) : Int × Int)).bind fun (s12 : Int × Int) =>
some (.nx (s12.1, s12.2))) (fun (s13 : Int × Int) =>
some (if (decide (number = 0)) = true then 0 else s13.1)) (fun r => r)) (fun r => r)
def m__law_reach (mover_here : Mover) (direction : (Int × Int × Int)) (part : (Int × Int)) : Option (Option Int) :=
(m__law_dot direction direction).bind fun t1 =>
(m__law_root_up t1).bind fun t2 =>
(m_Mover_lines mover_here part).bind fun t3 =>
(m_Move_halves mover_here.move part.1).bind fun t4 =>
(m_Mover_unknowns mover_here t4).bind fun t5 =>
(m_Mover_bodies mover_here).bind fun t6 =>
lt ((none : (Option Int)) : (Option Int)) fun best7 =>
(rngC 0 (t6.length : Int)).bind fun r8 =>
(forL r8 (best7 : (Option Int)) fun k10 s9 =>
(atC t3 k10).bind fun t11 =>
(m__law_dot direction t11.1).bind fun t12 =>
(atC t3 k10).bind fun t13 =>
(m__law_dot direction t13.2).bind fun t14 =>
lt (max t12 t14 : Int) fun far15 =>
(atC t6 k10).bind fun t16 =>
(atC t5 k10).bind fun t17 =>
(mulC t2 (t16.2.radius + t17)).bind fun t18 =>
lt (far15 + t18 : Int) fun reach_here19 =>
(if s9.isNone = true then some true else (s9).bind fun o20 => some (decide (o20 < reach_here19))).bind fun b21 =>
(if b21 = true then
lt (some reach_here19 : (Option Int)) fun best22 =>
some (best22 : (Option Int))
else
some (s9 : (Option Int))).bind fun (s23 : (Option Int)) =>
some (s23 : (Option Int))).bind fun (s24 : (Option Int)) =>
some s24
def m__law_is_integer (actual : (Option Int)) : Option Bool :=
some (actual.isSome && (!false))
def m__law_meant (joints : (List Joint)) (first : (List Int)) (last : (List Int)) (part : (Int × Int)) (row : Int) : Option (List (Int × Int)) :=
lt ([] : (List (Int × Int))) fun values_here1 =>
(rngC 0 (joints.length : Int)).bind fun r2 =>
(forL r2 (values_here1 : (List (Int × Int))) fun k4 s3 =>
(divC row (k4 + 2)).bind fun t5 =>
(atC joints k4).bind fun t6 =>
(mulC 2 t6.error).bind fun t7 =>
(modC t5 (t7 + 1)).bind fun t8 =>
(atC joints k4).bind fun t9 =>
lt (t8 - t9.error : Int) fun loose10 =>
(atC first k4).bind fun t11 =>
(mulC (t11 + loose10) part.2).bind fun t12 =>
(atC last k4).bind fun t13 =>
(atC first k4).bind fun t14 =>
(mulC (t13 - t14) part.1).bind fun t15 =>
lt (t12 + t15 : Int) fun over16 =>
(appC s3 (over16, part.2)).bind fun values_here17 =>
some (values_here17 : (List (Int × Int)))).bind fun (s18 : (List (Int × Int))) =>
some s18
def m__law_offsets (joints : (List Joint)) (row : Int) : Option (List (Int × Int × Int × Int)) :=
lt ([] : (List (Int × Int × Int × Int))) fun offsets_here1 =>
(rngC 0 (joints.length : Int)).bind fun r2 =>
(forL r2 (offsets_here1 : (List (Int × Int × Int × Int))) fun k4 s3 =>
(atC joints k4).bind fun t5 =>
(mulC 2 t5.box).bind fun t6 =>
lt (t6 + 1 : Int) fun wide7 =>
(mulC 7 k4).bind fun t9 =>
(divC row ((t9 + 0) + 1)).bind fun t10 =>
(modC t10 wide7).bind fun t11 =>
(atC joints k4).bind fun t12 =>
(mulC 7 k4).bind fun t13 =>
(divC row ((t13 + 1) + 1)).bind fun t14 =>
(modC t14 wide7).bind fun t15 =>
(atC joints k4).bind fun t16 =>
(mulC 7 k4).bind fun t17 =>
(divC row ((t17 + 2) + 1)).bind fun t18 =>
(modC t18 wide7).bind fun t19 =>
(atC joints k4).bind fun t20 =>
lt ((t11 - t12.box, t15 - t16.box, t19 - t20.box) : (Int × Int × Int)) fun shift21 =>
(atC joints k4).bind fun t23 =>
(atC joints k4).bind fun t24 =>
(atC joints k4).bind fun t25 =>
(appC s3 (t23.offset.1 + shift21.1, t24.offset.2.1 + shift21.2.1, t25.offset.2.2 + shift21.2.2, 1)).bind fun offsets_here26 =>
some (offsets_here26 : (List (Int × Int × Int × Int)))).bind fun (s27 : (List (Int × Int × Int × Int))) =>
some s27
def m__law_turned (place : (List Int)) (axis : Int) (value : (Int × Int)) : Option (List Int) :=
lt (value.1 : Int) fun over1 =>
(mulC value.2 1000000).bind fun t2 =>
(modC (axis + 1) 3).bind fun t3 =>
(modC (axis + 2) 3).bind fun t4 =>
(mulC t2 t2).bind fun t5 =>
(mulC over1 over1).bind fun t6 =>
lt (t5 - t6 : Int) fun straight7 =>
(mulC 2 over1).bind fun t8 =>
(mulC t8 t2).bind fun t9 =>
(mulC t2 t2).bind fun t10 =>
(mulC over1 over1).bind fun t11 =>
lt (t10 + t11 : Int) fun whole12 =>
(atC place 0).bind fun t13 =>
(mulC t13 whole12).bind fun t14 =>
(atC place 1).bind fun t15 =>
(mulC t15 whole12).bind fun t16 =>
(atC place 2).bind fun t17 =>
(mulC t17 whole12).bind fun t18 =>
(atC place 3).bind fun t19 =>
(mulC t19 whole12).bind fun t20 =>
lt ([t14, t16, t18, t20] : (List Int)) fun out21 =>
(atC place t3).bind fun t22 =>
(mulC t22 straight7).bind fun t23 =>
(atC place t4).bind fun t24 =>
(mulC t24 t9).bind fun t25 =>
(setC out21 t3 (t23 - t25)).bind fun out26 =>
(atC place t3).bind fun t27 =>
(mulC t27 t9).bind fun t28 =>
(atC place t4).bind fun t29 =>
(mulC t29 straight7).bind fun t30 =>
(setC out26 t4 (t28 + t30)).bind fun out31 =>
some out31
def m__law_true (joints : (List Joint)) (values_here : (List (Int × Int))) (offsets_here : (List (Int × Int × Int × Int))) (link : Int) (point : (Int × Int × Int)) : Option (List Int) :=
lt ([point.1, point.2.1, point.2.2, 1] : (List Int)) fun place1 =>
(rngC 0 link).bind fun r2 =>
(forL r2 (place1 : (List Int)) fun back4 s3 =>
lt ((link - 1) - back4 : Int) fun k5 =>
(atC joints k5).bind fun t6 =>
(atC values_here k5).bind fun t7 =>
(if t6.turns = true then
(m__law_turned s3 t6.axis t7).bind fun t8 =>
some (t8 : (List Int))
else
(mapC s3 (fun part10 => (mulC part10 t7.2).bind fun t11 => some t11)).bind fun t12 =>
(atC t12 t6.axis).bind fun t14 =>
(atC t12 3).bind fun t15 =>
(mulC t7.1 t15).bind fun t16 =>
(divC t16 t7.2).bind fun t17 =>
(setC t12 t6.axis (t14 + t17)).bind fun place18 =>
some (place18 : (List Int))).bind fun (s19 : (List Int)) =>
(atC offsets_here k5).bind fun t20 =>
(atC s19 0).bind fun t22 =>
(mulC t22 t20.2.2.2).bind fun t23 =>
(atC s19 3).bind fun t24 =>
(mulC t20.1 t24).bind fun t25 =>
(atC s19 1).bind fun t26 =>
(mulC t26 t20.2.2.2).bind fun t27 =>
(atC s19 3).bind fun t28 =>
(mulC t20.2.1 t28).bind fun t29 =>
(atC s19 2).bind fun t30 =>
(mulC t30 t20.2.2.2).bind fun t31 =>
(atC s19 3).bind fun t32 =>
(mulC t20.2.2.1 t32).bind fun t33 =>
(atC s19 3).bind fun t34 =>
(mulC t34 t20.2.2.2).bind fun t35 =>
(catC [t23 + t25, t27 + t29, t31 + t33] [t35]).bind fun t36 =>
some (t36 : (List Int))).bind fun (s38 : (List Int)) =>
some s38
def m__law_true_line (mover_here : Mover) (part : (Int × Int)) (row : Int) (at_ : Int) : Option ((List Int) × (List Int)) :=
lt (mover_here.arm.joints : (List Joint)) fun joints1 =>
(m__law_meant joints1 mover_here.move.first mover_here.move.last part row).bind fun t2 =>
(divC row 7).bind fun t3 =>
(m__law_offsets joints1 t3).bind fun t4 =>
(m_Mover_bodies mover_here).bind fun t5 =>
(atC t5 at_).bind fun t6 =>
(m__law_true joints1 t2 t4 t6.1 t6.2.first).bind fun t7 =>
(m__law_true joints1 t2 t4 t6.1 t6.2.last).bind fun t8 =>
some (t7, t8)
def m__law_mix (line : ((List Int) × (List Int))) (over : Int) (under : Int) : Option (Int × Int × Int × Int) :=
lt (line.1 : (List Int)) fun one1 =>
lt (line.2 : (List Int)) fun two2 =>
(atC one1 0).bind fun t4 =>
(atC two2 3).bind fun t5 =>
(mulC t4 t5).bind fun t6 =>
(mulC t6 (under - over)).bind fun t7 =>
(atC two2 0).bind fun t8 =>
(atC one1 3).bind fun t9 =>
(mulC t8 t9).bind fun t10 =>
(mulC t10 over).bind fun t11 =>
(atC one1 1).bind fun t12 =>
(atC two2 3).bind fun t13 =>
(mulC t12 t13).bind fun t14 =>
(mulC t14 (under - over)).bind fun t15 =>
(atC two2 1).bind fun t16 =>
(atC one1 3).bind fun t17 =>
(mulC t16 t17).bind fun t18 =>
(mulC t18 over).bind fun t19 =>
(atC one1 2).bind fun t20 =>
(atC two2 3).bind fun t21 =>
(mulC t20 t21).bind fun t22 =>
(mulC t22 (under - over)).bind fun t23 =>
(atC two2 2).bind fun t24 =>
(atC one1 3).bind fun t25 =>
(mulC t24 t25).bind fun t26 =>
(mulC t26 over).bind fun t27 =>
lt ((t7 + t11, t15 + t19, t23 + t27) : (Int × Int × Int)) fun place28 =>
(atC one1 3).bind fun t29 =>
(atC two2 3).bind fun t30 =>
(mulC t29 t30).bind fun t31 =>
(mulC t31 under).bind fun t32 =>
some (place28.1, place28.2.1, place28.2.2, t32)
def m__law_dot_2 (one : (Int × Int × Int)) (two : (Int × Int × Int × Int)) : Option Int :=
(mulC one.1 two.1).bind fun t1 =>
(mulC one.2.1 two.2.1).bind fun t2 =>
(mulC one.2.2 two.2.2.1).bind fun t3 =>
some ((t1 + t2) + t3)
def m_Arm_init_2 (joints : (List Joint)) (capsules : (List Capsule)) (beside : (List (Int × Int))) : Option Arm :=
if (!((decide (1 ≤ (joints.length : Int))) && (decide ((joints.length : Int) ≤ 6)))) = true then
none
else
if (decide (8 < (capsules.length : Int))) = true then
none
else
(forL capsules (() : Unit) fun capsule2 s1 =>
if (!((decide (0 ≤ capsule2.link)) && (decide (capsule2.link ≤ (joints.length : Int))))) = true then
none
else
some (() : Unit)).bind fun (s3 : Unit) =>
(forL beside (() : Unit) fun pair5 s4 =>
if (!((decide (0 ≤ pair5.1)) && ((decide (pair5.1 < pair5.2)) && (decide (pair5.2 < (capsules.length : Int)))))) = true then
none
else
some (() : Unit)).bind fun (s6 : Unit) =>
(mapP beside (fun pair7 => pair7)).bind fun t8 =>
some (⟨joints, capsules, t8⟩ : Arm)
def m__law_refused (mover_here : Mover) (direction : (Int × Int × Int)) (depth : Int) : Option Str :=
thenF (S := Unit) (R := Str) (tryX (xm_extent mover_here direction depth) (fun fld => some (.rt fld)) ((m_extent mover_here direction depth).bind fun t1 =>
some (.nx ()))) (fun (s2 : Unit) =>
some ("" : Str)) (fun r => r)
def m_law (script : (List Int)) : Option Bool :=
(m__law_rows script 24).bind fun t1 =>
(atC t1 10).bind fun t2 =>
(m__law_mover t1 0 t2).bind fun t3 =>
(atC t1 11).bind fun t4 =>
(modC t4 19).bind fun t5 =>
(atC t1 11).bind fun t6 =>
(divC t6 19).bind fun t7 =>
(modC t7 19).bind fun t8 =>
(atC t1 11).bind fun t9 =>
(divC t9 361).bind fun t10 =>
(modC t10 9).bind fun t11 =>
lt ((t5 - 9, t8 - 9, 1 + t11) : (Int × Int × Int)) fun direction12 =>
(atC t1 12).bind fun t13 =>
(modC t13 4).bind fun t14 =>
(m_extent t3 direction12 t14).bind fun t15 =>
(shlC 1 t14).bind fun t16 =>
(rngC 0 t16).bind fun r17 =>
(mapC r17 (fun at_18 => (m__law_reach t3 direction12 (t14, at_18)).bind fun t19 => (t19).bind fun o20 => some o20)).bind fun t21 =>
(maxL t21).bind fun t22 =>
(m__law_is_integer t15).bind fun t23 =>
if ((!t23) || (!(decide (t15 = (some t22))))) = true then
some false
else
(m_Mover_bodies t3).bind fun t24 =>
thenF (S := Unit) (R := Bool) (forF (rng 0 6) (() : Unit) fun k26 s25 =>
(atC t1 (13 + k26)).bind fun t27 =>
(modC t27 30).bind fun t28 =>
lt (1 + t28 : Int) fun under29 =>
(atC t1 (13 + k26)).bind fun t30 =>
(divC t30 30).bind fun t31 =>
(modC t31 (under29 + 1)).bind fun t32 =>
lt ((t32, under29) : (Int × Int)) fun part33 =>
(atC t1 (13 + k26)).bind fun t34 =>
(divC t34 961).bind fun t35 =>
(modC t35 (t24.length : Int)).bind fun t36 =>
(atC t1 (14 + k26)).bind fun t37 =>
(m__law_true_line t3 part33 t37 t36).bind fun t38 =>
(atC t1 20).bind fun t39 =>
(modC t39 9).bind fun t40 =>
(m__law_mix t38 t40 8).bind fun t41 =>
(m__law_dot_2 direction12 t41).bind fun t42 =>
(t15).bind fun o43 =>
(mulC o43 t41.2.2.2).bind fun t44 =>
lt (t42 - t44 : Int) fun far45 =>
(atC t24 t36).bind fun t46 =>
lt (t46.2.radius : Int) fun radius47 =>
(if (decide (0 < far45)) = true then some true else (mulC far45 far45).bind fun t48 => (m__law_dot direction12 direction12).bind fun t49 => (mulC radius47 t41.2.2.2).bind fun t50 => (powC t50 2).bind fun t51 => (mulC t49 t51).bind fun t52 => some (decide (t48 < t52))).bind fun b53 =>
if b53 = true then
some (.rt false)
else
some (.nx ())) (fun (s54 : Unit) =>
(m_Arm_init_2 t3.arm.joints [] []).bind fun t55 =>
(m_Mover_init t55 t3.move []).bind fun t56 =>
(m_extent t56 direction12 t14).bind fun t57 =>
if (!t57.isNone) = true then
some false
else
(m__law_refused t3 (0, 0, 0) 9).bind fun t58 =>
(if (!(decide (t58 = ("direction" : Str)))) = true then some true else (m__law_refused t3 (0, 1001, 0) 0).bind fun t59 => some (!(decide (t59 = ("direction" : Str))))).bind fun b60 =>
if b60 = true then
some false
else
(m__law_refused t56 direction12 9).bind fun t61 =>
(if (decide (t61 = ("depth" : Str))) = true then (m__law_refused t3 (1000, 0, (-1000)) (-1)).bind fun t62 => some (decide (t62 = ("depth" : Str))) else some false).bind fun b63 =>
some b63) (fun r => r)
end G

/-! Mx: plain mathematics for the mirrors: partial values that are there (Tot), sizes (lg). -/
namespace DL
open PySem L2

def Tot {α : Type} (m : Option α) (P : α → Prop) : Prop := ∃ x, m = some x ∧ P x
section
variable {α β γ : Type} {P : α → Prop} {Q : β → Prop}
theorem tot_some {x : α} (h : P x) : Tot (some x) P := ⟨x, rfl, h⟩
theorem tot_bind {m : Option α} {f : α → Option β} (h : Tot m P) (k : ∀ x, P x → Tot (f x) Q) : Tot (m.bind f) Q := by
  obtain ⟨x, rfl, p⟩ := h
  exact k x p
theorem tot_lt {e : α} {f : α → Option β} (k : ∀ x, x = e → Tot (f x) Q) : Tot (lt e f) Q := k e rfl
theorem tot_imp {P' : α → Prop} {m : Option α} (h : Tot m P) (k : ∀ x, P x → P' x) : Tot m P' := by
  obtain ⟨x, e, p⟩ := h
  exact ⟨x, e, k x p⟩
theorem tot_ite {b : Bool} {p q : Option α} (h1 : b = true → Tot p P) (h2 : b = false → Tot q P) : Tot (if b = true then p else q) P := by
  cases b with
  | true => exact h1 rfl
  | false => exact h2 rfl
theorem tot_true {m : Option Bool} (h : Tot m (· = true)) : m = some true := by
  obtain ⟨x, e, rfl⟩ := h
  exact e
theorem tot_eq {m : Option α} {x : α} (h : m = some x) : Tot m (· = x) := ⟨x, h, rfl⟩
/-- a loop, by what holds between its turns -/
theorem tot_forL {S : Type} {W : S → Prop} {f : α → S → Option S} : ∀ {xs : List α} {s : S}, W s → (∀ x s, x ∈ xs → W s → Tot (f x s) W) → Tot (forL xs s f) W
  | [], s, h, _ => ⟨s, rfl, h⟩
  | x :: xs, s, h, k => tot_bind (k x s List.mem_cons_self h) fun s' h' => tot_forL h' fun y z hy hz => k y z (List.mem_cons_of_mem _ hy) hz
/-- a loop that leaves by a wrong answer alone: it never does -/
theorem tot_forF {S R : Type} {W : S → Prop} {f : α → S → Option (Fl S R)} : ∀ {xs : List α} {s : S}, W s → (∀ x s, x ∈ xs → W s → Tot (f x s) fun o => ∃ s', o = .nx s' ∧ W s') → Tot (forF xs s f) fun o => ∃ s', o = .nx s' ∧ W s'
  | [], s, h, _ => ⟨.nx s, rfl, s, rfl, h⟩
  | x :: xs, s, h, k => by
    obtain ⟨o, e, s', rfl, h'⟩ := k x s List.mem_cons_self h
    obtain ⟨o2, e2, s2, rfl, h2⟩ := tot_forF (xs := xs) h' fun y z hy hz => k y z (List.mem_cons_of_mem _ hy) hz
    refine ⟨.nx s2, ?_, s2, rfl, h2⟩
    show (f x s).bind _ = _
    rw [e]
    exact e2
theorem tot_thenF {S R ρ : Type} {W : S → Prop} {P : ρ → Prop} {m : Option (Fl S R)} {k : S → Option ρ} {er : R → ρ} (h : Tot m fun o => ∃ s', o = .nx s' ∧ W s') (h2 : ∀ s, W s → Tot (k s) P) : Tot (thenF m k er) P := by
  obtain ⟨o, rfl, s', rfl, w⟩ := h
  exact h2 s' w
/-- a loop over a list by place -/
theorem tot_forLi {S : Type} {W : Nat → S → Prop} {f : α → S → Option S} {xs : List α} {s : S} (h : W 0 s) (k : ∀ i x s, xs[i]? = some x → W i s → Tot (f x s) (W (i + 1))) : Tot (forL xs s f) (W xs.length) := by
  have gen : ∀ (ys : List α) (n : Nat) (s : S), xs.drop n = ys → n ≤ xs.length → W n s → Tot (forL ys s f) (W xs.length) := by
    intro ys
    induction ys with
    | nil =>
      intro n s e hn hw
      have : n = xs.length := by
        have := congrArg List.length e
        rw [List.length_drop, List.length_nil] at this
        omega
      subst this
      exact ⟨s, rfl, hw⟩
    | cons y ys ih =>
      intro n s e hn hw
      have hlt : n < xs.length := by
        have := congrArg List.length e
        rw [List.length_drop, List.length_cons] at this
        omega
      have hy : xs[n]? = some y := by
        have := congrArg (fun l => l[0]?) e
        simpa using this
      refine tot_bind (k n y s hy hw) fun s' hs' => ih (n + 1) s' ?_ hlt hs'
      have := congrArg (List.drop 1) e
      simpa [List.drop_drop, Nat.add_comm] using this
  exact gen xs 0 s rfl (Nat.zero_le _) h
end

/-! ### sizes -/
def lg (x : Int) : Nat := x.natAbs.log2
theorem lg_le_of {x : Int} {n : Nat} (h : x.natAbs < 2 ^ (n + 1)) : lg x ≤ n := by
  unfold lg
  by_cases h0 : x.natAbs = 0
  · rw [h0, Nat.log2_zero]
    exact Nat.zero_le _
  · exact Nat.le_of_lt_succ ((Nat.log2_lt h0).mpr h)
theorem lt_lg (x : Int) : x.natAbs < 2 ^ (lg x + 1) := by
  unfold lg
  by_cases h0 : x.natAbs = 0
  · rw [h0]
    exact Nat.pow_pos (by decide)
  · exact (Nat.log2_lt h0).mp (Nat.lt_succ_self _)
theorem lg_mono {x y : Int} (h : x.natAbs ≤ y.natAbs) : lg x ≤ lg y := lg_le_of (Nat.lt_of_le_of_lt h (lt_lg y))
theorem lg_mul (x y : Int) : lg (x * y) ≤ lg x + lg y + 1 := by
  refine lg_le_of ?_
  rw [Int.natAbs_mul]
  have h := Nat.mul_lt_mul'' (lt_lg x) (lt_lg y)
  rw [← Nat.pow_add] at h
  have e : lg x + 1 + (lg y + 1) = lg x + lg y + 1 + 1 := by omega
  rw [e] at h
  exact h
theorem lg_add (x y : Int) : lg (x + y) ≤ max (lg x) (lg y) + 1 := by
  refine lg_le_of ?_
  have hx : x.natAbs < 2 ^ (max (lg x) (lg y) + 1) := Nat.lt_of_lt_of_le (lt_lg x) (Nat.pow_le_pow_right (by decide) (by omega))
  have hy : y.natAbs < 2 ^ (max (lg x) (lg y) + 1) := Nat.lt_of_lt_of_le (lt_lg y) (Nat.pow_le_pow_right (by decide) (by omega))
  rw [Nat.pow_succ 2 (max (lg x) (lg y) + 1)]
  omega
theorem lg_neg (x : Int) : lg (-x) = lg x := by
  unfold lg
  rw [Int.natAbs_neg]
theorem lg_sub (x y : Int) : lg (x - y) ≤ max (lg x) (lg y) + 1 := by
  have := lg_add x (-y)
  rw [lg_neg] at this
  exact this
theorem lg_bits {x : Int} {n : Nat} (h : Builtin.Int.intBits x ≤ n) : lg x ≤ n := by
  unfold Builtin.Int.intBits at h
  unfold lg
  split at h
  · rename_i e
    have : x.natAbs = 0 := by simpa using e
    rw [this, Nat.log2_zero]
    exact Nat.zero_le _
  · omega
theorem lg_max {x y : Int} {n : Nat} (hx : lg x ≤ n) (hy : lg y ≤ n) : lg (max x y) ≤ n := by
  rcases Int.le_total x y with h | h
  · rw [Int.max_eq_right h]; exact hy
  · rw [Int.max_eq_left h]; exact hx
/-- below a bound -/
theorem lg_le {x : Int} {b : Nat} (h : x.natAbs ≤ b) {n : Nat} (hb : b.log2 ≤ n) : lg x ≤ n := by
  refine Nat.le_trans ?_ hb
  have : lg x ≤ lg (b : Int) := lg_mono (by rw [Int.natAbs_natCast]; exact h)
  exact this

/-! ### the operations -/
section
variable {β : Type} {Q : β → Prop} {f : Int → Option β}
theorem mulC_eq {a b : Int} (h : lg a + lg b < 100000000) : mulC a b = some (a * b) := if_pos h
theorem tot_mul {a b : Int} (h : lg a + lg b < 100000000) (k : Tot (f (a * b)) Q) : Tot ((mulC a b).bind f) Q := by
  rw [mulC_eq h]
  exact k
theorem divC_eq {a b : Int} (h : 0 < b) (h2 : lg b < 9000) : divC a b = some (a / b) := if_pos ⟨h, h2⟩
theorem tot_div {a b : Int} (h : 0 < b) (h2 : lg b < 9000) (k : Tot (f (a / b)) Q) : Tot ((divC a b).bind f) Q := by
  rw [divC_eq h h2]
  exact k
theorem modC_eq {a b : Int} (h : 0 < b) : modC a b = some (a % b) := if_pos h
theorem tot_mod {a b : Int} (h : 0 < b) (k : 0 ≤ a % b → a % b < b → Tot (f (a % b)) Q) : Tot ((modC a b).bind f) Q := by
  rw [modC_eq h]
  exact k (Int.emod_nonneg _ (by omega)) (Int.emod_lt_of_pos _ h)
theorem powC_eq {a b : Int} (h : 0 ≤ b ∧ b ≤ 1000000 ∧ a.natAbs < 2 ^ 64) : powC a b = some (a ^ b.toNat) := if_pos (by
  obtain ⟨h1, h2, h3⟩ := h
  refine ⟨h1, ?_⟩
  have l : a.natAbs.log2 ≤ 63 := lg_le_of (x := a) (n := 63) h3
  have := Int.mul_le_mul_of_nonneg_right (show (a.natAbs.log2 : Int) + 1 ≤ 64 by omega) h1
  omega)
theorem powC_two {a : Int} (h : lg a ≤ 60000000) : powC a 2 = some (a ^ (2 : Int).toNat) := if_pos (by unfold lg at h; omega)
theorem tot_pow {a b : Int} (h : 0 ≤ b ∧ b ≤ 1000000 ∧ a.natAbs < 2 ^ 64) (k : Tot (f (a ^ b.toNat)) Q) : Tot ((powC a b).bind f) Q := by
  rw [powC_eq h]
  exact k
theorem shlC_eq {a b : Int} (h : 0 ≤ b ∧ b ≤ 1000000 ∧ a.natAbs < 2 ^ 64) : shlC a b = some (a * 2 ^ b.toNat) := if_pos (by
  obtain ⟨h1, h2, h3⟩ := h
  have l : a.natAbs.log2 ≤ 63 := lg_le_of (x := a) (n := 63) h3
  omega)
theorem tot_shl {a b : Int} (h : 0 ≤ b ∧ b ≤ 1000000 ∧ a.natAbs < 2 ^ 64) (k : Tot (f (a * 2 ^ b.toNat)) Q) : Tot ((shlC a b).bind f) Q := by
  rw [shlC_eq h]
  exact k
theorem shrC_eq {a b : Int} (h : 0 ≤ b) : shrC a b = some (a / 2 ^ b.toNat) := if_pos h
theorem tot_shr {a b : Int} (h : 0 ≤ b) (k : Tot (f (a / 2 ^ b.toNat)) Q) : Tot ((shrC a b).bind f) Q := by
  rw [shrC_eq h]
  exact k
theorem atC_nat {α : Type} {xs : List α} {i : Nat} : atC xs (i : Int) = xs[i]? := by
  unfold atC atI ixN
  by_cases h : i < xs.length
  · rw [if_pos (by omega), if_pos (by omega)]
    rfl
  · rw [if_pos (by omega), if_neg (by omega), List.getElem?_eq_none (by omega)]
    rfl
theorem atC_get {α : Type} {xs : List α} {i : Int} (h0 : 0 ≤ i) (h : i < xs.length) : ∃ x, atC xs i = some x ∧ x ∈ xs ∧ xs[i.toNat]? = some x := by
  have hi : i.toNat < xs.length := by omega
  refine ⟨xs[i.toNat], ?_, List.getElem_mem hi, List.getElem?_eq_getElem hi⟩
  have : atC xs ((i.toNat : Nat) : Int) = xs[i.toNat]? := atC_nat
  rw [Int.toNat_of_nonneg h0] at this
  rw [this, List.getElem?_eq_getElem hi]
theorem tot_at {α : Type} {xs : List α} {i : Int} {g : α → Option β} (h0 : 0 ≤ i) (h : i < xs.length) (k : ∀ x, x ∈ xs → xs[i.toNat]? = some x → Tot (g x) Q) : Tot ((atC xs i).bind g) Q := by
  obtain ⟨x, e, m, e2⟩ := atC_get h0 h
  rw [e]
  exact k x m e2
theorem tot_app {α : Type} {xs : List α} {x : α} {g : List α → Option β} (h : xs.length < 10000000) (k : Tot (g (xs ++ [x])) Q) : Tot ((appC xs x).bind g) Q := by
  unfold appC
  rw [if_pos h]
  exact k
theorem mem_rng {lo hi x : Int} : x ∈ rng lo hi ↔ lo ≤ x ∧ x < hi := by
  unfold rng
  simp only [List.mem_map, List.mem_range]
  constructor
  · rintro ⟨i, h, rfl⟩
    omega
  · rintro ⟨h1, h2⟩
    exact ⟨(x - lo).toNat, by omega, by omega⟩
theorem rng_len {lo hi : Int} : (rng lo hi).length = (hi - lo).toNat := by
  unfold rng
  rw [List.length_map, List.length_range]
theorem rng_get {lo hi x : Int} {i : Nat} (h : (rng lo hi)[i]? = some x) : x = lo + i ∧ (i : Int) < hi - lo := by
  unfold rng at h
  rw [List.getElem?_map] at h
  by_cases hi' : i < (hi - lo).toNat
  · rw [List.getElem?_range hi'] at h
    cases h
    exact ⟨rfl, by omega⟩
  · rw [List.getElem?_eq_none (by simpa using hi')] at h
    cases h
theorem tot_rng {lo hi : Int} {g : List Int → Option β} (h : -(2 ^ 62) ≤ lo ∧ lo < 2 ^ 62 ∧ -(2 ^ 62) ≤ hi ∧ hi < 2 ^ 62) (k : Tot (g (rng lo hi)) Q) : Tot ((rngC lo hi).bind g) Q := by
  rw [rngC_of h]
  exact k
theorem isqrt_spec {i : Int} (h0 : 0 ≤ i) (h : lg i ≤ 13000) : ∃ r : Int, isqrtC i = some r ∧ 0 ≤ r ∧ r * r ≤ i ∧ i < (r + 1) * (r + 1) := by
  have e : i.toNat.log2 ≤ 13000 := by
    unfold lg at h
    have : i.toNat = i.natAbs := by omega
    rw [this]
    exact h
  refine ⟨((Float64.isqrt i.toNat : Nat) : Int), if_pos ⟨h0, e⟩, Int.natCast_nonneg _, ?_, ?_⟩
  · have h1 := (PySem.Float64.isqrt_spec i.toNat).1
    have h2 : ((Float64.isqrt i.toNat * Float64.isqrt i.toNat : Nat) : Int) ≤ (i.toNat : Int) := Int.ofNat_le.mpr h1
    rw [Int.toNat_of_nonneg h0] at h2
    simpa using h2
  · have h1 := (PySem.Float64.isqrt_spec i.toNat).2
    have h2 : (i.toNat : Int) < (((Float64.isqrt i.toNat + 1) * (Float64.isqrt i.toNat + 1) : Nat) : Int) := Int.ofNat_lt.mpr h1
    rw [Int.toNat_of_nonneg h0] at h2
    simpa using h2
end
end DL

/-! My: sizes found by instances. -/
namespace DL
open PySem L2
open PySem L2

class Szl (x : Int) (n : outParam Nat) : Prop where
  le : lg x ≤ n
section
variable {a b : Int} {m n : Nat}
instance szl_lit (k : Nat) : Szl (no_index (OfNat.ofNat k) : Int) (Nat.log2 k) := ⟨Nat.le_refl _⟩
instance szl_neg [h : Szl a m] : Szl (-a) m := ⟨by rw [lg_neg]; exact h.le⟩
instance szl_mul [h : Szl a m] [k : Szl b n] : Szl (a * b) (m + n + 1) := ⟨by
  have := lg_mul a b
  have := h.le
  have := k.le
  omega⟩
instance szl_add [h : Szl a m] [k : Szl b n] : Szl (a + b) (max m n + 1) := ⟨by
  have := lg_add a b
  have := h.le
  have := k.le
  omega⟩
instance szl_sub [h : Szl a m] [k : Szl b n] : Szl (a - b) (max m n + 1) := ⟨by
  have := lg_sub a b
  have := h.le
  have := k.le
  omega⟩
instance szl_abs [h : Szl a m] : Szl (a.natAbs : Int) m := ⟨by
  have e : lg (a.natAbs : Int) = lg a := by unfold lg; rw [Int.natAbs_natCast]
  rw [e]
  exact h.le⟩
instance szl_max [h : Szl a m] [k : Szl b n] : Szl (max a b) (max m n) := ⟨by
  have := h.le
  have := k.le
  exact lg_max (by omega) (by omega)⟩
theorem lg_min {x y : Int} {n : Nat} (hx : lg x ≤ n) (hy : lg y ≤ n) : lg (min x y) ≤ n := by
  rcases Int.le_total x y with h | h
  · rw [Int.min_eq_left h]; exact hx
  · rw [Int.min_eq_right h]; exact hy
instance szl_min [h : Szl a m] [k : Szl b n] : Szl (min a b) (max m n) := ⟨by
  have := h.le
  have := k.le
  exact lg_min (by omega) (by omega)⟩
theorem lg_div {x y : Int} (h : 0 < y) : lg (x / y) ≤ lg x := by
  refine lg_mono ?_
  have h1 := Int.emod_add_mul_ediv x y
  have h2 := Int.emod_nonneg x (show y ≠ 0 by omega)
  have h3 := Int.emod_lt_of_pos x h
  generalize x / y = q at h1 ⊢
  generalize x % y = r at h1 h2 h3
  by_cases hq : 0 ≤ q
  · have := Int.mul_le_mul_of_nonneg_right (show (1 : Int) ≤ y by omega) hq
    rw [Int.one_mul] at this
    omega
  · have := Int.mul_le_mul_of_nonneg_right (show (1 : Int) ≤ y by omega) (show 0 ≤ -(q + 1) by omega)
    rw [Int.one_mul, Int.mul_neg, Int.mul_add, Int.mul_one] at this
    omega
theorem lg_mod {x y : Int} (h : 0 < y) : lg (x % y) ≤ lg y := by
  refine lg_mono ?_
  have h2 := Int.emod_nonneg x (show y ≠ 0 by omega)
  have h3 := Int.emod_lt_of_pos x h
  omega
theorem szl_of (h : lg a ≤ n) : Szl a n := ⟨h⟩
/-- by its size -/
theorem szl_abs_of {B : Nat} (h : a.natAbs ≤ B) : Szl a (Nat.log2 B) := ⟨lg_le h (Nat.le_refl _)⟩
theorem szl_le (h : Szl a m) (k : m ≤ n) : Szl a n := ⟨Nat.le_trans h.le k⟩

variable {β : Type} {Q : β → Prop} {f : Int → Option β}
theorem mul_s (ha : Szl a m) (hb : Szl b n) (h : m + n < 100000000) : mulC a b = some (a * b) := mulC_eq (by have := ha.le; have := hb.le; omega)
theorem t_mul [ha : Szl a m] [hb : Szl b n] (k : Tot (f (a * b)) Q) (h : m + n < 100000000 := by decide) : Tot ((mulC a b).bind f) Q := by
  rw [mul_s ha hb h]
  exact k
theorem t_div (h : 0 < b) [hb : Szl b n] (k : Tot (f (a / b)) Q) (h2 : n < 9000 := by decide) : Tot ((divC a b).bind f) Q := tot_div h (Nat.lt_of_le_of_lt hb.le h2) k
/-- % by a written number: the rest is a letter from here on -/
theorem t_mod (h : 0 < b) [hb : Szl b n] (k : ∀ x, x = a % b → 0 ≤ x → x < b → Szl x n → Tot (f x) Q) : Tot ((modC a b).bind f) Q := by
  rw [modC_eq h]
  exact k _ rfl (Int.emod_nonneg _ (by omega)) (Int.emod_lt_of_pos _ h) ⟨Nat.le_trans (lg_mod h) hb.le⟩
theorem t_at {α : Type} {xs : List α} {i : Int} {g : α → Option β} (h0 : 0 ≤ i) (h : i < xs.length) (k : ∀ x, x ∈ xs → xs[i.toNat]? = some x → Tot (g x) Q) : Tot ((atC xs i).bind g) Q := tot_at h0 h k
theorem t_no {P : β → Prop} {c : Bool} {p q : Option β} (h : c = false) (k : Tot q P) : Tot (if c = true then p else q) P := by
  subst h
  exact k
theorem t_yes {P : β → Prop} {c : Bool} {p q : Option β} (h : c = true) (k : Tot p P) : Tot (if c = true then p else q) P := by
  subst h
  exact k
/-- a partial value that is known -/
theorem t_eq {α : Type} {m : Option α} {x : α} {g : α → Option β} {P : β → Prop} (h : m = some x) (k : Tot (g x) P) : Tot (m.bind g) P := by
  rw [h]
  exact k
theorem t_bind {α : Type} {P : α → Prop} {m : Option α} {g : α → Option β} (h : Tot m P) (k : ∀ x, P x → Tot (g x) Q) : Tot (m.bind g) Q := tot_bind h k
/-- a loop's turn that goes on -/
theorem t_go {S R : Type} {s : S} {W : S → Prop} (h : W s) : Tot (some (Fl.nx s : Fl S R)) fun o => ∃ s', o = .nx s' ∧ W s' := ⟨_, rfl, s, rfl, h⟩
end

/-! ### vectors of three -/
abbrev V3 := Int × Int × Int
class Szv (v : V3) (n : outParam Nat) : Prop where
  x : lg v.1 ≤ n
  y : lg v.2.1 ≤ n
  z : lg v.2.2 ≤ n
section
variable {v w : V3} {m n : Nat}
instance szv_x [h : Szv v n] : Szl v.1 n := ⟨h.x⟩
instance szv_y [h : Szv v n] : Szl v.2.1 n := ⟨h.y⟩
instance szv_z [h : Szv v n] : Szl v.2.2 n := ⟨h.z⟩
theorem szv_of {B : Nat} (h : v.1.natAbs ≤ B ∧ v.2.1.natAbs ≤ B ∧ v.2.2.natAbs ≤ B) : Szv v (Nat.log2 B) := ⟨lg_le h.1 (Nat.le_refl _), lg_le h.2.1 (Nat.le_refl _), lg_le h.2.2 (Nat.le_refl _)⟩
theorem szv_le (h : Szv v m) (k : m ≤ n) : Szv v n := ⟨Nat.le_trans h.x k, Nat.le_trans h.y k, Nat.le_trans h.z k⟩
instance szv_mk {a b c : Int} {k l p : Nat} [h1 : Szl a k] [h2 : Szl b l] [h3 : Szl c p] : Szv (a, b, c) (max k (max l p)) := ⟨by have := h1.le; show lg a ≤ _; omega, by have := h2.le; show lg b ≤ _; omega, by have := h3.le; show lg c ≤ _; omega⟩
/-- the inner product -/
def dotv (v w : V3) : Int := v.1 * w.1 + v.2.1 * w.2.1 + v.2.2 * w.2.2
def addv (v w : V3) : V3 := (v.1 + w.1, v.2.1 + w.2.1, v.2.2 + w.2.2)
def subv (v w : V3) : V3 := (v.1 - w.1, v.2.1 - w.2.1, v.2.2 - w.2.2)
def mulv (v : V3) (k : Int) : V3 := (v.1 * k, v.2.1 * k, v.2.2 * k)
instance szl_dot [h : Szv v m] [k : Szv w n] : Szl (dotv v w) (m + n + 3) := ⟨by
  have h1 : Szl (v.1 * w.1 + v.2.1 * w.2.1 + v.2.2 * w.2.2) _ := inferInstance
  have := h1.le
  unfold dotv
  omega⟩
instance szv_add [h : Szv v m] [k : Szv w n] : Szv (addv v w) (max m n + 1) := ⟨(inferInstance : Szl (v.1 + w.1) _).le, (inferInstance : Szl (v.2.1 + w.2.1) _).le, (inferInstance : Szl (v.2.2 + w.2.2) _).le⟩
instance szv_sub [h : Szv v m] [k : Szv w n] : Szv (subv v w) (max m n + 1) := ⟨(inferInstance : Szl (v.1 - w.1) _).le, (inferInstance : Szl (v.2.1 - w.2.1) _).le, (inferInstance : Szl (v.2.2 - w.2.2) _).le⟩
instance szv_mul {k : Int} [h : Szv v m] [q : Szl k n] : Szv (mulv v k) (m + n + 1) := ⟨(inferInstance : Szl (v.1 * k) _).le, (inferInstance : Szl (v.2.1 * k) _).le, (inferInstance : Szl (v.2.2 * k) _).le⟩
end
theorem eqD_V3 (v w : V3) : eqD (dT3 Dt.int Dt.int Dt.int v) (dT3 Dt.int Dt.int Dt.int w) = decide (v = w) := by
  obtain ⟨a, b, c⟩ := v
  obtain ⟨a', b', c'⟩ := w
  rw [Bool.eq_iff_iff, decide_eq_true_eq]
  simp [eqD, pd, pds, PyData.eqv, PyData.eqvAll]
theorem dotv_self_nonneg (v : V3) : 0 ≤ dotv v v := by
  unfold dotv
  have h : ∀ x : Int, 0 ≤ x * x := fun x => by
    rcases Int.le_total 0 x with h | h
    · exact Int.mul_nonneg h h
    · exact Int.mul_nonneg_of_nonpos_of_nonpos h h
  have := h v.1
  have := h v.2.1
  have := h v.2.2
  omega
end DL
namespace DL
open PySem L2
theorem sq_eq (x : Int) : x ^ (2 : Int).toNat = x * x := by
  show x ^ 2 = _
  rw [Int.pow_succ, Int.pow_succ, Int.pow_zero, Int.one_mul]
/-- x ** 2 -/
theorem t_sq {β : Type} {Q : β → Prop} {f : Int → Option β} {a : Int} (h : a.natAbs < 2 ^ 64) (k : Tot (f (a * a)) Q) : Tot ((powC a 2).bind f) Q :=
  tot_pow ⟨by decide, by decide, h⟩ (by rw [sq_eq]; exact k)
theorem three {k : Int} (h : 0 ≤ k) (h' : k < 3) : k = 0 ∨ k = 1 ∨ k = 2 := by omega
theorem eq_of {α : Type} {m : Option α} {v : α} (h : Tot m fun x => x = v) : m = some v := by
  obtain ⟨x, e, rfl⟩ := h
  exact e
theorem t_lt {α β : Type} {Q : β → Prop} {e : α} {f : α → Option β} (k : Tot (f e) Q) : Tot (lt e f) Q := k
end DL
namespace DL
open PySem L2
/-- a loop that may be left by a break, by place -/
theorem tot_forFi {α S R : Type} {W : Nat → S → Prop} {B : S → Prop} {f : α → S → Option (Fl S R)} {xs : List α} {s : S} (h : W 0 s) (k : ∀ i x s, xs[i]? = some x → W i s → Tot (f x s) fun o => (∃ s', o = .nx s' ∧ W (i + 1) s') ∨ ∃ s', o = .bk s' ∧ B s') :
    Tot (forF xs s f) fun o => (∃ s', o = .nx s' ∧ W xs.length s') ∨ ∃ s', o = .bk s' ∧ B s' := by
  have gen : ∀ (ys : List α) (n : Nat) (s : S), xs.drop n = ys → n ≤ xs.length → W n s → Tot (forF ys s f) fun o => (∃ s', o = .nx s' ∧ W xs.length s') ∨ ∃ s', o = .bk s' ∧ B s' := by
    intro ys
    induction ys with
    | nil =>
      intro n s e hn hw
      have : n = xs.length := by
        have := congrArg List.length e
        rw [List.length_drop, List.length_nil] at this
        omega
      subst this
      exact ⟨.nx s, rfl, .inl ⟨s, rfl, hw⟩⟩
    | cons y ys ih =>
      intro n s e hn hw
      have hlt : n < xs.length := by
        have := congrArg List.length e
        rw [List.length_drop, List.length_cons] at this
        omega
      have hy : xs[n]? = some y := by
        have := congrArg (fun l => l[0]?) e
        simpa using this
      obtain ⟨o, eo, ho⟩ := k n y s hy hw
      have nxt : xs.drop (n + 1) = ys := by
        have := congrArg (List.drop 1) e
        simpa [List.drop_drop, Nat.add_comm] using this
      rcases ho with ⟨s', rfl, hs'⟩ | ⟨s', rfl, hb⟩
      · obtain ⟨o2, e2, h2⟩ := ih (n + 1) s' nxt hlt hs'
        refine ⟨o2, ?_, h2⟩
        show (f y s).bind _ = _
        rw [eo]
        exact e2
      · refine ⟨.bk s', ?_, .inr ⟨s', rfl, hb⟩⟩
        show (f y s).bind _ = _
        rw [eo]
        rfl
  exact gen xs 0 s rfl (Nat.zero_le _) h
theorem tot_thenB {S R ρ : Type} {W B : S → Prop} {P : ρ → Prop} {m : Option (Fl S R)} {k : S → Option ρ} {er : R → ρ} (h : Tot m fun o => (∃ s', o = .nx s' ∧ W s') ∨ ∃ s', o = .bk s' ∧ B s') (h2 : ∀ s, (W s ∨ B s) → Tot (k s) P) : Tot (thenF m k er) P := by
  obtain ⟨o, rfl, ⟨s', rfl, w⟩ | ⟨s', rfl, w⟩⟩ := h
  · exact h2 s' (.inl w)
  · exact h2 s' (.inr w)
/-- 2 to the power k, as a number that doubles -/
def pw (k : Nat) : Int := (2 : Int) ^ k
theorem pw_zero : pw 0 = 1 := rfl
theorem pw_succ (k : Nat) : pw (k + 1) = 2 * pw k := by
  unfold pw
  rw [Int.pow_succ, Int.mul_comm]
theorem pw_pos (k : Nat) : 0 < pw k := by
  induction k with
  | zero => decide
  | succ k ih => rw [pw_succ]; omega
theorem pw_add (a b : Nat) : pw (a + b) = pw a * pw b := by
  unfold pw
  exact Int.pow_add _ _ _
theorem pw_le {a b : Nat} (h : a ≤ b) : pw a ≤ pw b := by
  obtain ⟨c, rfl⟩ := Nat.exists_eq_add_of_le h
  rw [pw_add]
  have h1 := pw_pos a
  have h2 := pw_pos c
  have := Int.mul_le_mul_of_nonneg_left (show (1 : Int) ≤ pw c by omega) (show 0 ≤ pw a by omega)
  rw [Int.mul_one] at this
  exact this
theorem pw_lt {a b : Nat} (h : pw a < pw b) : a < b := by
  rcases Nat.lt_or_ge a b with q | q
  · exact q
  · have := pw_le q
    omega
theorem lg_pw (k : Nat) : lg (pw k) = k := by
  unfold lg pw
  have : ((2 : Int) ^ k).natAbs = 2 ^ k := by
    rw [Int.natAbs_pow]
    rfl
  rw [this, Nat.log2_two_pow]
/-- the number of binary digits -/
theorem bits_spec {x : Int} (h : 0 < x) : ∃ n : Nat, Builtin.Int.intBits x = n + 1 ∧ pw n ≤ x ∧ x < pw (n + 1) := by
  refine ⟨x.natAbs.log2, ?_, ?_, ?_⟩
  · unfold Builtin.Int.intBits
    rw [if_neg (by simp; omega)]
  · have := Nat.log2_self_le (show x.natAbs ≠ 0 by omega)
    have e : pw x.natAbs.log2 = ((2 ^ x.natAbs.log2 : Nat) : Int) := by unfold pw; simp
    rw [e]
    omega
  · have := lt_lg x
    unfold lg at this
    have e : pw (x.natAbs.log2 + 1) = ((2 ^ (x.natAbs.log2 + 1) : Nat) : Int) := by unfold pw; simp
    rw [e]
    omega
end DL
namespace DL
open PySem L2
section
variable {α β γ : Type}
theorem mapO_tot {f : α → Option β} {P : α → β → Prop} : ∀ {xs : List α}, (∀ x ∈ xs, Tot (f x) (P x)) → Tot (mapO xs f) fun (ys : List β) => ys.length = xs.length ∧ ∀ (i : Nat) (x : α), xs[i]? = some x → ∃ y, ys[i]? = some y ∧ P x y
  | [], _ => ⟨[], rfl, rfl, fun _ _ h => nomatch h⟩
  | x :: xs, h => by
    obtain ⟨y, e, p⟩ := h x List.mem_cons_self
    obtain ⟨ys, e2, l, q⟩ := mapO_tot (xs := xs) fun z hz => h z (List.mem_cons_of_mem _ hz)
    refine ⟨y :: ys, ?_, by simp [l], fun i z hz => ?_⟩
    · show (f x).bind _ = _
      rw [e]
      show (mapO xs f).bind _ = _
      rw [e2]
      rfl
    · cases i with
      | zero => cases hz; exact ⟨y, rfl, p⟩
      | succ i => exact q i z hz
theorem mapC_tot {xs : List α} {f : α → Option β} {P : α → β → Prop} (hl : xs.length ≤ 1000000) (h : ∀ x ∈ xs, Tot (f x) (P x)) : Tot (mapC xs f) fun (ys : List β) => ys.length = xs.length ∧ ∀ (i : Nat) (x : α), xs[i]? = some x → ∃ y, ys[i]? = some y ∧ P x y := by
  unfold mapC
  rw [if_pos hl]
  exact mapO_tot h
theorem mapO_all {f : α → Option β} {g : α → β} : ∀ {xs : List α}, (∀ x ∈ xs, f x = some (g x)) → mapO xs f = some (xs.map g)
  | [], _ => rfl
  | x :: xs, h => by
    show (f x).bind _ = _
    rw [h x List.mem_cons_self]
    show (mapO xs f).bind _ = _
    rw [mapO_all fun z hz => h z (List.mem_cons_of_mem _ hz)]
    rfl
theorem mapC_all {xs : List α} {f : α → Option β} {g : α → β} (hl : xs.length ≤ 1000000) (h : ∀ x ∈ xs, f x = some (g x)) : mapC xs f = some (xs.map g) := by
  unfold mapC
  rw [if_pos hl]
  exact mapO_all h
/-- every one of a list that is made -/
theorem mapC_each {xs : List α} {f : α → Option β} {P : β → Prop} (hl : xs.length ≤ 1000000) (h : ∀ x ∈ xs, Tot (f x) P) : Tot (mapC xs f) fun ys => ys.length = xs.length ∧ ∀ y ∈ ys, P y := by
  refine tot_imp (mapC_tot (P := fun _ y => P y) hl h) fun ys ⟨l, q⟩ => ⟨l, fun y hy => ?_⟩
  obtain ⟨i, hi⟩ := List.mem_iff_getElem?.mp hy
  have hlt : i < xs.length := by
    have := (List.getElem?_eq_some_iff.mp hi).1
    omega
  obtain ⟨z, e, p⟩ := q i _ (List.getElem?_eq_getElem hlt)
  rw [hi] at e
  cases e
  exact p
theorem minL_get {xs : List Int} (h : xs ≠ []) : ∃ m, minL xs = some m ∧ m ∈ xs ∧ ∀ y ∈ xs, m ≤ y := by
  match xs, h with
  | x :: xs, _ =>
    obtain ⟨h1, h2, h3⟩ := foldl_min xs x
    refine ⟨_, rfl, ?_, fun y hy => ?_⟩
    · rcases h1 with h | h
      · rw [h]; exact List.mem_cons_self
      · exact List.mem_cons_of_mem _ h
    · rcases List.mem_cons.mp hy with rfl | h
      · exact h2
      · exact h3 y h
theorem maxL_get {xs : List Int} (h : xs ≠ []) : ∃ m, maxL xs = some m ∧ m ∈ xs ∧ ∀ y ∈ xs, y ≤ m := by
  match xs, h with
  | x :: xs, _ =>
    obtain ⟨h1, h2, h3⟩ := foldl_max xs x
    refine ⟨_, rfl, ?_, fun y hy => ?_⟩
    · rcases h1 with h | h
      · rw [h]; exact List.mem_cons_self
      · exact List.mem_cons_of_mem _ h
    · rcases List.mem_cons.mp hy with rfl | h
      · exact h2
      · exact h3 y h
end
/-- x ** 2 by its size -/
theorem t_sqs {β : Type} {Q : β → Prop} {f : Int → Option β} {a : Int} {n : Nat} [h : Szl a n] (k : Tot (f (a * a)) Q) (hn : n ≤ 60000000 := by decide) : Tot ((powC a 2).bind f) Q := by
  rw [powC_two (Nat.le_trans h.le hn)]
  show Tot (f (a ^ (2 : Int).toNat)) Q
  rw [sq_eq]
  exact k
end DL
namespace DL
open PySem L2
/-! ranges downward -/
theorem rngD_len {lo hi : Int} : (rngD lo hi).length = (lo - hi).toNat := by
  unfold rngD
  rw [List.length_map, List.length_range]
theorem rngD_get {lo hi x : Int} {i : Nat} (h : (rngD lo hi)[i]? = some x) : x = lo - i ∧ (i : Int) < lo - hi := by
  unfold rngD at h
  rw [List.getElem?_map] at h
  by_cases hi' : i < (lo - hi).toNat
  · rw [List.getElem?_range hi'] at h
    cases h
    exact ⟨rfl, by omega⟩
  · rw [List.getElem?_eq_none (by simpa using hi')] at h
    cases h
theorem tot_rngD {β : Type} {Q : β → Prop} {lo hi : Int} {g : List Int → Option β} (h : -(2 ^ 62) ≤ lo ∧ lo < 2 ^ 62 ∧ -(2 ^ 62) ≤ hi ∧ hi < 2 ^ 62) (k : Tot (g (rngD lo hi)) Q) : Tot ((rngDC lo hi).bind g) Q := by
  unfold rngDC
  rw [if_pos h]
  exact k
/-- a loop by place, its state known -/
theorem tot_forLe {α S ρ : Type} {F : Nat → S} {f : α → S → Option S} {xs : List α} {s : S} {Q : ρ → Prop} {g : S → Option ρ} (h : s = F 0) (k : ∀ (i : Nat) x, xs[i]? = some x → f x (F i) = some (F (i + 1))) (q : Tot (g (F xs.length)) Q) : Tot ((forL xs s f).bind g) Q := by
  refine tot_bind (tot_forLi (W := fun i s => s = F i) h fun i x s hx hs => ?_) fun s hs => by rw [hs]; exact q
  subst hs
  exact ⟨_, k i x hx, rfl⟩
theorem at_get {α : Type} {xs : List α} {i : Int} {n : Nat} {x : α} (e : i = (n : Int)) (h : xs[n]? = some x) : atC xs i = some x := by
  subst e
  rw [atC_nat]
  exact h
theorem up_add {x d : Int} (hd : 0 < d) : (x + (d - 1)) / d = -((-x) / d) := by
  have h1 := Int.emod_add_mul_ediv (-x) d
  have h2 := Int.emod_nonneg (-x) (show d ≠ 0 by omega)
  have h3 := Int.emod_lt_of_pos (-x) hd
  generalize (-x) / d = q at h1 ⊢
  generalize (-x) % d = r at h1 h2 h3
  have e : x + (d - 1) = (d - 1 - -r) + d * (-q) + -r + -r := by
    rw [Int.mul_neg]
    omega
  have e : x + (d - 1) = (d - 1 - r) + d * (-q) := by
    rw [Int.mul_neg]
    omega
  rw [e, Int.add_mul_ediv_left _ _ (by omega), Int.ediv_eq_zero_of_lt (by omega) (by omega)]
  omega
end DL
namespace DL
open PySem L2
section
variable {α β : Type}
theorem mapO_idx {f : α → Option β} : ∀ {ks : List α} {ys : List β}, ks.length = ys.length → (∀ (i : Nat) k y, ks[i]? = some k → ys[i]? = some y → f k = some y) → mapO ks f = some ys
  | [], [], _, _ => rfl
  | k :: ks, y :: ys, hl, h => by
    show (f k).bind _ = _
    rw [h 0 k y rfl rfl]
    show (mapO ks f).bind _ = _
    rw [mapO_idx (ks := ks) (ys := ys) (by simpa using hl) fun i k y hk hy => h (i + 1) k y hk hy]
    rfl
  | [], _ :: _, hl, _ => by simp at hl
  | _ :: _, [], hl, _ => by simp at hl
theorem mapC_idx {f : α → Option β} {ks : List α} {ys : List β} (hl : ks.length = ys.length) (hn : ks.length ≤ 1000000) (h : ∀ (i : Nat) k y, ks[i]? = some k → ys[i]? = some y → f k = some y) : mapC ks f = some ys := by
  unfold mapC
  rw [if_pos hn]
  exact mapO_idx hl h
theorem mapP_eq {xs : List α} {f : α → β} (h : xs.length ≤ 1000000) : mapP xs f = some (xs.map f) := by
  unfold mapP
  rw [if_pos h]
end
/-- the quotient rounded up -/
def upq (n d : Int) : Int := -((-n) / d)
theorem upq_ok {n d : Int} (hd : 0 < d) : (upq n d - 1) * d < n ∧ n ≤ upq n d * d := by
  unfold upq
  have h1 := Int.emod_add_mul_ediv (-n) d
  have h2 := Int.emod_nonneg (-n) (show d ≠ 0 by omega)
  have h3 := Int.emod_lt_of_pos (-n) hd
  generalize (-n) / d = q at h1 ⊢
  generalize (-n) % d = r at h1 h2 h3
  have e1 : -q * d = -(d * q) := by rw [Int.neg_mul, Int.mul_comm]
  have e2 : (-q - 1) * d = -(d * q) - d := by rw [Int.sub_mul, e1, Int.one_mul]
  rw [e1, e2]
  constructor <;> omega
theorem upq_le {n d k : Int} (hd : 0 < d) : upq n d ≤ k ↔ n ≤ k * d := by
  obtain ⟨h1, h2⟩ := upq_ok (n := n) hd
  constructor
  · intro h
    exact Int.le_trans h2 (Int.mul_le_mul_of_nonneg_right h (by omega))
  · intro h
    rcases Int.lt_or_le k (upq n d) with q | q
    · have := Int.mul_le_mul_of_nonneg_right (show k ≤ upq n d - 1 by omega) (show 0 ≤ d by omega)
      omega
    · exact q
theorem upq_nonneg {n d : Int} (hd : 0 < d) (hn : 0 ≤ n) : 0 ≤ upq n d := by
  obtain ⟨h1, h2⟩ := upq_ok (n := n) hd
  rcases Int.lt_or_le (upq n d) 0 with q | q
  · have := Int.mul_neg_of_neg_of_pos q hd
    omega
  · exact q
instance szl_upq {n d : Int} {m : Nat} [h : Szl n m] : Szl (upq n d) (m + 1) := ⟨by
  unfold upq
  rw [lg_neg]
  rcases Int.lt_trichotomy d 0 with q | q | q
  · have e : (-n) / d = -((-n) / (-d)) := by
      rw [Int.ediv_neg, Int.neg_neg]
    rw [e, lg_neg]
    have := lg_div (x := -n) (y := -d) (by omega)
    rw [lg_neg] at this
    have := h.le
    omega
  · subst q
    rw [Int.ediv_zero]
    have : lg 0 = 0 := by decide
    omega
  · have := lg_div (x := -n) q
    rw [lg_neg] at this
    have := h.le
    omega⟩
end DL
namespace DL
open PySem L2
theorem t_asc {α β γ : Type} {m : Option α} {f : α → Option β} {g : β → Option γ} {Q : γ → Prop} (h : Tot ((m.bind f).bind g) Q) : Tot (m.bind fun x => (f x).bind g) Q := by
  rw [Option.bind_assoc] at h
  exact h
end DL
namespace DL
open PySem L2
mutual
theorem eqv_pd : ∀ d : Dt, PyData.eqv (pd d) (pd d) = true
  | .non => by simp [pd, PyData.eqv]
  | .bl b => by simp [pd, PyData.eqv]
  | .int i => by simp [pd, PyData.eqv]
  | .str s => by simp [pd, PyData.eqv]
  | .ty n => by simp [pd, PyData.eqv]
  | .tup xs => by simp [pd, PyData.eqv, eqv_pds xs]
  | .lst xs => by simp [pd, PyData.eqv, eqv_pds xs]
  | .obj _ _ => by simp [pd, PyData.eqv]
theorem eqv_pds : ∀ ds : List Dt, PyData.eqvAll (pds ds) (pds ds) = true
  | [] => by simp [pds, PyData.eqvAll]
  | x :: xs => by simp [pds, PyData.eqvAll, eqv_pd x, eqv_pds xs]
end
theorem eqD_self (d : Dt) : eqD d d = true := eqv_pd d
/-- a loop that appends -/
theorem app_loop {α β : Type} {f : α → List β → Option (List β)} {g : α → β} : ∀ {xs : List α} {s : List β}, (∀ x s, x ∈ xs → s.length < 10000000 → f x s = some (s ++ [g x])) → s.length + xs.length < 10000000 → forL xs s f = some (s ++ xs.map g)
  | [], s, _, _ => by rw [List.map_nil, List.append_nil]; rfl
  | x :: xs, s, h, hl => by
    rw [List.length_cons] at hl
    show (f x s).bind _ = _
    rw [h x s List.mem_cons_self (by omega)]
    show forL xs (s ++ [g x]) f = _
    rw [app_loop (xs := xs) (fun y t hy => h y t (List.mem_cons_of_mem _ hy)) (by rw [List.length_append, List.length_singleton]; omega)]
    rw [List.append_assoc]
    rfl
theorem appC_eq {α : Type} {xs : List α} {x : α} (h : xs.length < 10000000) : appC xs x = some (xs ++ [x]) := if_pos h
end DL
namespace DL
open PySem L2
/-- a loop over range(n) that appends one item a turn -/
theorem app_idx {β : Type} {n : Nat} {f : Int → List β → Option (List β)} {P : Nat → β → Prop} (h : ∀ (i : Nat) s, i < n → s.length = i → Tot (f (i : Int) s) fun s' => ∃ y, s' = s ++ [y] ∧ P i y) : Tot (forL (rng 0 (n : Int)) [] f) fun s => s.length = n ∧ ∀ (i : Nat) y, s[i]? = some y → P i y := by
  have hlen : (rng 0 (n : Int)).length = n := by rw [rng_len]; omega
  refine tot_imp (tot_forLi (W := fun i (s : List β) => s.length = i ∧ ∀ (k : Nat) y, s[k]? = some y → P k y) ⟨rfl, fun _ _ h => nomatch h⟩ fun i k s hk ⟨h1, h2⟩ => ?_) fun s h => by rw [hlen] at h; exact h
  obtain ⟨ek, hk2⟩ := rng_get hk
  have ek : k = (i : Int) := by omega
  subst ek
  refine tot_imp (h i s (by omega) h1) fun s' ⟨y, e, p⟩ => ?_
  subst e
  refine ⟨by rw [List.length_append, List.length_singleton, h1], fun k z hz => ?_⟩
  by_cases hki : k < i
  · rw [List.getElem?_append_left (by omega)] at hz
    exact h2 k z hz
  · have hlt := (List.getElem?_eq_some_iff.mp hz).1
    rw [List.length_append, List.length_singleton] at hlt
    have : k = i := by omega
    subst this
    rw [List.getElem?_append_right (by omega), h1, Nat.sub_self] at hz
    cases hz
    exact p
end DL

/-! Gm: plain geometry of places, lines and their gaps. -/
namespace DL
open PySem L2
theorem sq_nn (x : Int) : 0 ≤ x * x := by
  rcases Int.le_total 0 x with h | h
  · exact Int.mul_nonneg h h
  · exact Int.mul_nonneg_of_nonpos_of_nonpos h h
theorem cauchy (v w : V3) : dotv v w * dotv v w ≤ dotv v v * dotv w w := by
  have h1 := sq_nn (v.1 * w.2.1 - v.2.1 * w.1)
  have h2 := sq_nn (v.1 * w.2.2 - v.2.2 * w.1)
  have h3 := sq_nn (v.2.1 * w.2.2 - v.2.2 * w.2.1)
  have : dotv v v * dotv w w - dotv v w * dotv v w = (v.1 * w.2.1 - v.2.1 * w.1) * (v.1 * w.2.1 - v.2.1 * w.1) + (v.1 * w.2.2 - v.2.2 * w.1) * (v.1 * w.2.2 - v.2.2 * w.1) + (v.2.1 * w.2.2 - v.2.2 * w.2.1) * (v.2.1 * w.2.2 - v.2.2 * w.2.1) := by
    unfold dotv
    grind
  omega
theorem dotv_zero {v : V3} (h : dotv v v = 0) : v = (0, 0, 0) := by
  have e : v.1 * v.1 + v.2.1 * v.2.1 + v.2.2 * v.2.2 = 0 := h
  have s1 := sq_nn v.1
  have s2 := sq_nn v.2.1
  have s3 := sq_nn v.2.2
  have e1 : v.1 = 0 := (Int.mul_eq_zero.mp (show v.1 * v.1 = 0 by omega)).elim id id
  have e2 : v.2.1 = 0 := (Int.mul_eq_zero.mp (show v.2.1 * v.2.1 = 0 by omega)).elim id id
  have e3 : v.2.2 = 0 := (Int.mul_eq_zero.mp (show v.2.2 * v.2.2 = 0 by omega)).elim id id
  exact Prod.ext e1 (Prod.ext e2 e3)
/-- the nearest place of a line: the gap's vector and scale -/
def pgv (p a b : V3) : V3 × Int :=
  if dotv (subv p a) (subv b a) ≤ 0 then (subv p a, 1)
  else if dotv (subv b a) (subv b a) ≤ dotv (subv p a) (subv b a) then (subv p b, 1)
  else (subv (mulv (subv p a) (dotv (subv b a) (subv b a))) (mulv (subv b a) (dotv (subv p a) (subv b a))), dotv (subv b a) (subv b a))
/-- (p - a) * n - (b - a) * k -/
def on (p a b : V3) (n k : Int) : V3 := subv (mulv (subv p a) n) (mulv (subv b a) k)
theorem on_sq (p a b : V3) (n k : Int) : dotv (on p a b n k) (on p a b n k) = n * n * dotv (subv p a) (subv p a) - 2 * n * k * dotv (subv p a) (subv b a) + k * k * dotv (subv b a) (subv b a) := by
  unfold on
  generalize subv p a = O
  generalize subv b a = D
  unfold dotv subv mulv
  dsimp only
  grind
theorem pgv_at (p a b : V3) : 1 ≤ (pgv p a b).2 ∧ ∃ k, 0 ≤ k ∧ k ≤ (pgv p a b).2 ∧ (pgv p a b).1 = on p a b (pgv p a b).2 k := by
  have d0 := dotv_self_nonneg (subv b a)
  unfold pgv
  split
  · refine ⟨Int.le_refl _, 0, Int.le_refl _, (show (0 : Int) ≤ 1 by decide), ?_⟩
    unfold on subv mulv
    dsimp only
    simp
  · split
    · refine ⟨Int.le_refl _, 1, (show (0 : Int) ≤ 1 by decide), Int.le_refl _, ?_⟩
      unfold on subv mulv
      dsimp only
      refine Prod.ext ?_ (Prod.ext ?_ ?_) <;> (dsimp only; omega)
    · refine ⟨?_, dotv (subv p a) (subv b a), ?_, ?_, rfl⟩ <;> omega
/-- no place of the line is nearer -/
theorem pgv_least (p a b : V3) {n k : Int} (n0 : 0 < n) (k0 : 0 ≤ k) (kn : k ≤ n) : dotv (pgv p a b).1 (pgv p a b).1 * (n * n) ≤ dotv (on p a b n k) (on p a b n k) * ((pgv p a b).2 * (pgv p a b).2) := by
  have h0 := dotv_self_nonneg (subv b a)
  rw [on_sq]
  unfold pgv
  have e3 := on_sq p a b (dotv (subv b a) (subv b a)) (dotv (subv p a) (subv b a))
  unfold on at e3
  have e2 : dotv (subv p b) (subv p b) = dotv (subv p a) (subv p a) - 2 * dotv (subv p a) (subv b a) + dotv (subv b a) (subv b a) := by
    unfold dotv subv
    dsimp only
    grind
  generalize hoo : dotv (subv p a) (subv p a) = oo at *
  generalize dotv (subv p a) (subv b a) = od at *
  generalize hdd : dotv (subv b a) (subv b a) = dd at *
  by_cases c1 : od ≤ 0
  · rw [if_pos c1]
    dsimp only
    rw [hoo]
    have p1 := Int.mul_nonneg (show 0 ≤ n by omega) (Int.mul_nonneg k0 (show 0 ≤ -od by omega))
    have p2 := Int.mul_nonneg (sq_nn k) h0
    have : (n * n * oo - 2 * n * k * od + k * k * dd) * (1 * 1) - oo * (n * n) = 2 * (n * (k * -od)) + k * k * dd := by grind
    omega
  · rw [if_neg c1]
    by_cases c2 : dd ≤ od
    · rw [if_pos c2]
      dsimp only
      rw [e2]
      have p1 := Int.mul_nonneg (show 0 ≤ n - k by omega) (Int.mul_nonneg (show 0 ≤ n - k by omega) h0)
      have p2 := Int.mul_nonneg (show 0 ≤ n by omega) (Int.mul_nonneg (show 0 ≤ n - k by omega) (show 0 ≤ od - dd by omega))
      have : (n * n * oo - 2 * n * k * od + k * k * dd) * (1 * 1) - (oo - 2 * od + dd) * (n * n) = (n - k) * ((n - k) * dd) + 2 * (n * ((n - k) * (od - dd))) := by grind
      omega
    · rw [if_neg c2]
      dsimp only
      rw [e3]
      have p1 := Int.mul_nonneg h0 (sq_nn (n * od - k * dd))
      have : (n * n * oo - 2 * n * k * od + k * k * dd) * (dd * dd) - (dd * dd * oo - 2 * dd * od * od + od * od * dd) * (n * n) = dd * ((n * od - k * dd) * (n * od - k * dd)) := by grind
      omega
/-- A * n + D * t - E * u -/
def pt (A D E : V3) (t u n : Int) : V3 := subv (addv (mulv A n) (mulv D t)) (mulv E u)
theorem pt_sq (A D E : V3) (t u n : Int) : dotv (pt A D E t u n) (pt A D E t u n) = n * n * dotv A A + t * t * dotv D D + u * u * dotv E E + 2 * n * t * dotv D A - 2 * n * u * dotv E A - 2 * t * u * dotv D E := by
  unfold pt dotv subv addv mulv
  dsimp only
  grind
/-- of some pairs with first parts above 0, one whose second part is least for its first -/
theorem least_pair : ∀ (L : List (Int × Int)), L ≠ [] → (∀ p ∈ L, 0 < p.1) → ∃ p ∈ L, ∀ q ∈ L, 0 ≤ p.1 * q.2 - p.2 * q.1
  | [p], _, _ => ⟨p, List.mem_cons_self, fun q hq => by
    rw [List.mem_singleton] at hq
    subst hq
    rw [Int.mul_comm]
    omega⟩
  | p :: r :: L, _, h => by
    obtain ⟨m, hm, h2⟩ := least_pair (r :: L) (by simp) fun q hq => h q (List.mem_cons_of_mem _ hq)
    have p0 := h p List.mem_cons_self
    have m0 := h m (List.mem_cons_of_mem _ hm)
    by_cases c : 0 ≤ m.1 * p.2 - m.2 * p.1
    · refine ⟨m, List.mem_cons_of_mem _ hm, fun q hq => ?_⟩
      rcases List.mem_cons.mp hq with rfl | hq
      · exact c
      · exact h2 q hq
    · refine ⟨p, List.mem_cons_self, fun q hq => ?_⟩
      rcases List.mem_cons.mp hq with rfl | hq
      · rw [Int.mul_comm]; omega
      · have q0 := h q (List.mem_cons_of_mem _ hq)
        have a1 := h2 q hq
        have a2 := Int.mul_nonneg (show 0 ≤ p.1 by omega) a1
        have a3 := Int.mul_nonneg (show 0 ≤ q.1 by omega) (show 0 ≤ -(m.1 * p.2 - m.2 * p.1) by omega)
        have e : p.1 * (m.1 * q.2 - m.2 * q.1) + q.1 * -(m.1 * p.2 - m.2 * p.1) = m.1 * (p.1 * q.2 - p.2 * q.1) := by grind
        rw [← Int.add_zero 0] at a2
        have a4 : 0 ≤ m.1 * (p.1 * q.2 - p.2 * q.1) := by omega
        by_cases g : 0 ≤ p.1 * q.2 - p.2 * q.1
        · exact g
        · exfalso
          have := Int.mul_lt_mul_of_pos_left (show p.1 * q.2 - p.2 * q.1 < 0 by omega) m0
          rw [Int.mul_zero] at this
          omega
/-- a place within the square of parts -/
def Sq (t u n : Int) : Prop := 0 < n ∧ 0 ≤ t ∧ t ≤ n ∧ 0 ≤ u ∧ u ≤ n
/-- at its border -/
def Brd (t u n : Int) : Prop := Sq t u n ∧ (t = 0 ∨ t = n ∨ u = 0 ∨ u = n)
/-- where there is no crossing, some place at the border is as near -/
theorem to_border {A D E : V3} {a b c d e w tc uc : Int} (ha : a = dotv D D) (hb : b = dotv D E) (hc : c = dotv E E) (hd : d = dotv D A) (he : e = dotv E A) (hw : w = a * c - b * b) (htc : tc = b * e - c * d) (huc : uc = a * e - b * d)
    (no : w ≤ 0 ∨ tc ≤ 0 ∨ w ≤ tc ∨ uc ≤ 0 ∨ w ≤ uc) {t u n : Int} (hs : Sq t u n) :
    ∃ t' u' n', Brd t' u' n' ∧ dotv (pt A D E t' u' n') (pt A D E t' u' n') * (n * n) ≤ dotv (pt A D E t u n) (pt A D E t u n) * (n' * n') := by
  obtain ⟨n0, t0, tn, u0, un⟩ := hs
  by_cases bd : t = 0 ∨ t = n ∨ u = 0 ∨ u = n
  · exact ⟨t, u, n, ⟨⟨n0, t0, tn, u0, un⟩, bd⟩, Int.le_refl _⟩
  have a0 : 0 ≤ a := ha ▸ dotv_self_nonneg _
  have w0 : 0 ≤ w := by
    have := cauchy D E
    rw [← ha, ← hb, ← hc] at this
    omega
  by_cases wp : 0 < w
  · have wn := Int.mul_pos wp n0
    have pos : ∀ x, 0 < x → 0 < x * w := fun x h => Int.mul_pos h wp
    obtain ⟨p, hp, hmin⟩ := least_pair [(t * w, tc * n), ((n - t) * w, (w - tc) * n), (u * w, uc * n), ((n - u) * w, (w - uc) * n)] (by simp) (by
      intro p hp
      simp only [List.mem_cons, List.not_mem_nil, or_false] at hp
      rcases hp with rfl | rfl | rfl | rfl <;> exact pos _ (by omega))
    have m1 := hmin (t * w, tc * n) (by simp)
    have m2 := hmin ((n - t) * w, (w - tc) * n) (by simp)
    have m3 := hmin (u * w, uc * n) (by simp)
    have m4 := hmin ((n - u) * w, (w - uc) * n) (by simp)
    dsimp only at m1 m2 m3 m4
    have lam : 0 < p.1 := by
      simp only [List.mem_cons, List.not_mem_nil, or_false] at hp
      rcases hp with rfl | rfl | rfl | rfl <;> exact pos _ (by omega)
    have neg : ∀ x y : Int, 0 < x → y ≤ 0 → 0 ≤ p.1 * (y * n) - p.2 * (x * w) → p.2 ≤ 0 := fun x y hx hy h => by
      by_cases g : p.2 ≤ 0
      · exact g
      · exfalso
        have k1 := Int.mul_pos (show 0 < p.2 by omega) (pos x hx)
        have k2 := Int.mul_nonneg (show 0 ≤ p.1 by omega) (Int.mul_nonneg (show 0 ≤ -y by omega) (show 0 ≤ n by omega))
        rw [Int.neg_mul, Int.mul_neg] at k2
        omega
    have mu : p.2 ≤ 0 := by
      rcases no with h | h | h | h | h
      · omega
      · exact neg t tc (by omega) h m1
      · exact neg (n - t) (w - tc) (by omega) (by omega) m2
      · exact neg u uc (by omega) h m3
      · exact neg (n - u) (w - uc) (by omega) (by omega) m4
    refine ⟨-p.2 * (t * w) + p.1 * (tc * n), -p.2 * (u * w) + p.1 * (uc * n), (-p.2 + p.1) * (n * w), ⟨⟨?_, ?_, ?_, ?_, ?_⟩, ?_⟩, ?_⟩
    · exact Int.mul_pos (by omega) (Int.mul_pos n0 wp)
    · rw [Int.neg_mul]; omega
    · have : (-p.2 + p.1) * (n * w) - (-p.2 * (t * w) + p.1 * (tc * n)) = p.1 * ((w - tc) * n) - p.2 * ((n - t) * w) := by grind
      omega
    · rw [Int.neg_mul]; omega
    · have : (-p.2 + p.1) * (n * w) - (-p.2 * (u * w) + p.1 * (uc * n)) = p.1 * ((w - uc) * n) - p.2 * ((n - u) * w) := by grind
      omega
    · simp only [List.mem_cons, List.not_mem_nil, or_false] at hp
      rcases hp with rfl | rfl | rfl | rfl
      · left; grind
      · right; left; grind
      · right; right; left; grind
      · right; right; right; grind
    · rw [pt_sq, pt_sq, ← ha, ← hb, ← hc, ← hd, ← he]
      generalize dotv A A = h
      have R0 : 0 ≤ (w * t - n * tc) * (w * t - n * tc) * a + (w * u - n * uc) * (w * u - n * uc) * c - 2 * (w * t - n * tc) * (w * u - n * uc) * b := by
        have e1 : (w * t - n * tc) * (w * t - n * tc) * a + (w * u - n * uc) * (w * u - n * uc) * c - 2 * (w * t - n * tc) * (w * u - n * uc) * b = dotv (subv (mulv D (w * t - n * tc)) (mulv E (w * u - n * uc))) (subv (mulv D (w * t - n * tc)) (mulv E (w * u - n * uc))) := by
          rw [ha, hb, hc]
          unfold dotv subv mulv
          dsimp only
          grind
        rw [e1]
        exact dotv_self_nonneg _
      have f0 : 0 ≤ p.1 * p.1 - 2 * p.1 * p.2 := by
        have := Int.mul_nonneg (show 0 ≤ p.1 by omega) (show 0 ≤ p.1 - 2 * p.2 by omega)
        have e1 : p.1 * (p.1 - 2 * p.2) = p.1 * p.1 - 2 * p.1 * p.2 := by grind
        omega
      have all := Int.mul_nonneg (sq_nn n) (Int.mul_nonneg R0 f0)
      have k1 : a * tc - b * uc = -(d * w) := by subst hw htc huc; grind
      have k2 : c * uc - b * tc = e * w := by subst hw htc huc; grind
      have hx : w * w * (n * n * h + t * t * a + u * u * c + 2 * n * t * d - 2 * n * u * e - 2 * t * u * b) = n * n * (w * (w * h + tc * d - uc * e)) + ((w * t - n * tc) * (w * t - n * tc) * a + (w * u - n * uc) * (w * u - n * uc) * c - 2 * (w * t - n * tc) * (w * u - n * uc) * b) := by
        have e1 : d * w = b * uc - a * tc := by omega
        grind
      have hy : ∀ T U N : Int, T = -p.2 * (t * w) + p.1 * (tc * n) → U = -p.2 * (u * w) + p.1 * (uc * n) → N = (-p.2 + p.1) * (n * w) →
          N * N * h + T * T * a + U * U * c + 2 * N * T * d - 2 * N * U * e - 2 * T * U * b = p.2 * p.2 * (w * w * (n * n * h + t * t * a + u * u * c + 2 * n * t * d - 2 * n * u * e - 2 * t * u * b)) + p.1 * p.1 * (n * n * (w * (w * h + tc * d - uc * e))) - 2 * p.2 * p.1 * (n * n * (w * (w * h + tc * d - uc * e))) := by
        intro T U N hT hU hN
        subst hT hU hN
        have e1 : d * w = b * uc - a * tc := by omega
        grind
      rw [hy _ _ _ rfl rfl rfl]
      generalize n * n * h + t * t * a + u * u * c + 2 * n * t * d - 2 * n * u * e - 2 * t * u * b = Fx at *
      generalize w * (w * h + tc * d - uc * e) = S at *
      generalize (w * t - n * tc) * (w * t - n * tc) * a + (w * u - n * uc) * (w * u - n * uc) * c - 2 * (w * t - n * tc) * (w * u - n * uc) * b = R at *
      have fin : Fx * ((-p.2 + p.1) * (n * w) * ((-p.2 + p.1) * (n * w))) - (p.2 * p.2 * (w * w * Fx) + p.1 * p.1 * (n * n * S) - 2 * p.2 * p.1 * (n * n * S)) * (n * n) = n * n * (R * (p.1 * p.1 - 2 * p.1 * p.2)) := by grind
      omega
  · have wz : w = 0 := by omega
    by_cases az : a = 0
    · have D0 : D = (0, 0, 0) := dotv_zero (by rw [← ha]; exact az)
      refine ⟨0, u, n, ⟨⟨n0, Int.le_refl _, by omega, u0, un⟩, .inl rfl⟩, ?_⟩
      have e1 : pt A D E 0 u n = pt A D E t u n := by
        subst D0
        unfold pt addv subv mulv
        simp
      rw [e1]
      exact Int.le_refl _
    · have ap : 0 < a := by omega
      have Z : subv (mulv D b) (mulv E a) = (0, 0, 0) := dotv_zero (by
        have e1 : dotv (subv (mulv D b) (mulv E a)) (subv (mulv D b) (mulv E a)) = a * w := by
          have e2 : dotv (subv (mulv D b) (mulv E a)) (subv (mulv D b) (mulv E a)) = b * b * dotv D D - 2 * a * b * dotv D E + a * a * dotv E E := by
            unfold dotv subv mulv
            dsimp only
            grind
          rw [e2, ← ha, ← hb, ← hc, hw]
          grind
        rw [e1, wz, Int.mul_zero])
      obtain ⟨p, hp, hmin⟩ := least_pair [(t, b), (n - t, -b), (u, a), (n - u, -a)] (by simp) (by
        intro p hp
        simp only [List.mem_cons, List.not_mem_nil, or_false] at hp
        rcases hp with rfl | rfl | rfl | rfl <;> (dsimp only; omega))
      have m1 := hmin (t, b) (by simp)
      have m2 := hmin (n - t, -b) (by simp)
      have m3 := hmin (u, a) (by simp)
      have m4 := hmin (n - u, -a) (by simp)
      dsimp only at m1 m2 m3 m4
      have lam : 0 < p.1 := by
        simp only [List.mem_cons, List.not_mem_nil, or_false] at hp
        rcases hp with rfl | rfl | rfl | rfl <;> (dsimp only; omega)
      have mu : p.2 < 0 := by
        by_cases g : p.2 < 0
        · exact g
        · exfalso
          have k1 := Int.mul_nonneg (show 0 ≤ p.2 by omega) (show 0 ≤ n - u by omega)
          have k2 := Int.mul_pos lam ap
          rw [Int.mul_neg] at m4
          omega
      refine ⟨-p.2 * t + p.1 * b, -p.2 * u + p.1 * a, -p.2 * n, ⟨⟨?_, ?_, ?_, ?_, ?_⟩, ?_⟩, ?_⟩
      · exact Int.mul_pos (by omega) n0
      · rw [Int.neg_mul]; omega
      · have : -p.2 * n - (-p.2 * t + p.1 * b) = p.1 * -b - p.2 * (n - t) := by grind
        omega
      · rw [Int.neg_mul]; omega
      · have : -p.2 * n - (-p.2 * u + p.1 * a) = p.1 * -a - p.2 * (n - u) := by grind
        omega
      · simp only [List.mem_cons, List.not_mem_nil, or_false] at hp
        rcases hp with rfl | rfl | rfl | rfl
        · left; grind
        · right; left; grind
        · right; right; left; grind
        · right; right; right; grind
      · have z1 : D.1 * b = E.1 * a := by
          have := congrArg Prod.fst Z
          simp only [subv, mulv] at this
          omega
        have z2 : D.2.1 * b = E.2.1 * a := by
          have := congrArg (fun v => v.2.1) Z
          simp only [subv, mulv] at this
          omega
        have z3 : D.2.2 * b = E.2.2 * a := by
          have := congrArg (fun v => v.2.2) Z
          simp only [subv, mulv] at this
          omega
        have e1 : pt A D E (-p.2 * t + p.1 * b) (-p.2 * u + p.1 * a) (-p.2 * n) = mulv (pt A D E t u n) (-p.2) := by
          unfold pt addv subv mulv
          refine Prod.ext ?_ (Prod.ext ?_ ?_) <;> (dsimp only; grind)
        have e2 : ∀ (v : V3) (k : Int), dotv (mulv v k) (mulv v k) = k * k * dotv v v := fun v k => by
          unfold dotv mulv
          dsimp only
          grind
        rw [e1, e2]
        generalize dotv (pt A D E t u n) (pt A D E t u n) = F
        have : -p.2 * -p.2 * F * (n * n) = F * (-p.2 * n * (-p.2 * n)) := by grind
        omega

/-! ### the gap of two lines -/
def cgv (A D E : V3) : Option (V3 × Int) :=
  if dotv D D * dotv E E - dotv D E * dotv D E ≤ 0 then none
  else if 0 < dotv D E * dotv E A - dotv E E * dotv D A ∧ dotv D E * dotv E A - dotv E E * dotv D A < dotv D D * dotv E E - dotv D E * dotv D E ∧ 0 < dotv D D * dotv E A - dotv D E * dotv D A ∧ dotv D D * dotv E A - dotv D E * dotv D A < dotv D D * dotv E E - dotv D E * dotv D E then
    some (pt A D E (dotv D E * dotv E A - dotv E E * dotv D A) (dotv D D * dotv E A - dotv D E * dotv D A) (dotv D D * dotv E E - dotv D E * dotv D E), dotv D D * dotv E E - dotv D E * dotv D E)
  else none
def negv (g : V3 × Int) : V3 × Int := (mulv g.1 (-1), g.2)
def lgl (p0 p1 q0 q1 : V3) : List (V3 × Int) :=
  (cgv (subv p0 q0) (subv p1 p0) (subv q1 q0)).toList ++ [pgv p0 q0 q1, pgv p1 q0 q1, negv (pgv q0 p0 p1), negv (pgv q1 p0 p1)]
def shorterv (g k : V3 × Int) : Bool := decide (dotv g.1 g.1 * k.2 * k.2 < dotv k.1 k.1 * g.2 * g.2)
def shortestv (gs : List (V3 × Int)) : V3 × Int := gs.foldl (fun b g => if shorterv g b = true then g else b) (gs.headD ((0, 0, 0), 1))
theorem frac_trans {x y z sx sy sz : Int} (h : 0 < sy) (h1 : x * (sy * sy) ≤ y * (sx * sx)) (h2 : y * (sz * sz) ≤ z * (sy * sy)) : x * (sz * sz) ≤ z * (sx * sx) := by
  have a1 := Int.mul_le_mul_of_nonneg_right h1 (sq_nn sz)
  have a2 := Int.mul_le_mul_of_nonneg_right h2 (sq_nn sx)
  have pos := Int.mul_pos h h
  have e1 : x * (sy * sy) * (sz * sz) = (sy * sy) * (x * (sz * sz)) := by grind
  have e2 : z * (sy * sy) * (sx * sx) = (sy * sy) * (z * (sx * sx)) := by grind
  have e3 : y * (sx * sx) * (sz * sz) = y * (sz * sz) * (sx * sx) := by grind
  exact Int.le_of_mul_le_mul_left (show (sy * sy) * (x * (sz * sz)) ≤ (sy * sy) * (z * (sx * sx)) by omega) pos
theorem fold_short (gs all : List (V3 × Int)) (b : V3 × Int) (hb : b ∈ all) (hg : ∀ g ∈ gs, g ∈ all) (pos : ∀ g ∈ all, 1 ≤ g.2) :
    let r := gs.foldl (fun b g => if shorterv g b = true then g else b) b
    r ∈ all ∧ dotv r.1 r.1 * (b.2 * b.2) ≤ dotv b.1 b.1 * (r.2 * r.2) ∧ ∀ g ∈ gs, dotv r.1 r.1 * (g.2 * g.2) ≤ dotv g.1 g.1 * (r.2 * r.2) := by
  induction gs generalizing b with
  | nil => exact ⟨hb, Int.le_refl _, fun _ h => nomatch h⟩
  | cons g gs ih =>
    intro r
    have gm := hg g List.mem_cons_self
    have key : dotv (if shorterv g b = true then g else b).1 (if shorterv g b = true then g else b).1 * (b.2 * b.2) ≤ dotv b.1 b.1 * ((if shorterv g b = true then g else b).2 * (if shorterv g b = true then g else b).2) ∧ dotv (if shorterv g b = true then g else b).1 (if shorterv g b = true then g else b).1 * (g.2 * g.2) ≤ dotv g.1 g.1 * ((if shorterv g b = true then g else b).2 * (if shorterv g b = true then g else b).2) ∧ (if shorterv g b = true then g else b) ∈ all := by
      by_cases c : shorterv g b = true
      · rw [if_pos c]
        have c := of_decide_eq_true c
        rw [Int.mul_assoc, Int.mul_assoc] at c
        exact ⟨by omega, Int.le_refl _, gm⟩
      · rw [if_neg c]
        have c : ¬ (dotv g.1 g.1 * b.2 * b.2 < dotv b.1 b.1 * g.2 * g.2) := fun h => c (decide_eq_true h)
        rw [Int.mul_assoc, Int.mul_assoc] at c
        exact ⟨Int.le_refl _, by omega, hb⟩
    obtain ⟨k1, k2, k3⟩ := key
    obtain ⟨r1, r2, r3⟩ := ih _ k3 fun x hx => hg x (List.mem_cons_of_mem _ hx)
    have bp := pos _ k3
    refine ⟨r1, frac_trans (by omega) r2 k1, fun x hx => ?_⟩
    rcases List.mem_cons.mp hx with rfl | hx
    · exact frac_trans (by omega) r2 k2
    · exact r3 x hx
theorem shortestv_ok {gs : List (V3 × Int)} (h : gs ≠ []) (pos : ∀ g ∈ gs, 1 ≤ g.2) : shortestv gs ∈ gs ∧ ∀ g ∈ gs, dotv (shortestv gs).1 (shortestv gs).1 * (g.2 * g.2) ≤ dotv g.1 g.1 * ((shortestv gs).2 * (shortestv gs).2) := by
  match gs, h with
  | g :: gs, _ =>
    obtain ⟨a, _, c⟩ := fold_short (g :: gs) (g :: gs) g List.mem_cons_self (fun _ h => h) pos
    exact ⟨a, c⟩
section
variable (p0 p1 q0 q1 : V3)
theorem on_t0 (n k : Int) : on p0 q0 q1 n k = pt (subv p0 q0) (subv p1 p0) (subv q1 q0) 0 k n := by
  unfold on pt subv addv mulv
  refine Prod.ext ?_ (Prod.ext ?_ ?_) <;> (dsimp only; grind)
theorem on_t1 (n k : Int) : on p1 q0 q1 n k = pt (subv p0 q0) (subv p1 p0) (subv q1 q0) n k n := by
  unfold on pt subv addv mulv
  refine Prod.ext ?_ (Prod.ext ?_ ?_) <;> (dsimp only; grind)
theorem on_u0 (n k : Int) : mulv (on q0 p0 p1 n k) (-1) = pt (subv p0 q0) (subv p1 p0) (subv q1 q0) k 0 n := by
  unfold on pt subv addv mulv
  refine Prod.ext ?_ (Prod.ext ?_ ?_) <;> (dsimp only; grind)
theorem on_u1 (n k : Int) : mulv (on q1 p0 p1 n k) (-1) = pt (subv p0 q0) (subv p1 p0) (subv q1 q0) k n n := by
  unfold on pt subv addv mulv
  refine Prod.ext ?_ (Prod.ext ?_ ?_) <;> (dsimp only; grind)
theorem dotv_neg (v : V3) : dotv (mulv v (-1)) (mulv v (-1)) = dotv v v := by
  unfold dotv mulv
  dsimp only
  grind
/-- each gap that is tried is that of two places of the lines -/
theorem lgl_at : ∀ g ∈ lgl p0 p1 q0 q1, 1 ≤ g.2 ∧ ∃ t u, Sq t u g.2 ∧ g.1 = pt (subv p0 q0) (subv p1 p0) (subv q1 q0) t u g.2 := by
  intro g hg
  unfold lgl at hg
  rcases List.mem_append.mp hg with hg | hg
  · unfold cgv at hg
    split at hg
    · cases hg
    · rename_i c0
      split at hg
      · rename_i c
        rw [Option.toList_some, List.mem_singleton] at hg
        subst hg
        exact ⟨by dsimp only; omega, _, _, ⟨by dsimp only; omega, by omega, by dsimp only; omega, by omega, by dsimp only; omega⟩, rfl⟩
      · cases hg
  · simp only [List.mem_cons, List.not_mem_nil, or_false] at hg
    rcases hg with rfl | rfl | rfl | rfl
    · obtain ⟨h1, k, k0, k1, e⟩ := pgv_at p0 q0 q1
      exact ⟨h1, 0, k, ⟨by omega, Int.le_refl _, by omega, k0, k1⟩, by rw [← on_t0]; exact e⟩
    · obtain ⟨h1, k, k0, k1, e⟩ := pgv_at p1 q0 q1
      exact ⟨h1, _, k, ⟨by omega, by omega, Int.le_refl _, k0, k1⟩, by rw [← on_t1]; exact e⟩
    · obtain ⟨h1, k, k0, k1, e⟩ := pgv_at q0 p0 p1
      exact ⟨h1, k, 0, ⟨by show 0 < (pgv q0 p0 p1).2; omega, k0, k1, Int.le_refl _, by show 0 ≤ (pgv q0 p0 p1).2; omega⟩, by rw [← on_u0]; show mulv _ _ = _; rw [e]; rfl⟩
    · obtain ⟨h1, k, k0, k1, e⟩ := pgv_at q1 p0 p1
      exact ⟨h1, k, _, ⟨by show 0 < (pgv q1 p0 p1).2; omega, k0, k1, by show 0 ≤ (pgv q1 p0 p1).2; omega, Int.le_refl _⟩, by rw [← on_u1]; show mulv _ _ = _; rw [e]; rfl⟩
theorem lgl_ne : lgl p0 p1 q0 q1 ≠ [] := by
  unfold lgl
  simp
/-- the gap of the lines: no difference of two places of them is shorter -/
theorem line_least {t u n : Int} (h : Sq t u n) : dotv (shortestv (lgl p0 p1 q0 q1)).1 (shortestv (lgl p0 p1 q0 q1)).1 * (n * n) ≤ dotv (pt (subv p0 q0) (subv p1 p0) (subv q1 q0) t u n) (pt (subv p0 q0) (subv p1 p0) (subv q1 q0) t u n) * ((shortestv (lgl p0 p1 q0 q1)).2 * (shortestv (lgl p0 p1 q0 q1)).2) := by
  obtain ⟨_, least⟩ := shortestv_ok (lgl_ne p0 p1 q0 q1) fun g hg => (lgl_at p0 p1 q0 q1 g hg).1
  generalize shortestv (lgl p0 p1 q0 q1) = r at least ⊢
  have fin : ∀ g ∈ lgl p0 p1 q0 q1, ∀ F m, 0 < m → dotv g.1 g.1 * (m * m) ≤ F * (g.2 * g.2) → dotv r.1 r.1 * (m * m) ≤ F * (r.2 * r.2) := fun g hg F m hm h2 =>
    frac_trans (sy := g.2) (by have := (lgl_at p0 p1 q0 q1 g hg).1; omega) (least g hg) h2
  have border : ∀ t' u' n', Brd t' u' n' → dotv r.1 r.1 * (n' * n') ≤ dotv (pt (subv p0 q0) (subv p1 p0) (subv q1 q0) t' u' n') (pt (subv p0 q0) (subv p1 p0) (subv q1 q0) t' u' n') * (r.2 * r.2) := by
    intro t' u' n' ⟨⟨n0, t0, tn, u0, un⟩, b⟩
    rcases b with rfl | rfl | rfl | rfl
    · exact fin (pgv p0 q0 q1) (by unfold lgl; simp) _ _ n0 (by rw [← on_t0]; exact pgv_least p0 q0 q1 n0 u0 un)
    · exact fin (pgv p1 q0 q1) (by unfold lgl; simp) _ _ n0 (by rw [← on_t1]; exact pgv_least p1 q0 q1 n0 u0 un)
    · exact fin (negv (pgv q0 p0 p1)) (by unfold lgl; simp) _ _ n0 (by rw [← on_u0, dotv_neg]; show dotv (mulv _ _) (mulv _ _) * _ ≤ _; rw [dotv_neg]; exact pgv_least q0 p0 p1 n0 t0 tn)
    · exact fin (negv (pgv q1 p0 p1)) (by unfold lgl; simp) _ _ n0 (by rw [← on_u1, dotv_neg]; show dotv (mulv _ _) (mulv _ _) * _ ≤ _; rw [dotv_neg]; exact pgv_least q1 p0 p1 n0 t0 tn)
  have hA : ∃ A, A = subv p0 q0 := ⟨_, rfl⟩
  have hD : ∃ D, D = subv p1 p0 := ⟨_, rfl⟩
  have hE : ∃ E, E = subv q1 q0 := ⟨_, rfl⟩
  obtain ⟨A, hA⟩ := hA
  obtain ⟨D, hD⟩ := hD
  obtain ⟨E, hE⟩ := hE
  by_cases c : dotv D D * dotv E E - dotv D E * dotv D E ≤ 0 ∨ dotv D E * dotv E A - dotv E E * dotv D A ≤ 0 ∨ dotv D D * dotv E E - dotv D E * dotv D E ≤ dotv D E * dotv E A - dotv E E * dotv D A ∨ dotv D D * dotv E A - dotv D E * dotv D A ≤ 0 ∨ dotv D D * dotv E E - dotv D E * dotv D E ≤ dotv D D * dotv E A - dotv D E * dotv D A
  · obtain ⟨t', u', n', hb, hl⟩ := to_border (A := A) rfl rfl rfl rfl rfl rfl rfl rfl c h
    have b := border t' u' n' hb
    rw [← hA, ← hD, ← hE] at b ⊢
    exact frac_trans (sy := n') hb.1.1 b hl
  · have hc : cgv A D E = some (pt A D E (dotv D E * dotv E A - dotv E E * dotv D A) (dotv D D * dotv E A - dotv D E * dotv D A) (dotv D D * dotv E E - dotv D E * dotv D E), dotv D D * dotv E E - dotv D E * dotv D E) := by
      unfold cgv
      rw [if_neg (by omega), if_pos (by omega)]
    have hm : (pt A D E (dotv D E * dotv E A - dotv E E * dotv D A) (dotv D D * dotv E A - dotv D E * dotv D A) (dotv D D * dotv E E - dotv D E * dotv D E), dotv D D * dotv E E - dotv D E * dotv D E) ∈ lgl p0 p1 q0 q1 := by
      unfold lgl
      rw [← hA, ← hD, ← hE, hc]
      simp
    refine fin _ hm _ _ h.1 ?_
    rw [← hA, ← hD, ← hE]
    dsimp only
    have R0 : 0 ≤ dotv (subv (mulv D ((dotv D D * dotv E E - dotv D E * dotv D E) * t - n * (dotv D E * dotv E A - dotv E E * dotv D A))) (mulv E ((dotv D D * dotv E E - dotv D E * dotv D E) * u - n * (dotv D D * dotv E A - dotv D E * dotv D A)))) (subv (mulv D ((dotv D D * dotv E E - dotv D E * dotv D E) * t - n * (dotv D E * dotv E A - dotv E E * dotv D A))) (mulv E ((dotv D D * dotv E E - dotv D E * dotv D E) * u - n * (dotv D D * dotv E A - dotv D E * dotv D A)))) := dotv_self_nonneg _
    have eR : ∀ x y : Int, dotv (subv (mulv D x) (mulv E y)) (subv (mulv D x) (mulv E y)) = x * x * dotv D D + y * y * dotv E E - 2 * x * y * dotv D E := fun x y => by
      unfold dotv subv mulv
      dsimp only
      grind
    rw [eR] at R0
    rw [pt_sq, pt_sq]
    generalize dotv D D = a at *
    generalize dotv D E = b at *
    clear hc hm
    clear c
    generalize dotv E E = c at *
    generalize dotv D A = d at *
    generalize dotv E A = e at *
    generalize dotv A A = h at *
    have q : ∀ w tc uc : Int, w = a * c - b * b → tc = b * e - c * d → uc = a * e - b * d →
        (n * n * h + t * t * a + u * u * c + 2 * n * t * d - 2 * n * u * e - 2 * t * u * b) * (w * w) = (w * w * h + tc * tc * a + uc * uc * c + 2 * w * tc * d - 2 * w * uc * e - 2 * tc * uc * b) * (n * n) + ((w * t - n * tc) * (w * t - n * tc) * a + (w * u - n * uc) * (w * u - n * uc) * c - 2 * (w * t - n * tc) * (w * u - n * uc) * b) := by
      intro w tc uc h1 h2 h3
      subst h1 h2 h3
      grind
    have := q _ _ _ rfl rfl rfl
    omega
/-- so the gap's vector is at most as far along itself as any difference of ends -/
theorem line_ends {t u : Int} (ht : 0 ≤ t ∧ t ≤ 1) (hu : 0 ≤ u ∧ u ≤ 1) : 0 ≤ dotv (shortestv (lgl p0 p1 q0 q1)).1 (subv (mulv (pt (subv p0 q0) (subv p1 p0) (subv q1 q0) t u 1) (shortestv (lgl p0 p1 q0 q1)).2) (shortestv (lgl p0 p1 q0 q1)).1) := by
  have least := fun t u n h => line_least p0 p1 q0 q1 (t := t) (u := u) (n := n) h
  obtain ⟨s1, T, U, hS, e⟩ := lgl_at p0 p1 q0 q1 _ (shortestv_ok (lgl_ne p0 p1 q0 q1) fun g hg => (lgl_at p0 p1 q0 q1 g hg).1).1
  generalize shortestv (lgl p0 p1 q0 q1) = r at *
  obtain ⟨V, s⟩ := r
  dsimp only at *
  generalize subv p0 q0 = A at *
  generalize subv p1 p0 = D at *
  generalize subv q1 q0 = E at *
  have hX : ∃ X, X = subv (mulv (pt A D E t u 1) s) V := ⟨_, rfl⟩
  obtain ⟨X, hX⟩ := hX
  rw [← hX]
  by_cases g : 0 ≤ dotv V X
  · exact g
  · exfalso
    have x0 := dotv_self_nonneg X
    have hN : ∃ n, n = dotv X X + 1 := ⟨_, rfl⟩
    obtain ⟨n, hN⟩ := hN
    have n1 : 1 ≤ n := by omega
    obtain ⟨h0, h1, h2, h3, h4⟩ := hS
    have sq : Sq ((n - 1) * T + t * s) ((n - 1) * U + u * s) (n * s) := by
      have e1 : n * s - ((n - 1) * T + t * s) = (n - 1) * (s - T) + (1 - t) * s := by grind
      have e2 : n * s - ((n - 1) * U + u * s) = (n - 1) * (s - U) + (1 - u) * s := by grind
      have a1 := Int.mul_nonneg (show 0 ≤ n - 1 by omega) h1
      have a2 := Int.mul_nonneg ht.1 (show 0 ≤ s by omega)
      have a3 := Int.mul_nonneg (show 0 ≤ n - 1 by omega) h3
      have a4 := Int.mul_nonneg hu.1 (show 0 ≤ s by omega)
      have a5 := Int.mul_nonneg (show 0 ≤ n - 1 by omega) (show 0 ≤ s - T by omega)
      have a6 := Int.mul_nonneg (show 0 ≤ 1 - t by omega) (show 0 ≤ s by omega)
      have a7 := Int.mul_nonneg (show 0 ≤ n - 1 by omega) (show 0 ≤ s - U by omega)
      have a8 := Int.mul_nonneg (show 0 ≤ 1 - u by omega) (show 0 ≤ s by omega)
      exact ⟨Int.mul_pos (by omega) (by omega), by omega, by omega, by omega, by omega⟩
    have l := least _ _ _ sq
    have ep : pt A D E ((n - 1) * T + t * s) ((n - 1) * U + u * s) (n * s) = addv (mulv V n) X := by
      rw [hX, e]
      unfold pt subv addv mulv
      refine Prod.ext ?_ (Prod.ext ?_ ?_) <;> (dsimp only; grind)
    have ex : dotv (addv (mulv V n) X) (addv (mulv V n) X) = n * n * dotv V V + 2 * n * dotv V X + dotv X X := by
      unfold dotv addv mulv
      dsimp only
      grind
    rw [ep, ex] at l
    have pos := Int.mul_pos (show 0 < s by omega) (show 0 < s by omega)
    have e3 : dotv V V * (n * s * (n * s)) = (s * s) * (n * n * dotv V V) := by grind
    have e4 : (n * n * dotv V V + 2 * n * dotv V X + dotv X X) * (s * s) = (s * s) * (n * n * dotv V V + 2 * n * dotv V X + dotv X X) := Int.mul_comm _ _
    rw [e3, e4] at l
    have l2 := Int.le_of_mul_le_mul_left l pos
    have l3 := Int.mul_le_mul_of_nonneg_left (show dotv V X ≤ -1 by omega) (show 0 ≤ 2 * n by omega)
    omega
end
end DL

namespace G
open PySem L2 DL
def Cell (c : Int) : Prop := 0 ≤ c ∧ lg c ≤ 1048580
theorem rows_ok {ns : List Int} (n : Nat) (hb : ∀ z ∈ ns, Builtin.Int.intBits z ≤ 1048576) (hl : ns.length ≤ 63) (hn : n ≤ 1000) : Tot (m__law_rows ns (n : Int)) fun rows => rows.length = n ∧ ∀ c ∈ rows, Cell c := by
  unfold m__law_rows
  refine tot_lt fun r0 hr0 => ?_
  refine tot_rng (by omega) ?_
  refine tot_bind (P := fun rows => rows.length = n ∧ ∀ c ∈ rows, Cell c) ?_ fun rows h => tot_some h
  have hlen : (rng 0 (n : Int)).length = n := by rw [rng_len]; omega
  refine tot_imp (tot_forLi (W := fun i (s : List Int) => s.length = i ∧ ∀ c ∈ s, Cell c) ?_ ?_) fun s h => by rw [hlen] at h; exact h
  · subst hr0
    exact ⟨rfl, fun c h => nomatch h⟩
  · intro i k s hk hs
    obtain ⟨ek, hk2⟩ := rng_get hk
    have hkn : 0 ≤ k ∧ k ≤ 1000 := by omega
    have lk : lg k ≤ 10 := lg_le (b := 1000) (by omega) (by decide)
    obtain ⟨hs1, hs2⟩ := hs
    refine tot_lt fun c0 hc0 => ?_
    refine tot_bind (P := fun c => lg c ≤ 1048576) ?_ fun c hc => ?_
    · refine tot_ite (fun h => ?_) fun _ => ?_
      · have h := of_decide_eq_true h
        refine tot_mod h fun h1 h2 => ?_
        exact tot_at h1 h2 fun x hx _ => tot_some (lg_bits (hb x hx))
      · subst hc0
        exact tot_some (by decide)
    refine tot_bind (P := fun c => Cell c) ?_ fun c hc => ?_
    · refine tot_ite (fun h => ?_) fun h => ?_
      · have h := of_decide_eq_true h
        have l2 : lg (2 : Int) ≤ 1 := by decide
        refine tot_mul (by omega) (tot_lt fun x hx => tot_some ?_)
        subst hx
        have a := lg_sub 1 (2 * c)
        have b := lg_mul 2 c
        have l1 : lg (1 : Int) ≤ 0 := by decide
        exact ⟨by omega, by omega⟩
      · have h := of_decide_eq_false h
        exact tot_some ⟨by omega, by omega⟩
    obtain ⟨c1, c2⟩ := hc
    refine tot_bind (P := fun c => Cell c) ?_ fun c hc => ?_
    · refine tot_ite (fun _ => ?_) fun _ => tot_some ⟨c1, c2⟩
      haveI : Szl c 1048580 := ⟨c2⟩
      haveI : Szl k 10 := ⟨lk⟩
      refine t_mul (t_mul (t_mul (t_mul (t_mod (by decide) fun y _ h1 h2 hy => ?_))))
      refine t_mul (t_mul (t_mod (by decide) fun z _ h3 h4 hz => tot_some ⟨h3, Nat.le_trans hz.le (by decide)⟩))
    refine tot_app (by omega) (tot_some ⟨by rw [List.length_append, List.length_singleton, hs1], fun z hz => ?_⟩)
    rcases List.mem_append.mp hz with hz | hz
    · exact hs2 z hz
    · rw [List.mem_singleton] at hz
      subst hz
      exact hc
theorem Cell.sz {c : Int} (h : Cell c) : Szl c 1048580 := ⟨h.2⟩
theorem root_up_ok {n : Int} (h0 : 0 ≤ n) (hl : lg n ≤ 13000) : Tot (m_root_up n) fun r => 0 ≤ r ∧ n ≤ r * r ∧ (0 < r → (r - 1) * (r - 1) < n) := by
  unfold m_root_up
  obtain ⟨r, e, r0, r1, r2⟩ := isqrt_spec h0 hl
  refine t_eq e ?_
  have lr : lg r ≤ lg n := by
    refine lg_mono ?_
    have h : r ≤ r * r := by
      by_cases h : r = 0
      · subst h; decide
      · have := Int.mul_le_mul_of_nonneg_left (show (1 : Int) ≤ r by omega) r0
        rw [Int.mul_one] at this
        exact this
    omega
  refine tot_mul (by omega) (tot_ite (fun h => tot_some ?_) fun h => tot_some ?_)
  · have h := of_decide_eq_true h
    refine ⟨r0, by omega, fun hp => ?_⟩
    have := Int.mul_lt_mul_of_pos_left (show r - 1 < r by omega) hp
    have := Int.mul_le_mul_of_nonneg_right (show r - 1 ≤ r by omega) (show 0 ≤ r - 1 by omega)
    omega
  · have h := of_decide_eq_false h
    refine ⟨by omega, by omega, fun _ => ?_⟩
    rw [Int.add_sub_cancel]
    omega
theorem root_lg {n r : Int} {k : Nat} (h0 : 0 ≤ n) (h : 0 ≤ r ∧ n ≤ r * r ∧ (0 < r → (r - 1) * (r - 1) < n)) (hl : lg n ≤ k) : lg r ≤ k + 1 := by
  obtain ⟨r0, _, r2⟩ := h
  have : lg r ≤ lg (n + 1) := by
    refine lg_mono ?_
    by_cases h : r = 0
    · subst h; exact Nat.zero_le _
    · have h2 := r2 (by omega)
      have h3 : r - 1 ≤ (r - 1) * (r - 1) := by
        by_cases h : r - 1 = 0
        · rw [h]; decide
        · have := Int.mul_le_mul_of_nonneg_left (show (1 : Int) ≤ r - 1 by omega) (show 0 ≤ r - 1 by omega)
          rw [Int.mul_one] at this
          exact this
      omega
  have q := lg_add n 1
  have l1 : lg (1 : Int) ≤ 0 := by decide
  omega
/-- the least number whose square is at least n is one -/
theorem root_one {n r q : Int} (h : 0 ≤ r ∧ n ≤ r * r ∧ (0 < r → (r - 1) * (r - 1) < n)) (k : 0 ≤ q ∧ n ≤ q * q ∧ (0 < q → (q - 1) * (q - 1) < n)) : r = q := by
  obtain ⟨h1, h2, h3⟩ := h
  obtain ⟨k1, k2, k3⟩ := k
  have key : ∀ {a b : Int}, 0 ≤ a → n ≤ a * a → (0 < b → (b - 1) * (b - 1) < n) → b ≤ a := by
    intro a b a0 a1 b1
    by_cases hb : b ≤ a
    · exact hb
    · have h5 := b1 (by omega)
      have h6 := Int.mul_le_mul (show a ≤ b - 1 by omega) (show a ≤ b - 1 by omega) a0 (show 0 ≤ b - 1 by omega)
      omega
  have a := key h1 h2 k3
  have b := key k1 k2 h3
  omega
theorem divide_up_eq {n d : Int} {k : Nat} (hd : 0 < d) [hl : Szl d k] (h : k < 9000 := by decide) : m_divide_up n d = some (-((-n) / d)) := by
  unfold m_divide_up
  rw [divC_eq hd (Nat.lt_of_le_of_lt hl.le h)]
  rfl
theorem up_spec {n d : Int} (hd : 0 < d) : (-((-n) / d) - 1) * d < n ∧ n ≤ -((-n) / d) * d := by
  have h1 := Int.emod_add_mul_ediv (-n) d
  have h2 := Int.emod_nonneg (-n) (show d ≠ 0 by omega)
  have h3 := Int.emod_lt_of_pos (-n) hd
  generalize (-n) / d = q at h1 ⊢
  generalize (-n) % d = r at h1 h2 h3
  have e1 : -q * d = -(d * q) := by rw [Int.neg_mul, Int.mul_comm]
  have e2 : (-q - 1) * d = -(d * q) - d := by rw [Int.sub_mul, e1, Int.one_mul]
  rw [e1, e2]
  constructor <;> omega
theorem is_int (x : Int) : m__law_is_integer x = some true := rfl
theorem dot_eq {v w : V3} {m n : Nat} [Szv v m] [Szv w n] (h : m + n < 100000000 := by decide) : m_dot v w = some (dotv v w) := by
  unfold m_dot
  rw [mul_s (m := m) (n := n) inferInstance inferInstance h]
  show Option.bind (mulC _ _) _ = _
  rw [mul_s (m := m) (n := n) inferInstance inferInstance h]
  show Option.bind (mulC _ _) _ = _
  rw [mul_s (m := m) (n := n) inferInstance inferInstance h]
  rfl
theorem ldot_eq {v w : V3} {m n : Nat} [Szv v m] [Szv w n] (h : m + n < 100000000 := by decide) : m__law_dot v w = some (dotv v w) := by
  unfold m__law_dot
  rw [mul_s (m := m) (n := n) inferInstance inferInstance h]
  show Option.bind (mulC _ _) _ = _
  rw [mul_s (m := m) (n := n) inferInstance inferInstance h]
  show Option.bind (mulC _ _) _ = _
  rw [mul_s (m := m) (n := n) inferInstance inferInstance h]
  rfl
theorem length_up_ok {v : V3} {m : Nat} [hv : Szv v m] (h : m + m + 3 ≤ 13000 := by decide) : Tot (m_length_up v) fun r => 0 ≤ r ∧ dotv v v ≤ r * r ∧ (0 < r → (r - 1) * (r - 1) < dotv v v) := by
  unfold m_length_up
  have l := (inferInstance : Szl (dotv v v) (m + m + 3)).le
  refine t_eq (dot_eq (by omega)) (tot_bind (root_up_ok (dotv_self_nonneg v) (by omega)) fun r hr => tot_some hr)
theorem lroot_ok {n : Int} (h0 : 0 ≤ n) (hl : lg n ≤ 600) : Tot (m__law_root_up n) fun r => 0 ≤ r ∧ n ≤ r * r ∧ (0 < r → (r - 1) * (r - 1) < n) := by
  unfold m__law_root_up
  have hn : n < pw 601 := by
    have h1 := lt_lg n
    have h2 : 2 ^ (lg n + 1) ≤ 2 ^ 601 := Nat.pow_le_pow_right (by decide) (by omega)
    have e : pw 601 = ((2 ^ 601 : Nat) : Int) := by unfold pw; simp
    rw [e]
    omega
  refine tot_lt fun low hlow => tot_lt fun high hhigh => ?_
  have len : (rng 0 400).length = 400 := by rw [rng_len]; rfl
  refine tot_thenB (W := fun s => ∃ j : Nat, j ≤ 301 ∧ s = pw j ∧ n ≤ s * s) (B := fun s => ∃ j : Nat, j ≤ 301 ∧ s = pw j ∧ n ≤ s * s) ?_ fun high hhigh => ?_
  · refine tot_imp (tot_forFi (W := fun i s => s = pw i ∧ (i = 0 ∨ pw (i - 1) * pw (i - 1) < n)) (B := fun s => ∃ j : Nat, j ≤ 301 ∧ s = pw j ∧ n ≤ s * s) ⟨hhigh, .inl rfl⟩ ?_) fun o ho => ?_
    · intro i x s hx ⟨hs, hi⟩
      have i400 : i < 400 := by
        have := (List.getElem?_eq_some_iff.mp hx).1
        omega
      subst hs
      haveI : Szl (pw i) 400 := ⟨by rw [lg_pw]; omega⟩
      refine t_mul (tot_ite (fun c => tot_some (.inr ⟨_, rfl, i, ?_, rfl, of_decide_eq_true c⟩)) fun c => t_mul (tot_some (.inl ⟨_, rfl, ?_, .inr ?_⟩)))
      · rcases hi with rfl | hi
        · omega
        · rw [← pw_add] at hi
          have := pw_lt (Int.lt_trans hi hn)
          omega
      · rw [pw_succ, Int.mul_comm]
      · have c := of_decide_eq_false c
        show pw i * pw i < n
        omega
    · rcases ho with ⟨s', e, hs, h | h⟩ | h
      · rw [len] at h
        omega
      · rw [len, ← pw_add] at h
        have := pw_lt (Int.lt_trans h hn)
        omega
      · exact .inr h
  obtain ⟨j, hj, rfl, hh⟩ : ∃ j : Nat, j ≤ 301 ∧ high = pw j ∧ n ≤ high * high := by rcases hhigh with h | h <;> exact h
  have pj := pw_pos j
  by_cases hz : n = 0
  · subst hz
    refine tot_thenB (W := fun s => True) (B := fun s => True) ?_ fun s _ => tot_some ?_
    · refine tot_imp (tot_forFi (W := fun _ s => 0 ≤ s.1 ∧ 0 ≤ s.2 ∧ lg s.1 ≤ 400 ∧ lg s.2 ≤ 400) (B := fun s => True) ⟨by dsimp only; omega, by dsimp only; omega, by dsimp only; rw [lg_pw]; omega, by dsimp only; rw [hlow]; decide⟩ ?_) fun o ho => ?_
      · intro i x s hx ⟨a1, a2, a3, a4⟩
        refine tot_ite (fun _ => tot_some (.inr ⟨_, rfl, trivial⟩)) fun c => ?_
        haveI : Szl s.1 400 := ⟨a3⟩
        haveI : Szl s.2 400 := ⟨a4⟩
        have c := of_decide_eq_false c
        refine t_div (by decide) ?_
        have m1 : lg ((s.2 + s.1) / 2) ≤ 400 := Nat.le_trans (lg_mono (y := s.1) (by omega)) a3
        haveI : Szl ((s.2 + s.1) / 2) 400 := ⟨m1⟩
        refine t_mul (t_bind (P := fun q => 0 ≤ q.1 ∧ 0 ≤ q.2 ∧ lg q.1 ≤ 400 ∧ lg q.2 ≤ 400) (tot_ite (fun _ => tot_some ⟨by dsimp only; omega, a2, m1, a4⟩) fun _ => tot_some ⟨a1, by dsimp only; omega, a3, m1⟩) fun q hq => tot_some (.inl ⟨_, rfl, hq⟩))
      · rcases ho with ⟨s', e, _⟩ | ⟨s', e, _⟩
        · exact .inl ⟨s', e, trivial⟩
        · exact .inr ⟨s', e, trivial⟩
    · simp
  · have np : 0 < n := by omega
    refine tot_thenB (W := fun s => 0 ≤ s.1 ∧ n ≤ s.1 * s.1 ∧ (s.1 - 1) * (s.1 - 1) < n) (B := fun s => 0 ≤ s.1 ∧ n ≤ s.1 * s.1 ∧ (s.1 - 1) * (s.1 - 1) < n) ?_ fun s hs => ?_
    · have fin : ∀ h l : Int, 0 ≤ l → l < h → n ≤ h * h → l * l < n → h ≤ l + 1 → 0 ≤ h ∧ n ≤ h * h ∧ (h - 1) * (h - 1) < n := by
        intro h l l0 l1 h2 l2 h3
        have : h = l + 1 := by omega
        subst this
        refine ⟨by omega, h2, ?_⟩
        rw [Int.add_sub_cancel]
        exact l2
      refine tot_imp (tot_forFi (W := fun i s => 0 ≤ s.2 ∧ s.2 < s.1 ∧ n ≤ s.1 * s.1 ∧ s.2 * s.2 < n ∧ s.1 - s.2 ≤ pw (301 - i) ∧ s.1 ≤ pw 301) (B := fun s => 0 ≤ s.1 ∧ n ≤ s.1 * s.1 ∧ (s.1 - 1) * (s.1 - 1) < n) ?_ ?_) fun o ho => ?_
      · subst hlow
        have q := pw_le hj
        refine ⟨Int.le_refl _, pj, hh, by simpa using np, ?_, q⟩
        show pw j - 0 ≤ pw 301
        omega
      · intro i x s hx ⟨a1, a2, a3, a4, a5, a6⟩
        refine tot_ite (fun c => tot_some (.inr ⟨_, rfl, fin s.1 s.2 a1 a2 a3 a4 (of_decide_eq_true c)⟩)) fun c => ?_
        have c := of_decide_eq_false c
        have l3 : lg s.1 ≤ 301 := by
          rw [← lg_pw 301]
          refine lg_mono ?_
          have := pw_pos 301
          omega
        haveI : Szl s.1 301 := ⟨l3⟩
        have m1 : lg ((s.2 + s.1) / 2) ≤ 301 := Nat.le_trans (lg_mono (y := s.1) (by omega)) l3
        haveI : Szl ((s.2 + s.1) / 2) 301 := ⟨m1⟩
        have half : 301 - i = (301 - (i + 1)) + 1 := by
          by_cases hi : i < 301
          · omega
          · exfalso
            have : 301 - i = 0 := by omega
            rw [this, pw_zero] at a5
            omega
        rw [half, pw_succ] at a5
        refine t_div (by decide) (t_mul (t_bind (P := fun q => 0 ≤ q.2 ∧ q.2 < q.1 ∧ n ≤ q.1 * q.1 ∧ q.2 * q.2 < n ∧ q.1 - q.2 ≤ pw (301 - (i + 1)) ∧ q.1 ≤ pw 301) (tot_ite (fun d => tot_some ⟨a1, by dsimp only; omega, of_decide_eq_true d, a4, by dsimp only; omega, by dsimp only; omega⟩) fun d => tot_some ⟨by dsimp only; omega, by dsimp only; omega, a3, by have := of_decide_eq_false d; dsimp only; omega, by dsimp only; omega, a6⟩) fun q hq => tot_some (.inl ⟨_, rfl, hq⟩)))
      · rcases ho with ⟨s', e, a1, a2, a3, a4, a5, a6⟩ | h
        · rw [len, show 301 - 400 = 0 by decide, pw_zero] at a5
          exact .inl ⟨s', e, fin s'.1 s'.2 a1 a2 a3 a4 (by omega)⟩
        · exact .inr h
    · obtain ⟨b1, b2, b3⟩ : 0 ≤ s.1 ∧ n ≤ s.1 * s.1 ∧ (s.1 - 1) * (s.1 - 1) < n := by rcases hs with h | h <;> exact h
      refine tot_some ?_
      rw [if_neg (by simpa using hz)]
      exact ⟨b1, b2, fun _ => b3⟩
def Near (v : V3) (B : Nat) : Prop := v.1.natAbs ≤ B ∧ v.2.1.natAbs ≤ B ∧ v.2.2.natAbs ≤ B
theorem within_ok {v : V3} {B : Nat} {m : Int} (h : Near v B) (hm : (B : Int) ≤ m) : m_is_within v m = some true := by
  obtain ⟨a, b, c⟩ := h
  unfold m_is_within
  rw [decide_eq_true]
  omega
structure JOk (j : Joint) : Prop where
  axis : 0 ≤ j.axis ∧ j.axis < 3
  off : Near j.offset 10000000
  least : j.least.natAbs ≤ 10000000
  most : j.most.natAbs ≤ 10000000
  range : j.least ≤ j.most
  turn : j.turns = true → j.least.natAbs ≤ 8000000 ∧ j.most.natAbs ≤ 8000000
  box : 0 ≤ j.box ∧ j.box ≤ 100000
  err : 0 ≤ j.error ∧ j.error ≤ 100000
  speed : 1 ≤ j.speed ∧ j.speed ≤ 1000000000
  accel : 1 ≤ j.accel ∧ j.accel ≤ j.brake
  brake : j.brake ≤ 10000000000
theorem joint_init_ok {j : Joint} (h : JOk j) : m_Joint_init j.turns j.axis j.offset j.least j.most j.box j.error j.speed j.accel j.brake = some j := by
  obtain ⟨t, ax, off, le, mo, bx, er, sp, ac, br⟩ := j
  obtain ⟨h1, h2, h3, h4, h5, h6, h7, h8, h9, h10, h11⟩ := h
  dsimp only at h1 h2 h3 h4 h5 h6 h7 h8 h9 h10 h11
  refine eq_of ?_
  unfold m_Joint_init
  refine t_lt (t_no ?_ (t_eq (within_ok h2 (by decide)) (t_no rfl (t_no ?_ (t_no ?_ (t_no ?_ (t_no ?_ (t_no ?_ (t_no ?_ (tot_some rfl)))))))))) <;> simp only [Bool.not_eq_false', Bool.and_eq_true, decide_eq_true_eq]
  · simp only [List.mem_cons, List.not_mem_nil, or_false]
    omega
  · cases t with
    | true =>
      have := h6 rfl
      rw [if_pos rfl]
      omega
    | false =>
      rw [if_neg (by decide)]
      omega
  · exact h7
  · exact h8
  · exact h9
  · omega
  · omega
theorem JOk.szs {j : Joint} (h : JOk j) : Szv j.offset 23 ∧ Szl j.least 23 ∧ Szl j.most 23 ∧ Szl j.box 16 ∧ Szl j.error 16 := by
  obtain ⟨h1, h2, h3, h4, h5, h6, h7, h8, h9, h10, h11⟩ := h
  have l1 : Nat.log2 10000000 = 23 := by decide
  have l2 : Nat.log2 100000 = 16 := by decide
  refine ⟨l1 ▸ szv_of h2, l1 ▸ szl_abs_of h3, l1 ▸ szl_abs_of h4, l2 ▸ szl_abs_of ?_, l2 ▸ szl_abs_of ?_⟩
  · omega
  · omega
theorem arm_init0_ok {js : List Joint} (h : 1 ≤ js.length ∧ js.length ≤ 6) : m_Arm_init js [] [] = some ⟨js, [], []⟩ := by
  refine eq_of ?_
  unfold m_Arm_init
  refine t_no ?_ (t_no rfl (t_eq (x := ()) rfl (t_eq (x := ()) rfl (t_eq (x := []) rfl (tot_some rfl)))))
  simp only [Bool.not_eq_false', Bool.and_eq_true, decide_eq_true_eq]
  omega
theorem arm_init_ok {js : List Joint} {cs : List Capsule} {bs : List (Int × Int)} (h : 1 ≤ js.length ∧ js.length ≤ 6) (hc : cs.length ≤ 8) (hk : ∀ c ∈ cs, 0 ≤ c.link ∧ c.link ≤ js.length) (hb : ∀ p ∈ bs, 0 ≤ p.1 ∧ p.1 < p.2 ∧ p.2 < cs.length) (hbl : bs.length ≤ 1000) : m_Arm_init js cs bs = some ⟨js, cs, bs⟩ := by
  refine eq_of ?_
  unfold m_Arm_init
  refine t_no ?_ (t_no ?_ (t_bind (P := fun _ => True) (tot_forL (W := fun _ => True) trivial fun c s hm _ => t_no ?_ (tot_some trivial)) fun _ _ => t_bind (P := fun _ => True) (tot_forL (W := fun _ => True) trivial fun c s hm _ => t_no ?_ (tot_some trivial)) fun _ _ => ?_)) <;> (try simp only [Bool.not_eq_false', Bool.and_eq_true, decide_eq_true_eq])
  · omega
  · rw [decide_eq_false]
    omega
  · exact hk c hm
  · exact hb c hm
  · refine t_eq (x := bs) ?_ (tot_some rfl)
    unfold mapP
    rw [if_pos (by omega), List.map_id']
theorem body_init_ok {a b : V3} {r : Int} (ha : Near a 10000000) (hb : Near b 10000000) (hr : 0 ≤ r ∧ r ≤ 1000000) : m_Body_init a b r = some ⟨a, b, r⟩ := by
  refine eq_of ?_
  unfold m_Body_init
  refine t_eq (within_ok ha (by decide)) (t_eq (x := false) ?_ (t_no rfl (t_no ?_ (tot_some rfl))))
  · rw [if_neg (by decide), within_ok hb (by decide)]
    rfl
  · simp only [Bool.not_eq_false', Bool.and_eq_true, decide_eq_true_eq]
    exact hr
/-- the length of a vector, rounded up -/
def lu (v : V3) : Int := (m_length_up v).getD 0
theorem lu_ok {v : V3} {m : Nat} [hv : Szv v m] (h : m + m + 3 ≤ 13000 := by decide) : m_length_up v = some (lu v) ∧ 0 ≤ lu v ∧ dotv v v ≤ lu v * lu v ∧ (0 < lu v → (lu v - 1) * (lu v - 1) < dotv v v) := by
  obtain ⟨r, e, h⟩ := length_up_ok (v := v) (m := m) h
  have e2 : lu v = r := by unfold lu; rw [e]; rfl
  rw [e2]
  exact ⟨e, h⟩
theorem lu_eq {v : V3} {m : Nat} [hv : Szv v m] (h : m + m + 3 ≤ 13000 := by decide) : m_length_up v = some (lu v) := (lu_ok (m := m) h).1
theorem lu_size {v : V3} {m : Nat} [hv : Szv v m] (h : m + m + 3 ≤ 13000 := by decide) : Szl (lu v) (m + m + 4) := ⟨by
  have l := (inferInstance : Szl (dotv v v) (m + m + 3)).le
  exact root_lg (dotv_self_nonneg v) (lu_ok (m := m) h).2 l⟩
theorem lroot_lu {v : V3} {m : Nat} [hv : Szv v m] (h : m + m + 3 ≤ 600 := by decide) : m__law_root_up (dotv v v) = some (lu v) := by
  have l := (inferInstance : Szl (dotv v v) (m + m + 3)).le
  obtain ⟨r, e, q⟩ := lroot_ok (dotv_self_nonneg v) (show lg (dotv v v) ≤ 600 by omega)
  rw [e, root_one q (lu_ok (m := m) (by omega)).2]
def ustep (j : Joint) (h : Int) (s : Int × Int) : Int × Int :=
  let a : Int × Int := if j.turns = true then (s.1 + -((-(2 * s.2 * (h + j.error))) / 1000000), s.2) else (s.1 + (h + j.error), s.2 + max (j.least.natAbs : Int) (j.most.natAbs : Int) + j.error)
  (a.1 + 2 * j.box, a.2 + lu j.offset + 2 * j.box)
def ustepO (j : Option Joint) (h : Option Int) (s : Int × Int) : Int × Int := match j, h with
  | some j, some h => ustep j h s
  | _, _ => s
/-- what is not known of a body of a link, and its lever, behind i joints -/
def ust (js : List Joint) (hs : List Int) (link : Nat) (a b : V3) : Nat → Int × Int
  | 0 => (2, max (lu a) (lu b))
  | i + 1 => ustepO js[link - 1 - i]? hs[link - 1 - i]? (ust js hs link a b i)
theorem ust_size {js : List Joint} {hs : List Int} {link : Nat} {a b : V3} (hj : ∀ j ∈ js, JOk j) [Szv a 30] [Szv b 30] : ∀ i, Szl (ust js hs link a b i).2 (100 + 8 * i)
  | 0 => by
    haveI := lu_size (v := a) (m := 30)
    haveI := lu_size (v := b) (m := 30)
    exact szl_le (show Szl (max (lu a) (lu b)) _ from inferInstance) (by decide)
  | i + 1 => by
    haveI := ust_size (js := js) (hs := hs) (link := link) (a := a) (b := b) hj i
    show Szl (ustepO js[link - 1 - i]? hs[link - 1 - i]? (ust js hs link a b i)).2 (100 + 8 * (i + 1))
    generalize ust js hs link a b i = s at *
    cases q : js[link - 1 - i]? with
    | none => exact szl_le (show Szl s.2 (100 + 8 * i) from inferInstance) (by omega)
    | some j =>
      cases hs[link - 1 - i]? with
      | none => exact szl_le (show Szl s.2 (100 + 8 * i) from inferInstance) (by omega)
      | some h =>
        obtain ⟨z1, z2, z3, z4, z5⟩ := (hj j (List.mem_of_getElem? q)).szs
        haveI := z1; haveI := z2; haveI := z3; haveI := z4; haveI := z5
        haveI := lu_size (v := j.offset) (m := 23)
        unfold ustepO ustep
        dsimp only
        haveI : Szl (2 * j.box) 19 := szl_le inferInstance (by decide)
        split
        · exact szl_le (show Szl (s.2 + lu j.offset + 2 * j.box) _ from inferInstance) (by omega)
        · exact szl_le (show Szl (s.2 + max (j.least.natAbs : Int) (j.most.natAbs : Int) + j.error + lu j.offset + 2 * j.box) _ from inferInstance) (by omega)
theorem ust_size1 {js : List Joint} {hs : List Int} {link : Nat} {a b : V3} (hj : ∀ j ∈ js, JOk j) (hz : ∀ h ∈ hs, Szl h 60) [Szv a 30] [Szv b 30] : ∀ i, Szl (ust js hs link a b i).1 (300 + 20 * i)
  | 0 => szl_le (szl_abs_of (B := 2) (by show (2 : Int).natAbs ≤ 2; decide)) (by decide)
  | i + 1 => by
    haveI := ust_size1 (js := js) (hs := hs) (link := link) (a := a) (b := b) hj hz i
    haveI := ust_size (js := js) (hs := hs) (link := link) (a := a) (b := b) hj i
    show Szl (ustepO js[link - 1 - i]? hs[link - 1 - i]? (ust js hs link a b i)).1 (300 + 20 * (i + 1))
    generalize ust js hs link a b i = s at *
    cases q : js[link - 1 - i]? with
    | none => exact szl_le (show Szl s.1 (300 + 20 * i) from inferInstance) (by omega)
    | some j =>
      cases q2 : hs[link - 1 - i]? with
      | none => exact szl_le (show Szl s.1 (300 + 20 * i) from inferInstance) (by omega)
      | some h =>
        obtain ⟨z1, z2, z3, z4, z5⟩ := (hj j (List.mem_of_getElem? q)).szs
        haveI := z1; haveI := z2; haveI := z3; haveI := z4; haveI := z5
        haveI := hz h (List.mem_of_getElem? q2)
        unfold ustepO ustep
        dsimp only
        haveI : Szl (2 : Int) 1 := ⟨by decide⟩
        haveI : Szl (2 * j.box) 19 := szl_le inferInstance (by decide)
        generalize 2 * j.box = bx at *
        have r2 : Szl (2 * s.2) (102 + 8 * i) := by
          have := (inferInstance : Szl (2 * s.2) (1 + (100 + 8 * i) + 1))
          exact szl_le this (by omega)
        show Szl ((if j.turns = true then (s.1 + upq (2 * s.2 * (h + j.error)) 1000000, s.2) else (s.1 + (h + j.error), s.2 + max (j.least.natAbs : Int) (j.most.natAbs : Int) + j.error) : Int × Int).1 + bx) _
        generalize 2 * s.2 = s2 at *
        split
        · exact szl_le (show Szl (s.1 + upq (s2 * (h + j.error)) 1000000 + bx) _ from inferInstance) (by omega)
        · exact szl_le (show Szl (s.1 + (h + j.error) + bx) _ from inferInstance) (by omega)
theorem unknown_eq {arm : Arm} {hs : List Int} {link : Nat} {b : Body} (hl : link ≤ arm.joints.length) (hn : arm.joints.length ≤ 1000) (hh : hs.length = arm.joints.length) (hj : ∀ j ∈ arm.joints, JOk j) (hz : ∀ h ∈ hs, Szl h 60) [Szv b.first 30] [Szv b.last 30] :
    m_unknown arm hs (link : Int) b = some (ust arm.joints hs link b.first b.last link).1 := by
  refine eq_of ?_
  unfold m_unknown
  refine t_lt (t_eq (lu_eq (m := 30)) (t_eq (lu_eq (m := 30)) (t_lt (tot_rngD (by omega) ?_))))
  have hlen : (rngD ((link : Int) - 1) (-1)).length = link := by rw [rngD_len]; omega
  refine tot_forLe (F := ust arm.joints hs link b.first b.last) rfl (fun i k hk => ?_) (by rw [hlen]; exact tot_some rfl)
  obtain ⟨ek, hk2⟩ := rngD_get hk
  have hi : link - 1 - i < arm.joints.length := by omega
  have e1 : arm.joints[link - 1 - i]? = some arm.joints[link - 1 - i] := List.getElem?_eq_getElem hi
  have e2 : hs[link - 1 - i]? = some (hs[link - 1 - i]'(by omega)) := List.getElem?_eq_getElem (by omega)
  have jm := List.mem_of_getElem? e1
  have hm := List.mem_of_getElem? e2
  obtain ⟨z1, z2, z3, z4, z5⟩ := (hj _ jm).szs
  haveI := hz _ hm
  haveI : Szl (ust arm.joints hs link b.first b.last i).2 10000 := szl_le (ust_size (js := arm.joints) (hs := hs) (link := link) (a := b.first) (b := b.last) hj i) (by omega)
  show _ = some (ustepO arm.joints[link - 1 - i]? hs[link - 1 - i]? (ust arm.joints hs link b.first b.last i))
  rw [e1, e2]
  generalize arm.joints[link - 1 - i] = j at *
  generalize hs[link - 1 - i]'(by omega) = h at *
  generalize ust arm.joints hs link b.first b.last i = s at *
  haveI := z1; haveI := z2; haveI := z3; haveI := z4; haveI := z5
  refine eq_of ?_
  refine t_eq (at_get (n := link - 1 - i) (by omega) e1) (t_eq (at_get (n := link - 1 - i) (by omega) e2) (t_lt ?_))
  show Tot _ fun x => x = ustep j h s
  unfold ustep
  dsimp only
  cases j.turns with
  | true =>
    refine t_bind (P := fun x => x = (s.1 + -((-(2 * s.2 * (h + j.error))) / 1000000), s.2)) (t_yes rfl ?_) fun x hx => ?_
    · exact t_mul (t_mul (t_eq (divide_up_eq (by decide)) (t_lt (tot_some rfl))))
    · subst hx
      exact t_mul (t_lt (t_eq (lu_eq (m := 23)) (t_mul (t_lt (tot_some rfl)))))
  | false =>
    refine t_bind (P := fun x => x = (s.1 + (h + j.error), s.2 + max (j.least.natAbs : Int) (j.most.natAbs : Int) + j.error)) (t_no rfl ?_) fun x hx => ?_
    · exact t_lt (t_lt (tot_some rfl))
    · subst hx
      exact t_mul (t_lt (t_eq (lu_eq (m := 23)) (t_mul (t_lt (tot_some rfl)))))
abbrev V4 := Int × Int × Int × Int
def l4 (p : V4) : List Int := [p.1, p.2.1, p.2.2.1, p.2.2.2]
def sc4 (c : Int) (p : V4) : V4 := (c * p.1, c * p.2.1, c * p.2.2.1, c * p.2.2.2)
class Sz4 (p : V4) (n : outParam Nat) : Prop where
  x : lg p.1 ≤ n
  y : lg p.2.1 ≤ n
  z : lg p.2.2.1 ≤ n
  w : lg p.2.2.2 ≤ n
instance sz4_x {p : V4} {n : Nat} [h : Sz4 p n] : Szl p.1 n := ⟨h.x⟩
instance sz4_y {p : V4} {n : Nat} [h : Sz4 p n] : Szl p.2.1 n := ⟨h.y⟩
instance sz4_z {p : V4} {n : Nat} [h : Sz4 p n] : Szl p.2.2.1 n := ⟨h.z⟩
instance sz4_w {p : V4} {n : Nat} [h : Sz4 p n] : Szl p.2.2.2 n := ⟨h.w⟩
theorem sz4_le {p : V4} {m n : Nat} (h : Sz4 p m) (k : m ≤ n) : Sz4 p n := ⟨Nat.le_trans h.x k, Nat.le_trans h.y k, Nat.le_trans h.z k, Nat.le_trans h.w k⟩
def turnP (ax o u : Int) (p : V4) : V4 :=
  if ax = 0 then (p.1 * (u * u + o * o), p.2.1 * (u * u - o * o) - p.2.2.1 * (2 * o * u), p.2.1 * (2 * o * u) + p.2.2.1 * (u * u - o * o), p.2.2.2 * (u * u + o * o))
  else if ax = 1 then (p.2.2.1 * (2 * o * u) + p.1 * (u * u - o * o), p.2.1 * (u * u + o * o), p.2.2.1 * (u * u - o * o) - p.1 * (2 * o * u), p.2.2.2 * (u * u + o * o))
  else (p.1 * (u * u - o * o) - p.2.1 * (2 * o * u), p.1 * (2 * o * u) + p.2.1 * (u * u - o * o), p.2.2.1 * (u * u + o * o), p.2.2.2 * (u * u + o * o))
def shiftP (ax o u : Int) (p : V4) : V4 :=
  if ax = 0 then (p.1 * u + o * p.2.2.2, p.2.1 * u, p.2.2.1 * u, p.2.2.2 * u)
  else if ax = 1 then (p.1 * u, p.2.1 * u + o * p.2.2.2, p.2.2.1 * u, p.2.2.2 * u)
  else (p.1 * u, p.2.1 * u, p.2.2.1 * u + o * p.2.2.2, p.2.2.2 * u)
def addP (p q : V4) : V4 := (p.1 * q.2.2.2 + q.1 * p.2.2.2, p.2.1 * q.2.2.2 + q.2.1 * p.2.2.2, p.2.2.1 * q.2.2.2 + q.2.2.1 * p.2.2.2, p.2.2.2 * q.2.2.2)
def gN (p : V4) : Nat := Nat.gcd (Nat.gcd p.1.natAbs p.2.1.natAbs) (Nat.gcd p.2.2.1.natAbs p.2.2.2.natAbs)
def redP (p : V4) : V4 := (p.1 / (gN p : Int), p.2.1 / (gN p : Int), p.2.2.1 / (gN p : Int), p.2.2.2 / (gN p : Int))
theorem turned_eq4 {p : V4} {ax o u : Int} (ha : 0 ≤ ax ∧ ax < 3) [Sz4 p 5000] [Szl o 100] [Szl u 100] : m_turned p ax (o, u) = some (l4 (turnP ax o u p)) := by
  refine eq_of ?_
  unfold m_turned
  refine t_mul (t_mul (t_lt (t_mul (t_mul (t_mul (t_mul (t_lt ?_)))))))
  rcases three ha.1 ha.2 with rfl | rfl | rfl
  · refine t_eq (x := 1) (by decide) (t_eq (x := 2) (by decide) (t_mul (t_lt (t_eq (x := p.1) rfl (t_mul (t_eq rfl (t_eq (x := p.2.1) rfl (t_mul (t_eq (x := p.2.2.1) rfl (t_mul (t_eq rfl ?_)))))))))))
    exact t_eq (x := p.2.1) rfl (t_mul (t_eq (x := p.2.2.1) rfl (t_mul (t_eq rfl (tot_some rfl)))))
  · refine t_eq (x := 2) (by decide) (t_eq (x := 0) (by decide) (t_mul (t_lt (t_eq (x := p.2.1) rfl (t_mul (t_eq rfl (t_eq (x := p.2.2.1) rfl (t_mul (t_eq (x := p.1) rfl (t_mul (t_eq rfl ?_)))))))))))
    exact t_eq (x := p.2.2.1) rfl (t_mul (t_eq (x := p.1) rfl (t_mul (t_eq rfl (tot_some rfl)))))
  · refine t_eq (x := 0) (by decide) (t_eq (x := 1) (by decide) (t_mul (t_lt (t_eq (x := p.2.2.1) rfl (t_mul (t_eq rfl (t_eq (x := p.1) rfl (t_mul (t_eq (x := p.2.1) rfl (t_mul (t_eq rfl ?_)))))))))))
    exact t_eq (x := p.1) rfl (t_mul (t_eq (x := p.2.1) rfl (t_mul (t_eq rfl (tot_some rfl)))))
theorem shifted_eq4 {p : V4} {ax o u : Int} (ha : 0 ≤ ax ∧ ax < 3) [Sz4 p 5000] [Szl o 100] [Szl u 100] : m_shifted p ax (o, u) = some (l4 (shiftP ax o u p)) := by
  refine eq_of ?_
  unfold m_shifted
  refine t_mul (t_mul (t_mul (t_mul (t_lt ?_))))
  rcases three ha.1 ha.2 with rfl | rfl | rfl
  · exact t_eq (x := p.1 * u) rfl (t_mul (t_eq rfl (tot_some rfl)))
  · exact t_eq (x := p.2.1 * u) rfl (t_mul (t_eq rfl (tot_some rfl)))
  · exact t_eq (x := p.2.2.1 * u) rfl (t_mul (t_eq rfl (tot_some rfl)))
theorem added_eq4 {p q : V4} [Sz4 p 6000] [Sz4 q 100] : m_added (l4 p) q = some (addP p q) := by
  refine eq_of ?_
  unfold m_added
  refine t_eq (x := p.1) rfl (t_mul (t_eq (x := p.2.2.2) rfl (t_mul (t_eq (x := p.2.1) rfl (t_mul (t_eq (x := p.2.2.2) rfl (t_mul ?_)))))))
  refine t_eq (x := p.2.2.1) rfl (t_mul (t_eq (x := p.2.2.2) rfl (t_mul (t_lt (t_eq (x := p.2.2.2) rfl (t_mul (tot_some rfl)))))))
theorem gN_dvd (p : V4) : (gN p : Int) ∣ p.1 ∧ (gN p : Int) ∣ p.2.1 ∧ (gN p : Int) ∣ p.2.2.1 ∧ (gN p : Int) ∣ p.2.2.2 := by
  have h1 : gN p ∣ Nat.gcd p.1.natAbs p.2.1.natAbs := Nat.gcd_dvd_left _ _
  have h2 : gN p ∣ Nat.gcd p.2.2.1.natAbs p.2.2.2.natAbs := Nat.gcd_dvd_right _ _
  exact ⟨Int.ofNat_dvd_left.mpr (Nat.dvd_trans h1 (Nat.gcd_dvd_left _ _)), Int.ofNat_dvd_left.mpr (Nat.dvd_trans h1 (Nat.gcd_dvd_right _ _)), Int.ofNat_dvd_left.mpr (Nat.dvd_trans h2 (Nat.gcd_dvd_left _ _)), Int.ofNat_dvd_left.mpr (Nat.dvd_trans h2 (Nat.gcd_dvd_right _ _))⟩
theorem gN_pos {p : V4} (h : 0 < p.2.2.2) : 0 < gN p := by
  refine Nat.pos_of_ne_zero fun e => ?_
  obtain ⟨_, _, _, d⟩ := gN_dvd p
  rw [e] at d
  have := Int.zero_dvd.mp d
  omega
theorem redP_sc (p : V4) : p = sc4 (gN p) (redP p) := by
  obtain ⟨a, b, c, d⟩ := gN_dvd p
  unfold sc4 redP
  rw [Int.mul_ediv_cancel' a, Int.mul_ediv_cancel' b, Int.mul_ediv_cancel' c, Int.mul_ediv_cancel' d]
theorem redP_pos {p : V4} (h : 0 < p.2.2.2) : 0 < (redP p).2.2.2 := by
  have e : p.2.2.2 = (gN p : Int) * (redP p).2.2.2 := congrArg (fun q : V4 => q.2.2.2) (redP_sc p)
  have g := gN_pos h
  rcases Int.lt_or_le 0 (redP p).2.2.2 with q | q
  · exact q
  · have := Int.mul_nonpos_of_nonneg_of_nonpos (show (0 : Int) ≤ gN p by omega) q
    omega
theorem gN_lg {p : V4} {n : Nat} (h : 0 < p.2.2.2) [k : Sz4 p n] : lg (gN p : Int) ≤ n := by
  refine Nat.le_trans (lg_mono ?_) k.w
  obtain ⟨_, _, _, d⟩ := gN_dvd p
  have := Int.le_of_dvd h d
  omega
theorem reduced_eq4 {p : V4} {n : Nat} (h : 0 < p.2.2.2) [k : Sz4 p n] (hn : n < 9000) : m_reduced p = some (redP p) := by
  refine eq_of ?_
  unfold m_reduced
  have e : (((Nat.gcd ((Nat.gcd p.1.natAbs p.2.1.natAbs : Nat) : Int).natAbs ((Nat.gcd p.2.2.1.natAbs p.2.2.2.natAbs : Nat) : Int).natAbs : Nat) : Int)) = (gN p : Int) := by
    unfold gN
    rw [Int.natAbs_natCast, Int.natAbs_natCast]
  rw [e]
  have g := gN_pos h
  have l := gN_lg (p := p) h
  exact t_lt (tot_div (by omega) (by omega) (tot_div (by omega) (by omega) (tot_div (by omega) (by omega) (tot_div (by omega) (by omega) (tot_some rfl)))))
theorem redP_size {p : V4} {n : Nat} (h : 0 < p.2.2.2) (k : Sz4 p n) : Sz4 (redP p) n := by
  have g := gN_pos h
  exact ⟨Nat.le_trans (lg_div (by omega)) k.x, Nat.le_trans (lg_div (by omega)) k.y, Nat.le_trans (lg_div (by omega)) k.z, Nat.le_trans (lg_div (by omega)) k.w⟩
theorem turnP_sc (ax o u c : Int) (p : V4) : turnP ax o u (sc4 c p) = sc4 c (turnP ax o u p) := by
  unfold turnP sc4
  dsimp only
  split
  · ext <;> dsimp only <;> grind
  · split <;> ext <;> dsimp only <;> grind
theorem shiftP_sc (ax o u c : Int) (p : V4) : shiftP ax o u (sc4 c p) = sc4 c (shiftP ax o u p) := by
  unfold shiftP sc4
  dsimp only
  split
  · ext <;> dsimp only <;> grind
  · split <;> ext <;> dsimp only <;> grind
theorem addP_sc (c : Int) (p q : V4) : addP (sc4 c p) q = sc4 c (addP p q) := by
  unfold addP sc4
  dsimp only
  ext <;> dsimp only <;> grind
theorem sc4_sc (a b : Int) (p : V4) : sc4 a (sc4 b p) = sc4 (a * b) p := by
  unfold sc4
  dsimp only
  ext <;> dsimp only <;> grind
theorem sc4_one (p : V4) : sc4 1 p = p := by
  unfold sc4
  ext <;> dsimp only <;> omega
/-- what a value of a joint is: an exact number -/
structure VOk (v : Int × Int) : Prop where
  pos : 0 < v.2
  o : Szl v.1 40
  u : Szl v.2 30
structure OOk (q : V4) : Prop where
  pos : 0 < q.2.2.2
  s : Sz4 q 40
def stepP (j : Joint) (v : Int × Int) (q p : V4) : V4 := addP (if j.turns = true then turnP j.axis v.1 (v.2 * 1000000) p else shiftP j.axis v.1 v.2 p) q
theorem stepP_sc (j : Joint) (v : Int × Int) (q : V4) (c : Int) (p : V4) : stepP j v q (sc4 c p) = sc4 c (stepP j v q p) := by
  unfold stepP
  rw [turnP_sc, shiftP_sc]
  split <;> rw [addP_sc]
theorem sq_pos {u : Int} (h : 0 < u) (o : Int) : 0 < u * u + o * o := by
  have := Int.mul_pos h h
  have : 0 ≤ o * o := sq_nn o
  omega
theorem movedP_pos {j : Joint} {v : Int × Int} {p : V4} (hv : VOk v) (h : 0 < p.2.2.2) : 0 < (if j.turns = true then turnP j.axis v.1 (v.2 * 1000000) p else shiftP j.axis v.1 v.2 p).2.2.2 := by
  have hu := hv.pos
  have hw : 0 < p.2.2.2 * (v.2 * 1000000 * (v.2 * 1000000) + v.1 * v.1) := Int.mul_pos h (sq_pos (by omega) _)
  have hs : 0 < p.2.2.2 * v.2 := Int.mul_pos h hu
  split
  · unfold turnP
    split
    · exact hw
    · split <;> exact hw
  · unfold shiftP
    split
    · exact hs
    · split <;> exact hs
theorem stepP_pos {j : Joint} {v : Int × Int} {q p : V4} (hv : VOk v) (hq : OOk q) (h : 0 < p.2.2.2) : 0 < (stepP j v q p).2.2.2 := by
  unfold stepP addP
  exact Int.mul_pos (movedP_pos hv h) hq.pos
theorem szm_ {x t : Int} {n k : Nat} (hx : lg x ≤ n) (ht : lg t ≤ k) : lg (x * t) ≤ n + k + 2 := by
  have := lg_mul x t
  omega
theorem sza_ {x y a b : Int} {n k : Nat} (hx : lg x ≤ n) (hy : lg y ≤ n) (ha : lg a ≤ k) (hb : lg b ≤ k) : lg (x * a + y * b) ≤ n + k + 2 := by
  have := lg_mul x a
  have := lg_mul y b
  have := lg_add (x * a) (y * b)
  omega
theorem szs_ {x y a b : Int} {n k : Nat} (hx : lg x ≤ n) (hy : lg y ≤ n) (ha : lg a ≤ k) (hb : lg b ≤ k) : lg (x * a - y * b) ≤ n + k + 2 := by
  have := lg_mul x a
  have := lg_mul y b
  have := lg_sub (x * a) (y * b)
  omega
theorem szb_ {x y a b : Int} {n k : Nat} (hx : lg x ≤ n) (hy : lg y ≤ n) (ha : lg a ≤ k) (hb : lg b ≤ k) : lg (x * a + b * y) ≤ n + k + 2 := by
  rw [Int.mul_comm b y]
  exact sza_ hx hy ha hb
theorem movedP_size {j : Joint} {v : Int × Int} {p : V4} {n : Nat} (hv : VOk v) (k : Sz4 p n) : Sz4 (if j.turns = true then turnP j.axis v.1 (v.2 * 1000000) p else shiftP j.axis v.1 v.2 p) (n + 106) := by
  have i1 := hv.o
  have i2 := hv.u
  haveI i3 : Szl (v.2 * 1000000) 50 := szl_le inferInstance (by decide)
  have a : lg (v.2 * 1000000 * (v.2 * 1000000) + v.1 * v.1) ≤ 104 := (szl_le (inferInstance : Szl (v.2 * 1000000 * (v.2 * 1000000) + v.1 * v.1) _) (by decide) : Szl _ 104).le
  have b : lg (v.2 * 1000000 * (v.2 * 1000000) - v.1 * v.1) ≤ 104 := (szl_le (inferInstance : Szl (v.2 * 1000000 * (v.2 * 1000000) - v.1 * v.1) _) (by decide) : Szl _ 104).le
  have c : lg (2 * v.1 * (v.2 * 1000000)) ≤ 104 := (szl_le (inferInstance : Szl (2 * v.1 * (v.2 * 1000000)) _) (by decide) : Szl _ 104).le
  have d : lg v.1 ≤ 104 := Nat.le_trans i1.le (by decide)
  have e : lg v.2 ≤ 104 := Nat.le_trans i2.le (by decide)
  split
  · unfold turnP
    split
    · exact ⟨szm_ k.x a, szs_ k.y k.z b c, sza_ k.y k.z c b, szm_ k.w a⟩
    · split
      · exact ⟨sza_ k.z k.x c b, szm_ k.y a, szs_ k.z k.x b c, szm_ k.w a⟩
      · exact ⟨szs_ k.x k.y b c, sza_ k.x k.y c b, szm_ k.z a, szm_ k.w a⟩
  · unfold shiftP
    split
    · exact ⟨szb_ k.x k.w e d, szm_ k.y e, szm_ k.z e, szm_ k.w e⟩
    · split
      · exact ⟨szm_ k.x e, szb_ k.y k.w e d, szm_ k.z e, szm_ k.w e⟩
      · exact ⟨szm_ k.x e, szm_ k.y e, szb_ k.z k.w e d, szm_ k.w e⟩
theorem stepP_size {j : Joint} {v : Int × Int} {q p : V4} {n : Nat} (hv : VOk v) (hq : OOk q) (k : Sz4 p n) : Sz4 (stepP j v q p) (n + 148) := by
  have m := movedP_size (j := j) hv k
  have o := hq.s
  unfold stepP addP
  exact sz4_le (m := n + 106 + 40 + 2) ⟨szb_ (n := n + 106) (k := 40) m.x m.w o.w o.x, szb_ (n := n + 106) (k := 40) m.y m.w o.w o.y, szb_ (n := n + 106) (k := 40) m.z m.w o.w o.z, szm_ (n := n + 106) (k := 40) m.w o.w⟩ (by omega)
def onO {α β γ δ : Type} (f : α → β → γ → δ → δ) (a : Option α) (b : Option β) (c : Option γ) (d : δ) : δ := match a, b, c with
  | some a, some b, some c => f a b c d
  | _, _, _ => d
/-- the place of a point of a link behind i joints: in lowest terms, and as it comes -/
def placeP (js : List Joint) (vs : List (Int × Int)) (os : List V4) (link : Nat) (pt : V3) : Nat → V4
  | 0 => (pt.1, pt.2.1, pt.2.2, 1)
  | i + 1 => onO (fun j v q p => redP (stepP j v q p)) js[link - 1 - i]? vs[link - 1 - i]? os[link - 1 - i]? (placeP js vs os link pt i)
def placeL (js : List Joint) (vs : List (Int × Int)) (os : List V4) (link : Nat) (pt : V3) : Nat → V4
  | 0 => (pt.1, pt.2.1, pt.2.2, 1)
  | i + 1 => onO stepP js[link - 1 - i]? vs[link - 1 - i]? os[link - 1 - i]? (placeL js vs os link pt i)
section
variable {js : List Joint} {vs : List (Int × Int)} {os : List V4} {link : Nat} {pt : V3}
theorem onO_ind {α β γ δ : Type} {f : α → β → γ → δ → δ} {a : Option α} {b : Option β} {c : Option γ} {d : δ} {R : δ → Prop} (h : R d) (k : ∀ x y z, a = some x → b = some y → c = some z → R (f x y z d)) : R (onO f a b c d) := by
  unfold onO
  split
  · exact k _ _ _ rfl rfl rfl
  · exact h
theorem placeP_ok (hv : ∀ v ∈ vs, VOk v) (ho : ∀ q ∈ os, OOk q) [Szv pt 30] : ∀ i, 0 < (placeP js vs os link pt i).2.2.2 ∧ Sz4 (placeP js vs os link pt i) (30 + 148 * i)
  | 0 => by
    have h1 : Szl pt.1 30 := inferInstance
    have h2 : Szl pt.2.1 30 := inferInstance
    have h3 : Szl pt.2.2 30 := inferInstance
    exact ⟨by show (0 : Int) < 1; decide, h1.le, h2.le, h3.le, by show lg 1 ≤ _; decide⟩
  | i + 1 => by
    have ih := placeP_ok hv ho i
    show 0 < (onO _ _ _ _ _ : V4).2.2.2 ∧ Sz4 (onO _ _ _ _ _) (30 + 148 * (i + 1))
    refine onO_ind (R := fun p : V4 => 0 < p.2.2.2 ∧ Sz4 p (30 + 148 * (i + 1))) ⟨ih.1, sz4_le ih.2 (by omega)⟩ fun j v q _ e1 e2 => ?_
    have a := hv v (List.mem_of_getElem? e1)
    have b := ho q (List.mem_of_getElem? e2)
    have c := stepP_pos (j := j) a b ih.1
    exact ⟨redP_pos c, redP_size c (sz4_le (stepP_size a b ih.2) (by omega))⟩
theorem placeL_ok (hv : ∀ v ∈ vs, VOk v) (ho : ∀ q ∈ os, OOk q) [Szv pt 30] : ∀ i, 0 < (placeL js vs os link pt i).2.2.2 ∧ Sz4 (placeL js vs os link pt i) (30 + 148 * i)
  | 0 => by
    have h1 : Szl pt.1 30 := inferInstance
    have h2 : Szl pt.2.1 30 := inferInstance
    have h3 : Szl pt.2.2 30 := inferInstance
    exact ⟨by show (0 : Int) < 1; decide, h1.le, h2.le, h3.le, by show lg 1 ≤ _; decide⟩
  | i + 1 => by
    have ih := placeL_ok hv ho i
    show 0 < (onO _ _ _ _ _ : V4).2.2.2 ∧ Sz4 (onO _ _ _ _ _) (30 + 148 * (i + 1))
    refine onO_ind (R := fun p : V4 => 0 < p.2.2.2 ∧ Sz4 p (30 + 148 * (i + 1))) ⟨ih.1, sz4_le ih.2 (by omega)⟩ fun j v q _ e1 e2 => ?_
    have a := hv v (List.mem_of_getElem? e1)
    have b := ho q (List.mem_of_getElem? e2)
    exact ⟨stepP_pos (j := j) a b ih.1, sz4_le (stepP_size a b ih.2) (by omega)⟩
/-- both are the same place -/
theorem placeL_sc (hv : ∀ v ∈ vs, VOk v) (ho : ∀ q ∈ os, OOk q) [Szv pt 30] : ∀ i, ∃ c : Int, 0 < c ∧ placeL js vs os link pt i = sc4 c (placeP js vs os link pt i)
  | 0 => ⟨1, by decide, (sc4_one _).symm⟩
  | i + 1 => by
    obtain ⟨c, c0, ih⟩ := placeL_sc hv ho i
    have hp := (placeP_ok (js := js) (link := link) (pt := pt) hv ho i).1
    show ∃ c : Int, 0 < c ∧ onO stepP js[link - 1 - i]? vs[link - 1 - i]? os[link - 1 - i]? (placeL js vs os link pt i) = sc4 c (onO (fun j v q p => redP (stepP j v q p)) js[link - 1 - i]? vs[link - 1 - i]? os[link - 1 - i]? (placeP js vs os link pt i))
    rw [ih]
    generalize placeP js vs os link pt i = p at *
    cases e0 : js[link - 1 - i]? with
    | none => exact ⟨c, c0, rfl⟩
    | some j =>
      cases e1 : vs[link - 1 - i]? with
      | none => exact ⟨c, c0, rfl⟩
      | some v =>
        cases e2 : os[link - 1 - i]? with
        | none => exact ⟨c, c0, rfl⟩
        | some q =>
          have a := hv v (List.mem_of_getElem? e1)
          have b := ho q (List.mem_of_getElem? e2)
          have g := gN_pos (stepP_pos (j := j) a b hp)
          refine ⟨c * (gN (stepP j v q p) : Int), Int.mul_pos c0 (by omega), ?_⟩
          show stepP j v q (sc4 c p) = sc4 _ (redP (stepP j v q p))
          rw [stepP_sc, ← sc4_sc, ← redP_sc]
end
theorem true_place_eq {arm : Arm} {vs : List (Int × Int)} {os : List V4} {link : Nat} {pt : V3} (hl : link ≤ arm.joints.length) (hn : arm.joints.length ≤ 10) (h1 : vs.length = arm.joints.length) (h2 : os.length = arm.joints.length) (hj : ∀ j ∈ arm.joints, JOk j) (hv : ∀ v ∈ vs, VOk v) (ho : ∀ q ∈ os, OOk q) [Szv pt 30] :
    m_true_place arm vs os (link : Int) pt = some (placeP arm.joints vs os link pt link) := by
  refine eq_of ?_
  unfold m_true_place
  refine t_lt (tot_rngD (by omega) ?_)
  have hlen : (rngD ((link : Int) - 1) (-1)).length = link := by rw [rngD_len]; omega
  refine tot_forLe (F := placeP arm.joints vs os link pt) rfl (fun i k hk => ?_) (by rw [hlen]; exact tot_some rfl)
  obtain ⟨ek, hk2⟩ := rngD_get hk
  have e0 : arm.joints[link - 1 - i]? = some (arm.joints[link - 1 - i]'(by omega)) := List.getElem?_eq_getElem (by omega)
  have e1 : vs[link - 1 - i]? = some (vs[link - 1 - i]'(by omega)) := List.getElem?_eq_getElem (by omega)
  have e2 : os[link - 1 - i]? = some (os[link - 1 - i]'(by omega)) := List.getElem?_eq_getElem (by omega)
  have jm := hj _ (List.mem_of_getElem? e0)
  have vm := hv _ (List.mem_of_getElem? e1)
  have om := ho _ (List.mem_of_getElem? e2)
  obtain ⟨hp, hs⟩ := placeP_ok (js := arm.joints) (link := link) (pt := pt) hv ho i
  show _ = some (onO _ arm.joints[link - 1 - i]? vs[link - 1 - i]? os[link - 1 - i]? _)
  rw [e0, e1, e2]
  generalize arm.joints[link - 1 - i]'(by omega) = j at *
  generalize vs[link - 1 - i]'(by omega) = v at *
  generalize os[link - 1 - i]'(by omega) = q at *
  generalize placeP arm.joints vs os link pt i = p at *
  have hs1 := movedP_size (j := j) vm hs
  have hs2 := stepP_size (j := j) vm om hs
  have hp2 := stepP_pos (j := j) vm om hp
  haveI : Sz4 p 5000 := sz4_le hs (by omega)
  have so := vm.o
  have su := vm.u
  haveI : Szl v.1 100 := szl_le so (by decide)
  haveI : Szl (v.2 * 1000000) 100 := szl_le inferInstance (by decide)
  refine eq_of ?_
  refine t_eq (at_get (n := link - 1 - i) (by omega) e0) (t_eq (at_get (n := link - 1 - i) (by omega) e1) ?_)
  refine t_bind (P := fun l => l = l4 (if j.turns = true then turnP j.axis v.1 (v.2 * 1000000) p else shiftP j.axis v.1 v.2 p)) ?_ fun l hl => ?_
  · cases hb : j.turns with
    | true => exact t_yes rfl (t_mul (t_eq (turned_eq4 jm.axis) (tot_some rfl)))
    | false =>
      haveI : Szl v.2 100 := szl_le su (by decide)
      exact t_no rfl (t_eq (shifted_eq4 jm.axis) (tot_some rfl))
  subst hl
  haveI := sz4_le hs1 (show _ ≤ 6000 by omega)
  haveI := sz4_le om.s (show 40 ≤ 100 by decide)
  refine t_eq (at_get (n := link - 1 - i) (by omega) e2) (t_eq added_eq4 ?_)
  haveI : Sz4 (stepP j v q p) 8000 := sz4_le hs2 (by omega)
  show Tot ((m_reduced (stepP j v q p)).bind _) _
  exact t_eq (reduced_eq4 (n := 8000) hp2 (by decide)) (tot_some rfl)
theorem lturned_eq4 {p : V4} {ax : Int} {v : Int × Int} (ha : 0 ≤ ax ∧ ax < 3) [Sz4 p 5000] [Szl v.1 100] [Szl v.2 60] : m__law_turned (l4 p) ax v = some (l4 (turnP ax v.1 (v.2 * 1000000) p)) := by
  refine eq_of ?_
  unfold m__law_turned
  haveI : Szl (v.2 * 1000000) 100 := szl_le inferInstance (by decide)
  refine t_lt (t_mul ?_)
  rcases three ha.1 ha.2 with rfl | rfl | rfl
  · refine t_eq (x := 1) (by decide) (t_eq (x := 2) (by decide) (t_mul (t_mul (t_lt (t_mul (t_mul (t_mul (t_mul (t_lt ?_)))))))))
    refine t_eq (x := p.1) rfl (t_mul (t_eq (x := p.2.1) rfl (t_mul (t_eq (x := p.2.2.1) rfl (t_mul (t_eq (x := p.2.2.2) rfl (t_mul (t_lt ?_))))))))
    refine t_eq (x := p.2.1) rfl (t_mul (t_eq (x := p.2.2.1) rfl (t_mul (t_eq rfl ?_))))
    exact t_eq (x := p.2.1) rfl (t_mul (t_eq (x := p.2.2.1) rfl (t_mul (t_eq rfl (tot_some rfl)))))
  · refine t_eq (x := 2) (by decide) (t_eq (x := 0) (by decide) (t_mul (t_mul (t_lt (t_mul (t_mul (t_mul (t_mul (t_lt ?_)))))))))
    refine t_eq (x := p.1) rfl (t_mul (t_eq (x := p.2.1) rfl (t_mul (t_eq (x := p.2.2.1) rfl (t_mul (t_eq (x := p.2.2.2) rfl (t_mul (t_lt ?_))))))))
    refine t_eq (x := p.2.2.1) rfl (t_mul (t_eq (x := p.1) rfl (t_mul (t_eq rfl ?_))))
    exact t_eq (x := p.2.2.1) rfl (t_mul (t_eq (x := p.1) rfl (t_mul (t_eq rfl (tot_some rfl)))))
  · refine t_eq (x := 0) (by decide) (t_eq (x := 1) (by decide) (t_mul (t_mul (t_lt (t_mul (t_mul (t_mul (t_mul (t_lt ?_)))))))))
    refine t_eq (x := p.1) rfl (t_mul (t_eq (x := p.2.1) rfl (t_mul (t_eq (x := p.2.2.1) rfl (t_mul (t_eq (x := p.2.2.2) rfl (t_mul (t_lt ?_))))))))
    refine t_eq (x := p.1) rfl (t_mul (t_eq (x := p.2.1) rfl (t_mul (t_eq rfl ?_))))
    exact t_eq (x := p.1) rfl (t_mul (t_eq (x := p.2.1) rfl (t_mul (t_eq rfl (tot_some rfl)))))
theorem law_true_eq {js : List Joint} {vs : List (Int × Int)} {os : List V4} {link : Nat} {pt : V3} (hl : link ≤ js.length) (hn : js.length ≤ 10) (h1 : vs.length = js.length) (h2 : os.length = js.length) (hj : ∀ j ∈ js, JOk j) (hv : ∀ v ∈ vs, VOk v) (ho : ∀ q ∈ os, OOk q) [Szv pt 30] :
    m__law_true js vs os (link : Int) pt = some (l4 (placeL js vs os link pt link)) := by
  refine eq_of ?_
  unfold m__law_true
  refine t_lt (tot_rng (by omega) ?_)
  have hlen : (rng 0 (link : Int)).length = link := by rw [rng_len]; omega
  refine tot_forLe (F := fun i => l4 (placeL js vs os link pt i)) rfl (fun i k hk => ?_) (by rw [hlen]; exact tot_some rfl)
  obtain ⟨ek, hk2⟩ := rng_get hk
  have e0 : js[link - 1 - i]? = some (js[link - 1 - i]'(by omega)) := List.getElem?_eq_getElem (by omega)
  have e1 : vs[link - 1 - i]? = some (vs[link - 1 - i]'(by omega)) := List.getElem?_eq_getElem (by omega)
  have e2 : os[link - 1 - i]? = some (os[link - 1 - i]'(by omega)) := List.getElem?_eq_getElem (by omega)
  have jm := hj _ (List.mem_of_getElem? e0)
  have vm := hv _ (List.mem_of_getElem? e1)
  have om := ho _ (List.mem_of_getElem? e2)
  obtain ⟨hp, hs⟩ := placeL_ok (js := js) (link := link) (pt := pt) hv ho i
  show _ = some (l4 (onO stepP js[link - 1 - i]? vs[link - 1 - i]? os[link - 1 - i]? _))
  rw [e0, e1, e2]
  generalize js[link - 1 - i]'(by omega) = j at *
  generalize vs[link - 1 - i]'(by omega) = v at *
  generalize os[link - 1 - i]'(by omega) = q at *
  generalize placeL js vs os link pt i = p at *
  have hs1 := movedP_size (j := j) vm hs
  haveI : Sz4 p 5000 := sz4_le hs (by omega)
  have so := vm.o
  have su := vm.u
  have vp := vm.pos
  haveI : Szl v.1 100 := szl_le so (by decide)
  haveI : Szl v.2 60 := szl_le su (by decide)
  refine eq_of ?_
  refine t_lt (t_eq (at_get (n := link - 1 - i) (by omega) e0) (t_eq (at_get (n := link - 1 - i) (by omega) e1) ?_))
  refine t_bind (P := fun l => l = l4 (if j.turns = true then turnP j.axis v.1 (v.2 * 1000000) p else shiftP j.axis v.1 v.2 p)) ?_ fun l hl => ?_
  · cases hb : j.turns with
    | true => exact t_yes rfl (t_eq (lturned_eq4 jm.axis) (tot_some rfl))
    | false =>
      have hd : v.1 * (p.2.2.2 * v.2) / v.2 = v.1 * p.2.2.2 := by
        rw [← Int.mul_assoc]
        exact Int.mul_ediv_cancel _ (by omega)
      have hm : mapC (l4 p) (fun x => (mulC x v.2).bind fun t => some t) = some [p.1 * v.2, p.2.1 * v.2, p.2.2.1 * v.2, p.2.2.2 * v.2] := by
        refine mapC_all (g := fun x => x * v.2) (by show 4 ≤ 1000000; decide) fun x hx => ?_
        unfold l4 at hx
        simp only [List.mem_cons, List.not_mem_nil, or_false] at hx
        have hz : Szl x 5000 := by rcases hx with rfl | rfl | rfl | rfl <;> infer_instance
        haveI := hz
        rw [mul_s (m := 5000) (n := 60) inferInstance inferInstance (by decide)]
        rfl
      refine t_no rfl (t_eq hm ?_)
      unfold shiftP
      rcases three jm.axis.1 jm.axis.2 with e | e | e <;> rw [e]
      · refine t_eq (x := p.1 * v.2) rfl (t_eq (x := p.2.2.2 * v.2) rfl (t_mul (t_div vp ?_)))
        rw [hd]
        exact t_eq rfl (tot_some rfl)
      · refine t_eq (x := p.2.1 * v.2) rfl (t_eq (x := p.2.2.2 * v.2) rfl (t_mul (t_div vp ?_)))
        rw [hd]
        exact t_eq rfl (tot_some rfl)
      · refine t_eq (x := p.2.2.1 * v.2) rfl (t_eq (x := p.2.2.2 * v.2) rfl (t_mul (t_div vp ?_)))
        rw [hd]
        exact t_eq rfl (tot_some rfl)
  subst hl
  show Tot _ fun x => x = l4 (addP (if j.turns = true then turnP j.axis v.1 (v.2 * 1000000) p else shiftP j.axis v.1 v.2 p) q)
  generalize (if j.turns = true then turnP j.axis v.1 (v.2 * 1000000) p else shiftP j.axis v.1 v.2 p) = r at *
  haveI : Sz4 r 6000 := sz4_le hs1 (by omega)
  haveI : Sz4 q 100 := sz4_le om.s (by decide)
  refine t_eq (at_get (n := link - 1 - i) (by omega) e2) ?_
  refine t_eq (x := r.1) rfl (t_mul (t_eq (x := r.2.2.2) rfl (t_mul (t_eq (x := r.2.1) rfl (t_mul (t_eq (x := r.2.2.2) rfl (t_mul ?_)))))))
  refine t_eq (x := r.2.2.1) rfl (t_mul (t_eq (x := r.2.2.2) rfl (t_mul (t_eq (x := r.2.2.2) rfl (t_mul (t_eq rfl (tot_some rfl)))))))
theorem law_joint_ok {r e : Int} (hr : Cell r) (he : 0 ≤ e ∧ e ≤ 100000) : Tot (m__law_joint r e) fun j => JOk j ∧ (j.turns = true → j.most = 2000000) ∧ (j.turns = false → j.most = 300) ∧ j.least = -j.most := by
  unfold m__law_joint
  haveI := hr.sz
  refine t_mod (by decide) fun a _ a0 a1 _ => t_lt (t_div (by decide) (t_mod (by decide) fun b _ b0 b1 _ => t_div (by decide) (t_mod (by decide) fun c _ c0 c1 _ => t_div (by decide) (t_mod (by decide) fun d _ d0 d1 _ => t_div (by decide) (t_mod (by decide) fun f _ f0 f1 _ => t_lt (t_lt ?_))))))
  refine t_bind (P := fun x => 0 ≤ x ∧ x ≤ 100000) (tot_ite (fun _ => ?_) fun _ => tot_some he) fun x ⟨x0, x1⟩ => ?_
  · haveI : Szl e 16 := szl_le (szl_abs_of (B := 100000) (by omega)) (by decide)
    exact t_mod (by decide) fun y _ y0 y1 _ => tot_some ⟨y0, by omega⟩
  refine t_div (by decide) (t_mod (by decide) fun y _ y0 y1 _ => ?_)
  cases hb : decide (0 < a) with
  | true =>
    have hj : JOk ⟨true, b, (c - 20, d - 20, f - 100), -2000000, 2000000, y, x, 1, 1, 1⟩ := by
      refine ⟨⟨b0, b1⟩, ⟨?_, ?_, ?_⟩, ?_, ?_, ?_, fun _ => ⟨?_, ?_⟩, ⟨y0, ?_⟩, ⟨x0, x1⟩, ⟨?_, ?_⟩, ⟨?_, ?_⟩, ?_⟩ <;> dsimp only <;> omega
    exact t_eq (joint_init_ok hj) (tot_some ⟨hj, fun _ => rfl, (fun h => nomatch (show true = false from h)), rfl⟩)
  | false =>
    have hj : JOk ⟨false, b, (c - 20, d - 20, f - 100), -300, 300, y, x, 1, 1, 1⟩ := by
      refine ⟨⟨b0, b1⟩, ⟨?_, ?_, ?_⟩, ?_, ?_, ?_, fun _ => ⟨?_, ?_⟩, ⟨y0, ?_⟩, ⟨x0, x1⟩, ⟨?_, ?_⟩, ⟨?_, ?_⟩, ?_⟩ <;> dsimp only <;> omega
    exact t_eq (joint_init_ok hj) (tot_some ⟨hj, (fun h => nomatch (show false = true from h)), fun _ => rfl, rfl⟩)
theorem law_values_ok {js : List Joint} {r : Int} (hj : ∀ j ∈ js, JOk j) (hn : js.length ≤ 10) (hr : Cell r) : Tot (m__law_values js r) fun vs => vs.length = js.length ∧ ∀ (i : Nat) (j : Joint), js[i]? = some j → ∃ v, vs[i]? = some v ∧ j.least ≤ v ∧ v ≤ j.most := by
  unfold m__law_values
  haveI := hr.sz
  have hr0 := hr
  refine t_lt (tot_rng (by omega) ?_)
  have hlen : (rng 0 (js.length : Int)).length = js.length := by rw [rng_len]; omega
  refine t_bind (P := fun vs => vs.length = js.length ∧ ∀ (i : Nat) (j : Joint), js[i]? = some j → ∃ v, vs[i]? = some v ∧ j.least ≤ v ∧ v ≤ j.most) ?_ fun vs h => tot_some h
  refine tot_imp (tot_forLi (W := fun n (vs : List Int) => vs.length = n ∧ ∀ (i : Nat) (j : Joint), i < n → js[i]? = some j → ∃ v, vs[i]? = some v ∧ j.least ≤ v ∧ v ≤ j.most) ⟨rfl, fun i j h => by omega⟩ fun n k vs hk ⟨hl, hv⟩ => ?_) fun vs ⟨hl, hv⟩ => ?_
  · obtain ⟨ek, hk2⟩ := rng_get hk
    have e0 : js[n]? = some (js[n]'(by omega)) := List.getElem?_eq_getElem (by omega)
    have jm := hj _ (List.mem_of_getElem? e0)
    generalize js[n]'(by omega) = j at *
    have a0 := at_get (i := k) (n := n) (by omega) e0
    haveI : Szl (k + 3) 10 := szl_le (szl_abs_of (B := 100) (by omega)) (by decide)
    haveI : Szl (k + 1) 10 := szl_le (szl_abs_of (B := 100) (by omega)) (by decide)
    have hr := jm.range
    have s1 := jm.least
    have s2 := jm.most
    haveI : Szl (j.most - j.least + 1) 60 := szl_le (szl_abs_of (B := 1000000000) (by omega)) (by decide)
    haveI : Szl (r / 1000003) 1048580 := ⟨Nat.le_trans (lg_div (by decide)) hr0.2⟩
    refine t_eq a0 (t_eq a0 (t_lt (t_eq a0 (t_div (by omega) (t_div (by decide) (t_mul (t_mod (by omega) fun x _ x0 x1 _ => tot_app (by omega) (tot_some ⟨by rw [List.length_append, hl]; rfl, fun i j' hi e => ?_⟩))))))))
    by_cases hin : i < n
    · obtain ⟨v, ev, hv⟩ := hv i j' hin e
      exact ⟨v, by rw [List.getElem?_append_left (by omega)]; exact ev, hv⟩
    · have : i = n := by omega
      subst this
      rw [e0] at e
      cases e
      refine ⟨j.least + x, ?_, by omega, by omega⟩
      rw [List.getElem?_append_right (by omega), hl, Nat.sub_self]
      rfl
  · rw [hlen] at hl hv
    exact ⟨hl, fun i j e => hv i j (List.getElem?_eq_some_iff.mp e).1 e⟩
theorem values_mem {js : List Joint} {vs : List Int} (hj : ∀ j ∈ js, JOk j) (h : vs.length = js.length ∧ ∀ (i : Nat) (j : Joint), js[i]? = some j → ∃ v, vs[i]? = some v ∧ j.least ≤ v ∧ v ≤ j.most) : ∀ v ∈ vs, v.natAbs ≤ 10000000 := fun v hv => by
  obtain ⟨i, hi⟩ := List.mem_iff_getElem?.mp hv
  have hlt : i < js.length := by
    have := (List.getElem?_eq_some_iff.mp hi).1
    omega
  obtain ⟨w, ew, h1, h2⟩ := h.2 i _ (List.getElem?_eq_getElem hlt)
  rw [hi] at ew
  cases ew
  have jm := hj _ (List.getElem_mem hlt)
  have := jm.least
  have := jm.most
  omega
def fl4 (p : V4) : V3 := (p.1 / p.2.2.2, p.2.1 / p.2.2.2, p.2.2.1 / p.2.2.2)
def vals1 (row : List Int) : List (Int × Int) := row.map fun v => (v, 1)
def offs1 (js : List Joint) : List V4 := js.map fun j => (j.offset.1, j.offset.2.1, j.offset.2.2, 1)
theorem vals1_ok {row : List Int} (h : ∀ v ∈ row, v.natAbs ≤ 10000000) : ∀ v ∈ vals1 row, VOk v := fun v hv => by
  obtain ⟨x, hx, rfl⟩ := List.mem_map.mp hv
  exact ⟨by show (0 : Int) < 1; decide, szl_le (szl_abs_of (h x hx)) (by decide), ⟨by show lg 1 ≤ 30; decide⟩⟩
theorem offs1_ok {js : List Joint} (h : ∀ j ∈ js, JOk j) : ∀ q ∈ offs1 js, OOk q := fun q hq => by
  obtain ⟨j, hj, rfl⟩ := List.mem_map.mp hq
  have o := (h j hj).szs.1
  exact ⟨by show (0 : Int) < 1; decide, Nat.le_trans o.x (by decide), Nat.le_trans o.y (by decide), Nat.le_trans o.z (by decide), by show lg 1 ≤ 40; decide⟩
def spotP (js : List Joint) (row : List Int) (link : Nat) (pt : V3) : V4 := placeP js (vals1 row) (offs1 js) link pt link
theorem spot_eq {arm : Arm} {row : List Int} {link : Nat} {pt : V3} (hl : link ≤ arm.joints.length) (hn : arm.joints.length ≤ 10) (h1 : row.length = arm.joints.length) (hj : ∀ j ∈ arm.joints, JOk j) (hv : ∀ v ∈ row, v.natAbs ≤ 10000000) [Szv pt 30] :
    m_spot arm row (link : Int) pt = some (fl4 (spotP arm.joints row link pt)) := by
  refine eq_of ?_
  unfold m_spot
  refine t_eq (mapP_eq (by omega)) (t_eq (mapP_eq (by omega)) (t_eq (true_place_eq (vs := vals1 row) (os := offs1 arm.joints) hl hn (by unfold vals1; rw [List.length_map]; exact h1) (by unfold offs1; rw [List.length_map]) hj (vals1_ok hv) (offs1_ok hj)) ?_))
  obtain ⟨hp, hs⟩ := placeP_ok (js := arm.joints) (link := link) (pt := pt) (vals1_ok hv) (offs1_ok hj) link
  unfold spotP
  generalize placeP arm.joints (vals1 row) (offs1 arm.joints) link pt link = p at *
  have w := hs.w
  exact tot_div hp (by omega) (tot_div hp (by omega) (tot_div hp (by omega) (tot_some rfl)))
theorem fits_ok {arm : Arm} {row : List Int} (hn : arm.joints.length ≤ 10) (hl : row.length = arm.joints.length) (h : ∀ (i : Nat) j v, arm.joints[i]? = some j → row[i]? = some v → j.least ≤ v ∧ v ≤ j.most) : m_Arm_fits arm row = some true := by
  refine eq_of ?_
  unfold m_Arm_fits
  refine t_no (by rw [decide_eq_true (by omega)]; rfl) (tot_rng (by omega) ?_)
  refine t_bind (mapC_each (P := fun b => b = true) (by rw [rng_len]; omega) fun k hk => ?_) fun bs ⟨_, hb⟩ => tot_some (List.all_eq_true.mpr hb)
  obtain ⟨k0, k1⟩ := mem_rng.mp hk
  obtain ⟨i, rfl⟩ : ∃ n : Nat, k = n := ⟨k.toNat, by omega⟩
  have e1 : arm.joints[i]? = some (arm.joints[i]'(by omega)) := List.getElem?_eq_getElem (by omega)
  have e2 : row[i]? = some (row[i]'(by omega)) := List.getElem?_eq_getElem (by omega)
  obtain ⟨q1, q2⟩ := h i _ _ e1 e2
  refine t_eq (at_get (n := i) rfl e1) (t_eq (at_get (n := i) rfl e2) (t_eq (x := true) ?_ (tot_some rfl)))
  rw [if_pos (decide_eq_true q1), at_get (n := i) rfl e1]
  show some (decide _) = _
  rw [decide_eq_true q2]
theorem move_init_ok {arm : Arm} {a b : List Int} (ha : m_Arm_fits arm a = some true) (hb : m_Arm_fits arm b = some true) : m_Move_init arm a b = some ⟨a, b⟩ := by
  refine eq_of ?_
  unfold m_Move_init
  exact t_eq ha (t_no rfl (t_eq hb (t_no rfl (tot_some rfl))))
structure BOk (b : Body) : Prop where
  f : Near b.first 1000
  l : Near b.last 1000
  r : 0 ≤ b.radius ∧ b.radius ≤ 1000
theorem BOk.szs {b : Body} (h : BOk b) : Szv b.first 30 ∧ Szv b.last 30 := ⟨szv_le (szv_of h.f) (by decide), szv_le (szv_of h.l) (by decide)⟩
structure COk (n : Nat) (c : Capsule) : Prop where
  l : 0 ≤ c.link ∧ c.link ≤ n
  b : BOk c.body
theorem near_up {v : V3} {a b : Nat} (h : Near v a) (k : a ≤ b) : Near v b := ⟨Nat.le_trans h.1 k, Nat.le_trans h.2.1 k, Nat.le_trans h.2.2 k⟩
theorem law_capsule_ok {r l : Int} {n : Nat} (hr : Cell r) (hl : l = (n : Int)) (hn : n ≤ 10) : Tot (m__law_capsule r l) (COk n) := by
  subst hl
  unfold m__law_capsule
  haveI := hr.sz
  refine t_mod (by decide) fun a _ a0 a1 _ => t_div (by decide) (t_mod (by decide) fun b _ b0 b1 _ => t_div (by decide) (t_mod (by decide) fun c _ c0 c1 _ => t_lt ?_))
  refine t_div (by decide) (t_mod (by decide) fun d _ d0 d1 _ => t_div (by decide) (t_mod (by decide) fun e _ e0 e1 _ => t_div (by decide) (t_mod (by decide) fun f _ f0 f1 _ => t_lt ?_)))
  haveI : Szl ((n : Int) + 1) 10 := szl_le (szl_abs_of (B := 100) (by omega)) (by decide)
  refine t_div (by decide) (t_mod (by omega) fun k _ k0 k1 _ => t_div (by decide) (t_mod (by decide) fun q _ q0 q1 _ => ?_))
  have hb : BOk ⟨(a - 30, b - 30, c - 60), (d - 30, e - 30, f - 60), q⟩ := ⟨⟨by dsimp only; omega, by dsimp only; omega, by dsimp only; omega⟩, ⟨by dsimp only; omega, by dsimp only; omega, by dsimp only; omega⟩, q0, by dsimp only; omega⟩
  refine t_eq (body_init_ok (near_up hb.f (by decide)) (near_up hb.l (by decide)) ⟨q0, by omega⟩) ?_
  refine t_eq (x := ⟨k, ⟨(a - 30, b - 30, c - 60), (d - 30, e - 30, f - 60), q⟩⟩) rfl (tot_some ⟨⟨k0, ?_⟩, hb⟩)
  show k ≤ (n : Int)
  omega
structure ArmOk (a : Arm) : Prop where
  n : 1 ≤ a.joints.length ∧ a.joints.length ≤ 6
  j : ∀ j ∈ a.joints, JOk j
  cn : a.capsules.length ≤ 8
  c : ∀ c ∈ a.capsules, COk a.joints.length c
theorem law_arm_ok {rows : List Int} {at_ e : Int} (hat : 0 ≤ at_ ∧ at_ + 7 ≤ rows.length) (hc : ∀ c ∈ rows, Cell c) (he : Cell e) : Tot (m__law_arm rows at_ e) fun a => ArmOk a ∧ a.joints.length ≤ 3 ∧ a.capsules.length ≤ 3 ∧ 1 ≤ a.capsules.length ∧ (a.beside = [] ∨ a.beside = [(0, 2)]) := by
  have get : ∀ (i : Int), 0 ≤ i → i < rows.length → ∃ c, atC rows i = some c ∧ Cell c := fun i h0 h1 => by
    obtain ⟨c, e, m, _⟩ := atC_get (xs := rows) h0 h1
    exact ⟨c, e, hc c m⟩
  unfold m__law_arm
  haveI := he.sz
  obtain ⟨c0, e0, h0⟩ := get at_ hat.1 (by omega)
  haveI := h0.sz
  refine t_eq e0 (t_mod (by decide) fun m0 _ m1 m2 _ => t_lt (tot_rng (by omega) ?_))
  have hlen : (rng 0 (1 + m0)).length = (1 + m0).toNat := by rw [rng_len]; omega
  refine t_bind (mapC_each (P := JOk) (by omega) fun k hk => ?_) fun js ⟨hjl, hj⟩ => ?_
  · obtain ⟨k0, k1⟩ := mem_rng.mp hk
    obtain ⟨a, ea, ha⟩ := get (at_ + 1 + k) (by omega) (by omega)
    haveI : Szl k 5 := szl_le (szl_abs_of (B := 8) (by omega)) (by decide)
    exact t_eq ea (t_mul (t_mod (by omega) fun x _ x0 x1 _ => t_bind (law_joint_ok ha ⟨x0, by omega⟩) fun j hj => tot_some hj.1))
  refine t_eq e0 (t_div (by decide) (t_mod (by decide) fun q _ q0 q1 _ => tot_rng (by omega) ?_))
  have hlen2 : (rng 0 (1 + q)).length = (1 + q).toNat := by rw [rng_len]; omega
  refine t_bind (mapC_each (P := COk js.length) (by omega) fun k hk => ?_) fun cs ⟨hcl, hcs⟩ => ?_
  · obtain ⟨k0, k1⟩ := mem_rng.mp hk
    obtain ⟨a, ea, ha⟩ := get (at_ + 4 + k) (by omega) (by omega)
    exact t_eq ea (t_bind (law_capsule_ok (n := js.length) ha (by omega) (by omega)) fun c hc => tot_some hc)
  refine t_lt (t_bind (P := fun b => b = true → 2 < (cs.length : Int)) (tot_ite (fun h => ?_) fun _ => tot_some (fun h => nomatch h)) fun b hb => ?_)
  · have h := of_decide_eq_true h
    exact t_eq e0 (t_div (by decide) (t_mod (by decide) fun _ _ _ _ _ => tot_some fun _ => h))
  refine t_bind (P := fun s : List (Int × Int) => s = [] ∨ (s = [(0, 2)] ∧ 2 < (cs.length : Int))) (tot_ite (fun h => t_lt (tot_some (.inr ⟨rfl, hb h⟩))) fun _ => tot_some (.inl rfl)) fun bs hbs => ?_
  refine t_eq (arm_init_ok (by omega) (by omega) (fun c h => (hcs c h).l) (fun p hp => ?_) ?_) (tot_some ⟨⟨by dsimp only; omega, hj, by dsimp only; omega, hcs⟩, by dsimp only; omega, by dsimp only; omega, by dsimp only; omega, hbs.imp (fun h => h) fun h => h.1⟩)
  · rcases hbs with h | ⟨h, h2⟩
    · rw [h] at hp; exact nomatch hp
    · rw [h, List.mem_singleton] at hp
      subst hp
      exact ⟨by decide, by decide, h2⟩
  · rcases hbs with h | ⟨h, _⟩ <;> rw [h] <;> decide
def RangeOk (js : List Joint) (row : List Int) : Prop := row.length = js.length ∧ ∀ (i : Nat) j v, js[i]? = some j → row[i]? = some v → j.least ≤ v ∧ v ≤ j.most
theorem range_mem {js : List Joint} {row : List Int} (hj : ∀ j ∈ js, JOk j) (h : RangeOk js row) : ∀ v ∈ row, v.natAbs ≤ 10000000 := fun v hv => by
  obtain ⟨i, hi⟩ := List.mem_iff_getElem?.mp hv
  have hlt : i < js.length := by
    have := (List.getElem?_eq_some_iff.mp hi).1
    have := h.1
    omega
  obtain ⟨h1, h2⟩ := h.2 i _ v (List.getElem?_eq_getElem hlt) hi
  have jm := hj _ (List.getElem_mem hlt)
  have := jm.least
  have := jm.most
  omega
structure MoverOk (m : Mover) : Prop where
  a : ArmOk m.arm
  f : RangeOk m.arm.joints m.move.first
  l : RangeOk m.arm.joints m.move.last
  h : ∀ b ∈ m.held, BOk b
  hn : m.held.length ≤ 5
theorem values_range {js : List Joint} {vs : List Int} (h : vs.length = js.length ∧ ∀ (i : Nat) (j : Joint), js[i]? = some j → ∃ v, vs[i]? = some v ∧ j.least ≤ v ∧ v ≤ j.most) : RangeOk js vs := ⟨h.1, fun i j v e1 e2 => by
  obtain ⟨w, ew, hw⟩ := h.2 i j e1
  rw [e2] at ew
  cases ew
  exact hw⟩
theorem setC_nat {α : Type} {xs : List α} {i : Nat} {x : α} (h : i < xs.length) : setC xs (i : Int) x = some (xs.set i x) := by
  unfold setC ixN
  rw [if_pos (by omega), if_pos (by omega)]
  rfl
theorem law_mover_ok {rows : List Int} {at_ e : Int} (hat : 0 ≤ at_ ∧ at_ + 9 ≤ rows.length) (hc : ∀ c ∈ rows, Cell c) (he : Cell e) : Tot (m__law_mover rows at_ e) fun m => MoverOk m ∧ m.arm.joints.length ≤ 3 ∧ m.arm.capsules.length ≤ 3 ∧ 1 ≤ m.arm.capsules.length ∧ (m.arm.beside = [] ∨ m.arm.beside = [(0, 2)]) := by
  have get : ∀ (i : Int), 0 ≤ i → i < rows.length → ∃ c, atC rows i = some c ∧ Cell c := fun i h0 h1 => by
    obtain ⟨c, e, m, _⟩ := atC_get (xs := rows) h0 h1
    exact ⟨c, e, hc c m⟩
  unfold m__law_mover
  obtain ⟨c0, e0, h0⟩ := get at_ hat.1 (by omega)
  obtain ⟨c7, e7, h7⟩ := get (at_ + 7) (by omega) (by omega)
  obtain ⟨c8, e8, h8⟩ := get (at_ + 8) (by omega) (by omega)
  haveI := h0.sz; haveI := h7.sz; haveI := h8.sz
  refine t_bind (law_arm_ok ⟨hat.1, by omega⟩ hc he) fun arm ⟨ha, ha2⟩ => ?_
  have hn := ha.n
  refine t_eq e7 (t_bind (law_values_ok ha.j (by omega) h7) fun v1 hv1 => t_eq e8 (t_bind (law_values_ok ha.j (by omega) h8) fun v2 hv2 => ?_))
  have r1 := values_range hv1
  have r2 := values_range hv2
  refine t_eq e0 (t_div (by decide) (t_mod (by decide) fun _ _ _ _ _ => ?_))
  refine t_bind (P := fun s => RangeOk arm.joints s) (tot_ite (fun _ => tot_some r1) fun _ => tot_some r2) fun s hs => tot_rng (by have := r1.1; omega) ?_
  refine t_bind (P := fun s => RangeOk arm.joints s) (tot_forL (W := fun s => RangeOk arm.joints s) hs fun k s hk hs => ?_) fun s hs => ?_
  · obtain ⟨k0, k1⟩ := mem_rng.mp hk
    have hl1 := r1.1
    have hl2 := hs.1
    obtain ⟨i, rfl⟩ : ∃ n : Nat, k = n := ⟨k.toNat, by omega⟩
    refine t_eq e0 (t_div (by decide) (t_mod (by decide) fun _ _ _ _ _ => ?_))
    refine t_bind (P := fun s => RangeOk arm.joints s) (tot_ite (fun _ => ?_) fun _ => tot_some hs) fun s hs => tot_some hs
    have q1 : v1[i]? = some (v1[i]'(by omega)) := List.getElem?_eq_getElem (by omega)
    have q2 : s[i]? = some (s[i]'(by omega)) := List.getElem?_eq_getElem (by omega)
    refine t_eq (at_get (n := i) rfl q1) (t_eq (at_get (n := i) rfl q2) (t_eq (at_get (n := i) rfl q1) (t_div (by decide) (t_eq (setC_nat (by omega)) (tot_some ⟨by rw [List.length_set]; exact hl2, fun i' j v ej ev => ?_⟩)))))
    by_cases hii : i = i'
    · subst hii
      rw [List.getElem?_set_self (by omega)] at ev
      cases ev
      have a1 := r1.2 i j _ ej q1
      have a2 := hs.2 i j _ ej q2
      generalize v1[i]'(by omega) = x at *
      generalize s[i]'(by omega) = y at *
      omega
    · rw [List.getElem?_set_ne hii] at ev
      exact hs.2 i' j v ej ev
  refine t_eq e0 (t_div (by decide) (t_mod (by decide) fun _ _ _ _ _ => ?_))
  refine t_bind (P := fun h : List Body => (∀ b ∈ h, BOk b) ∧ h.length ≤ 5) (tot_ite (fun _ => ?_) fun _ => tot_some ⟨fun _ h => (nomatch h), by decide⟩) fun hd ⟨hd1, hd2⟩ => ?_
  · refine t_eq e8 (t_mod (by decide) fun x _ x0 x1 _ => t_eq e7 (t_mod (by decide) fun y _ y0 y1 _ => ?_))
    have hb : BOk ⟨(0, 0, 20), (x, 0, 30), y⟩ := ⟨⟨by dsimp only; omega, by dsimp only; omega, by dsimp only; omega⟩, ⟨by dsimp only; omega, by dsimp only; omega, by dsimp only; omega⟩, y0, by dsimp only; omega⟩
    exact t_eq (body_init_ok (near_up hb.f (by decide)) (near_up hb.l (by decide)) ⟨y0, by omega⟩) (tot_some ⟨fun b h => by rw [List.mem_singleton] at h; rw [h]; exact hb, by show 1 ≤ 5; decide⟩)
  have fit : ∀ {row : List Int}, RangeOk arm.joints row → m_Arm_fits arm row = some true := fun h => fits_ok (by omega) h.1 fun i j v a b => h.2 i j v a b
  exact t_eq (move_init_ok (fit r1) (fit hs)) (t_eq (x := ⟨arm, ⟨v1, s⟩, hd⟩) rfl (tot_some ⟨⟨ha, r1, hs, hd1, hd2⟩, ha2⟩))
def bodiesV (m : Mover) : List (Int × Body) := m.arm.capsules.map (fun c => (c.link, c.body)) ++ m.held.map fun b => ((m.arm.joints.length : Int), b)
theorem bodies_eq {m : Mover} (h : MoverOk m) : m_Mover_bodies m = some (bodiesV m) := by
  have a := h.a.cn
  have b := h.hn
  refine eq_of ?_
  unfold m_Mover_bodies
  refine t_eq (mapP_eq (by omega)) (t_bind (P := fun s => s = bodiesV m) ⟨_, app_loop (g := fun b => ((m.arm.joints.length : Int), b)) (fun x s _ hs => ?_) (by rw [List.length_map]; omega), rfl⟩ fun s hs => tot_some hs)
  rw [appC_eq hs]
  rfl
theorem bodies_len {m : Mover} (h : MoverOk m) : (bodiesV m).length ≤ 13 := by
  have a := h.a.cn
  have b := h.hn
  unfold bodiesV
  rw [List.length_append, List.length_map, List.length_map]
  omega
theorem bodies_mem {m : Mover} (h : MoverOk m) : ∀ x ∈ bodiesV m, (0 ≤ x.1 ∧ x.1 ≤ m.arm.joints.length) ∧ BOk x.2 := fun x hx => by
  rcases List.mem_append.mp hx with q | q
  · obtain ⟨c, hc, rfl⟩ := List.mem_map.mp q
    exact ⟨(h.a.c c hc).l, (h.a.c c hc).b⟩
  · obtain ⟨b, hb, rfl⟩ := List.mem_map.mp q
    exact ⟨⟨by dsimp only; omega, Int.le_refl _⟩, h.h b hb⟩
theorem part_range {f l n m : Int} (hn : 0 < n) (hm : 0 ≤ m ∧ m ≤ n) : (f ≤ l → f ≤ f + (l - f) * m / n ∧ f + (l - f) * m / n ≤ l) ∧ (l ≤ f → l ≤ f + (l - f) * m / n ∧ f + (l - f) * m / n ≤ f) := by
  constructor
  · intro h
    have h1 : 0 ≤ (l - f) * m := Int.mul_nonneg (by omega) hm.1
    have h2 : (l - f) * m ≤ (l - f) * n := Int.mul_le_mul_of_nonneg_left hm.2 (by omega)
    have h3 := Int.ediv_nonneg h1 (show 0 ≤ n by omega)
    have h4 := Int.ediv_le_ediv hn h2
    rw [Int.mul_ediv_cancel _ (show n ≠ 0 by omega)] at h4
    omega
  · intro h
    have h1 : 0 ≤ (f - l) * m := Int.mul_nonneg (by omega) hm.1
    have h2 : (f - l) * m ≤ (f - l) * n := Int.mul_le_mul_of_nonneg_left hm.2 (by omega)
    have e1 : (l - f) * m = -((f - l) * m) := by grind
    have e2 : (l - f) * n = -((f - l) * n) := by grind
    have h5 : (l - f) * n ≤ (l - f) * m := by omega
    have h4 := Int.ediv_le_ediv hn h5
    rw [Int.mul_ediv_cancel _ (show n ≠ 0 by omega)] at h4
    have h6 : (l - f) * m / n ≤ 0 := by
      have := Int.ediv_le_ediv hn (show (l - f) * m ≤ 0 by omega)
      rw [Int.zero_ediv] at this
      exact this
    omega
theorem middle_ok {js : List Joint} {mv : Move} {d a : Int} (hj : ∀ j ∈ js, JOk j) (hn : js.length ≤ 10) (hf : RangeOk js mv.first) (hl : RangeOk js mv.last) (hd : 0 ≤ d ∧ d ≤ 60) (ha : 0 ≤ a ∧ a < 2 ^ d.toNat) : Tot (m_Move_middle mv (d, a)) fun row => RangeOk js row := by
  have f1 := hf.1
  have l1 := hl.1
  have fm := range_mem hj hf
  have lm := range_mem hj hl
  unfold m_Move_middle
  refine t_lt (tot_rng (by omega) ?_)
  have hlen : (rng 0 (mv.first.length : Int)).length = js.length := by rw [rng_len]; omega
  have pa : (2 : Int) ^ (d + 1).toNat = 2 * 2 ^ d.toNat := by
    have : (d + 1).toNat = d.toNat + 1 := by omega
    rw [this, Int.pow_succ, Int.mul_comm]
  have pz : (2 : Int) ^ d.toNat ≤ 2 ^ 60 := by
    have := pw_le (a := d.toNat) (b := 60) (by omega)
    exact this
  haveI : Szl a 60 := szl_abs_of (B := 2 ^ 60) (by omega)
  refine t_bind (P := fun s => RangeOk js s) (tot_imp (tot_forLi (W := fun n (s : List Int) => s.length = n ∧ ∀ (i : Nat) j v, js[i]? = some j → s[i]? = some v → j.least ≤ v ∧ v ≤ j.most) ⟨rfl, fun _ _ _ _ h => nomatch h⟩ fun n k s hk ⟨hs1, hs2⟩ => ?_) fun s h => by rw [hlen] at h; exact h) fun s hs => tot_some hs
  obtain ⟨ek, hk2⟩ := rng_get hk
  have e1 : mv.first[n]? = some (mv.first[n]'(by omega)) := List.getElem?_eq_getElem (by omega)
  have e2 : mv.last[n]? = some (mv.last[n]'(by omega)) := List.getElem?_eq_getElem (by omega)
  have ej : js[n]? = some (js[n]'(by omega)) := List.getElem?_eq_getElem (by omega)
  have b1 := hf.2 n _ _ ej e1
  have b2 := hl.2 n _ _ ej e2
  have a1 := at_get (i := k) (n := n) (by omega) e1
  have a2 := at_get (i := k) (n := n) (by omega) e2
  have x1 := fm _ (List.mem_of_getElem? e1)
  have x2 := lm _ (List.mem_of_getElem? e2)
  generalize mv.first[n]'(by omega) = x at *
  generalize mv.last[n]'(by omega) = y at *
  generalize hjj : js[n]'(by omega) = j at *
  haveI : Szl (y - x) 30 := szl_le (szl_abs_of (B := 20000000) (by omega)) (by decide)
  have pr := part_range (f := x) (l := y) (n := 2 ^ (d + 1).toNat) (m := 2 * a + 1) (by rw [pa]; omega) (by rw [pa]; omega)
  refine t_eq a2 (t_eq a1 (t_mul (t_mul (t_eq a1 (tot_shr (by show 0 ≤ d + 1; omega) (tot_app (by omega) (tot_some ⟨by simp [hs1], fun i j' v ej' ev => ?_⟩)))))))
  by_cases hin : i < n
  · rw [List.getElem?_append_left (by omega)] at ev
    exact hs2 i j' v ej' ev
  · have hlt := (List.getElem?_eq_some_iff.mp ev).1
    rw [List.length_append, List.length_singleton] at hlt
    have : i = n := by omega
    subst this
    rw [ej] at ej'
    cases ej'
    rw [List.getElem?_append_right (by omega), hs1, Nat.sub_self] at ev
    cases ev
    show j.least ≤ x + (y - x) * (2 * a + 1) / 2 ^ (d + 1).toNat ∧ x + (y - x) * (2 * a + 1) / 2 ^ (d + 1).toNat ≤ j.most
    rcases Int.le_total x y with q | q
    · have := pr.1 q
      omega
    · have := pr.2 q
      omega
theorem halves_ok {js : List Joint} {mv : Move} {d : Int} (hj : ∀ j ∈ js, JOk j) (hn : js.length ≤ 10) (hf : RangeOk js mv.first) (hl : RangeOk js mv.last) (hd : 0 ≤ d ∧ d ≤ 60) : Tot (m_Move_halves mv d) fun row => row.length = js.length ∧ ∀ h ∈ row, Szl h 50 := by
  have f1 := hf.1
  have l1 := hl.1
  have fm := range_mem hj hf
  have lm := range_mem hj hl
  unfold m_Move_halves
  refine t_lt (tot_rng (by omega) ?_)
  have hlen : (rng 0 (mv.first.length : Int)).length = js.length := by rw [rng_len]; omega
  have pp : (0 : Int) < 2 ^ (d + 1).toNat := pw_pos _
  have ps : lg (2 ^ (d + 1).toNat) ≤ 61 := by
    have := lg_pw (d + 1).toNat
    unfold pw at this
    omega
  refine t_bind (P := fun s : List Int => s.length = js.length ∧ ∀ h ∈ s, Szl h 50) (tot_imp (tot_forLi (W := fun n (s : List Int) => s.length = n ∧ ∀ h ∈ s, Szl h 50) ⟨rfl, fun _ h => nomatch h⟩ fun n k s hk ⟨hs1, hs2⟩ => ?_) fun s h => by rw [hlen] at h; exact h) fun s hs => tot_some hs
  obtain ⟨ek, hk2⟩ := rng_get hk
  have e1 : mv.first[n]? = some (mv.first[n]'(by omega)) := List.getElem?_eq_getElem (by omega)
  have e2 : mv.last[n]? = some (mv.last[n]'(by omega)) := List.getElem?_eq_getElem (by omega)
  have a1 := at_get (i := k) (n := n) (by omega) e1
  have a2 := at_get (i := k) (n := n) (by omega) e2
  have x1 := fm _ (List.mem_of_getElem? e1)
  have x2 := lm _ (List.mem_of_getElem? e2)
  generalize mv.first[n]'(by omega) = x at *
  generalize mv.last[n]'(by omega) = y at *
  haveI : Szl ((y - x).natAbs : Int) 30 := szl_le (szl_abs_of (B := 20000000) (by omega)) (by decide)
  refine t_eq a2 (t_eq a1 (t_lt ?_))
  generalize ((y - x).natAbs : Int) = far at *
  refine t_bind (P := fun h => Szl h 50) (tot_ite (fun _ => ?_) fun _ => tot_some (szl_le (inferInstance : Szl 0 _) (by decide))) fun h hh => tot_app (by omega) (tot_some ⟨by simp [hs1], fun q hq => ?_⟩)
  · refine tot_shl ⟨by omega, by omega, by decide⟩ ?_
    have e : (1 : Int) * 2 ^ (d + 1).toNat = 2 ^ (d + 1).toNat := Int.one_mul _
    rw [e]
    haveI : Szl ((2 : Int) ^ (d + 1).toNat) 61 := ⟨ps⟩
    refine t_eq (divide_up_eq pp) (tot_some ?_)
    exact szl_le (inferInstance : Szl (upq far (2 ^ (d + 1).toNat) + 1) _) (by decide)
  · rcases List.mem_append.mp hq with q1 | q1
    · exact hs2 q q1
    · rw [List.mem_singleton] at q1
      rw [q1]
      exact hh
def spotsV (m : Mover) (row : List Int) (x : Int × Body) : V3 × V3 := (fl4 (spotP m.arm.joints row x.1.toNat x.2.first), fl4 (spotP m.arm.joints row x.1.toNat x.2.last))
theorem spots_eq {m : Mover} {row : List Int} {x : Int × Body} (h : MoverOk m) (hr : RangeOk m.arm.joints row) (hx : x ∈ bodiesV m) : m_spot m.arm row x.1 x.2.first = some (spotsV m row x).1 ∧ m_spot m.arm row x.1 x.2.last = some (spotsV m row x).2 := by
  obtain ⟨hl, hb⟩ := bodies_mem h x hx
  obtain ⟨z1, z2⟩ := hb.szs
  have hn := h.a.n
  have rm := range_mem h.a.j hr
  have e : x.1 = ((x.1.toNat : Nat) : Int) := by omega
  refine ⟨?_, ?_⟩
  · have := spot_eq (arm := m.arm) (row := row) (link := x.1.toNat) (pt := x.2.first) (by omega) (by omega) hr.1 h.a.j rm
    rw [← e] at this
    exact this
  · have := spot_eq (arm := m.arm) (row := row) (link := x.1.toNat) (pt := x.2.last) (by omega) (by omega) hr.1 h.a.j rm
    rw [← e] at this
    exact this
theorem lines_eq {m : Mover} {part : Int × Int} {row : List Int} (h : MoverOk m) (hm : m_Move_middle m.move part = some row) (hr : RangeOk m.arm.joints row) : m_Mover_lines m part = some ((bodiesV m).map (spotsV m row)) := by
  have hl := bodies_len h
  refine eq_of ?_
  unfold m_Mover_lines
  refine t_eq hm (t_lt (t_eq (bodies_eq h) (t_bind (P := fun s => s = (bodiesV m).map (spotsV m row)) ⟨_, app_loop (g := spotsV m row) (fun x s hx hs => ?_) (by rw [List.length_nil]; omega), rfl⟩ fun s hs => tot_some hs)))
  obtain ⟨q1, q2⟩ := spots_eq h hr hx
  refine eq_of (t_eq q1 (t_eq q2 ?_))
  rw [appC_eq hs]
  exact tot_some rfl
theorem unknown_body {m : Mover} {hs : List Int} {x : Int × Body} (h : MoverOk m) (hl : hs.length = m.arm.joints.length) (hz : ∀ q ∈ hs, Szl q 60) (hx : x ∈ bodiesV m) : m_unknown m.arm hs x.1 x.2 = some (ust m.arm.joints hs x.1.toNat x.2.first x.2.last x.1.toNat).1 := by
  obtain ⟨hk, hb⟩ := bodies_mem h x hx
  obtain ⟨z1, z2⟩ := hb.szs
  have hn := h.a.n
  have e : x.1 = ((x.1.toNat : Nat) : Int) := by omega
  have := unknown_eq (arm := m.arm) (hs := hs) (link := x.1.toNat) (b := x.2) (by omega) (by omega) hl h.a.j hz
  rw [← e] at this
  exact this
def unksV (m : Mover) (hs : List Int) : List Int := (bodiesV m).map fun x => (ust m.arm.joints hs x.1.toNat x.2.first x.2.last x.1.toNat).1
theorem unks_map {m : Mover} {hs : List Int} (h : MoverOk m) (hl : hs.length = m.arm.joints.length) (hz : ∀ q ∈ hs, Szl q 60) : mapC (bodiesV m) (fun x => (m_unknown m.arm hs x.1 x.2).bind fun t => some t) = some (unksV m hs) := by
  have hn := bodies_len h
  exact mapC_all (by omega) fun x hx => by
    rw [unknown_body h hl hz hx]
    rfl
theorem unknowns_eq {m : Mover} {hs : List Int} (h : MoverOk m) (hl : hs.length = m.arm.joints.length) (hz : ∀ q ∈ hs, Szl q 60) : m_Mover_unknowns m hs = some (unksV m hs) := by
  refine eq_of ?_
  unfold m_Mover_unknowns
  exact t_eq (bodies_eq h) (t_eq (unks_map h hl hz) (tot_some rfl))
/-! places near each other -/
theorem g_cancel {a b c : Int} (hc : 0 < c) (h : a * c ≤ b * c) : a ≤ b := Int.le_of_mul_le_mul_right h hc
theorem g_mle {a b c : Int} (h : a ≤ b) (hc : 0 ≤ c) : a * c ≤ b * c := Int.mul_le_mul_of_nonneg_right h hc
theorem g_sqle {a b : Int} (ha : 0 ≤ a) (h : a ≤ b) : a * a ≤ b * b := Int.mul_le_mul h h ha (by omega)
theorem g_lesq {a b : Int} (hb : 0 ≤ b) (h : a * a ≤ b * b) : a ≤ b := by
  rcases Int.lt_or_le b a with q | q
  · have h1 := g_sqle (show 0 ≤ b + 1 by omega) (show b + 1 ≤ a by omega)
    have h2 : (b + 1) * (b + 1) = b * b + 2 * b + 1 := by grind
    omega
  · exact q
def g_away (p q : V4) : V3 := (p.1 * q.2.2.2 - q.1 * p.2.2.2, p.2.1 * q.2.2.2 - q.2.1 * p.2.2.2, p.2.2.1 * q.2.2.2 - q.2.2.1 * p.2.2.2)
def g_vec (p : V4) : V3 := (p.1, p.2.1, p.2.2.1)
/-- two places are at most a apart; a place is at most a from the middle -/
def Nr (p q : V4) (a : Int) : Prop := dotv (g_away p q) (g_away p q) ≤ a * (p.2.2.2 * q.2.2.2) * (a * (p.2.2.2 * q.2.2.2))
def Ln (p : V4) (a : Int) : Prop := dotv (g_vec p) (g_vec p) ≤ a * p.2.2.2 * (a * p.2.2.2)
theorem g_dotmul (v : V3) (k : Int) : dotv (mulv v k) (mulv v k) = dotv v v * (k * k) := by
  unfold dotv mulv
  dsimp only
  grind
theorem g_dotadd {a b : V3} {P Q : Int} (hP : 0 ≤ P) (hQ : 0 ≤ Q) (h1 : dotv a a ≤ P * P) (h2 : dotv b b ≤ Q * Q) : dotv (addv a b) (addv a b) ≤ (P + Q) * (P + Q) := by
  have c := cauchy a b
  have d1 := dotv_self_nonneg b
  have m := Int.mul_le_mul h1 h2 d1 (Int.mul_nonneg hP hP)
  have e1 : P * P * (Q * Q) = P * Q * (P * Q) := by grind
  have ab : dotv a b ≤ P * Q := by
    refine g_lesq (Int.mul_nonneg hP hQ) ?_
    rw [← e1]
    exact Int.le_trans c m
  have e2 : dotv (addv a b) (addv a b) = dotv a a + 2 * dotv a b + dotv b b := by
    unfold dotv addv
    dsimp only
    grind
  have e3 : (P + Q) * (P + Q) = P * P + 2 * (P * Q) + Q * Q := by grind
  rw [e2, e3]
  omega
theorem g_self (X : V4) : Nr X X 0 := by
  unfold Nr g_away dotv
  simp only [Int.sub_self, Int.mul_zero, Int.zero_mul, Int.add_zero]
  exact Int.le_refl _
theorem g_tri {X Y Z : V4} {A B : Int} (hx : 0 < X.2.2.2) (hy : 0 < Y.2.2.2) (hz : 0 < Z.2.2.2) (hA : 0 ≤ A) (hB : 0 ≤ B) (h1 : Nr X Y A) (h2 : Nr Y Z B) : Nr X Z (A + B) := by
  unfold Nr at *
  have id : mulv (g_away X Z) Y.2.2.2 = addv (mulv (g_away X Y) Z.2.2.2) (mulv (g_away Y Z) X.2.2.2) := by
    unfold mulv addv g_away
    dsimp only
    ext <;> dsimp only <;> grind
  have k1 := g_mle h1 (sq_nn Z.2.2.2)
  have k2 := g_mle h2 (sq_nn X.2.2.2)
  rw [← g_dotmul] at k1 k2
  have xy := Int.mul_pos hx hy
  have yz := Int.mul_pos hy hz
  have k3 := g_dotadd (P := A * (X.2.2.2 * Y.2.2.2) * Z.2.2.2) (Q := B * (Y.2.2.2 * Z.2.2.2) * X.2.2.2) (Int.mul_nonneg (Int.mul_nonneg hA (by omega)) (by omega)) (Int.mul_nonneg (Int.mul_nonneg hB (by omega)) (by omega)) (Int.le_trans k1 (by grind)) (Int.le_trans k2 (by grind))
  rw [← id, g_dotmul] at k3
  refine g_cancel (Int.mul_pos hy hy) (Int.le_trans k3 ?_)
  grind
theorem g_mono {X Y : V4} {A B : Int} (hx : 0 < X.2.2.2) (hy : 0 < Y.2.2.2) (hA : 0 ≤ A) (hAB : A ≤ B) (h : Nr X Y A) : Nr X Y B := by
  have xy := Int.mul_pos hx hy
  exact Int.le_trans h (g_sqle (Int.mul_nonneg hA (by omega)) (g_mle hAB (by omega)))
theorem g_awaysc (a b : Int) (X Y : V4) : g_away (sc4 a X) (sc4 b Y) = mulv (g_away X Y) (a * b) := by
  unfold g_away sc4 mulv
  dsimp only
  ext <;> dsimp only <;> grind
theorem g_sc {X Y : V4} {a b A : Int} (ha : 0 < a) (hb : 0 < b) (h : Nr (sc4 a X) (sc4 b Y) A) : Nr X Y A := by
  unfold Nr at *
  rw [g_awaysc, g_dotmul] at h
  have k := Int.mul_pos ha hb
  refine g_cancel (Int.mul_pos k k) (Int.le_trans h ?_)
  unfold sc4
  dsimp only
  grind
theorem g_lsc {X : V4} {a A : Int} (ha : 0 < a) (h : Ln (sc4 a X) A) : Ln X A := by
  unfold Ln at *
  have e : g_vec (sc4 a X) = mulv (g_vec X) a := by
    unfold g_vec sc4 mulv
    dsimp only
    ext <;> dsimp only <;> grind
  rw [e, g_dotmul] at h
  refine g_cancel (Int.mul_pos ha ha) (Int.le_trans h ?_)
  unfold sc4
  dsimp only
  grind
theorem g_add {X Y P Q : V4} {A B : Int} (hx : 0 < X.2.2.2) (hy : 0 < Y.2.2.2) (hp : 0 < P.2.2.2) (hq : 0 < Q.2.2.2) (hA : 0 ≤ A) (hB : 0 ≤ B) (h1 : Nr X Y A) (h2 : Nr P Q B) : Nr (addP X P) (addP Y Q) (A + B) := by
  unfold Nr at *
  have id : g_away (addP X P) (addP Y Q) = addv (mulv (g_away X Y) (P.2.2.2 * Q.2.2.2)) (mulv (g_away P Q) (X.2.2.2 * Y.2.2.2)) := by
    unfold mulv addv g_away addP
    dsimp only
    ext <;> dsimp only <;> grind
  have k1 := g_mle h1 (sq_nn (P.2.2.2 * Q.2.2.2))
  have k2 := g_mle h2 (sq_nn (X.2.2.2 * Y.2.2.2))
  rw [← g_dotmul] at k1 k2
  have xy := Int.mul_pos hx hy
  have pq := Int.mul_pos hp hq
  have k3 := g_dotadd (P := A * (X.2.2.2 * Y.2.2.2) * (P.2.2.2 * Q.2.2.2)) (Q := B * (P.2.2.2 * Q.2.2.2) * (X.2.2.2 * Y.2.2.2)) (Int.mul_nonneg (Int.mul_nonneg hA (by omega)) (by omega)) (Int.mul_nonneg (Int.mul_nonneg hB (by omega)) (by omega)) (Int.le_trans k1 (by grind)) (Int.le_trans k2 (by grind))
  rw [id]
  refine Int.le_trans k3 ?_
  unfold addP
  dsimp only
  grind
theorem g_ladd {X P : V4} {A B : Int} (hx : 0 < X.2.2.2) (hp : 0 < P.2.2.2) (hA : 0 ≤ A) (hB : 0 ≤ B) (h1 : Ln X A) (h2 : Ln P B) : Ln (addP X P) (A + B) := by
  unfold Ln at *
  have id : g_vec (addP X P) = addv (mulv (g_vec X) P.2.2.2) (mulv (g_vec P) X.2.2.2) := by
    unfold mulv addv g_vec addP
    rfl
  have k1 := g_mle h1 (sq_nn P.2.2.2)
  have k2 := g_mle h2 (sq_nn X.2.2.2)
  rw [← g_dotmul] at k1 k2
  have k3 := g_dotadd (P := A * X.2.2.2 * P.2.2.2) (Q := B * P.2.2.2 * X.2.2.2) (Int.mul_nonneg (Int.mul_nonneg hA (by omega)) (by omega)) (Int.mul_nonneg (Int.mul_nonneg hB (by omega)) (by omega)) (Int.le_trans k1 (by grind)) (Int.le_trans k2 (by grind))
  rw [id]
  refine Int.le_trans k3 ?_
  unfold addP
  dsimp only
  grind
theorem g_sa (o u : Int) : (u * u - o * o) * (u * u - o * o) + 2 * o * u * (2 * o * u) = (u * u + o * o) * (u * u + o * o) := by grind
theorem g_turn {ax o u : Int} {X Y : V4} {A : Int} (h : Nr X Y A) : Nr (turnP ax o u X) (turnP ax o u Y) A := by
  unfold Nr at *
  have id := g_sa o u
  have key : dotv (g_away (turnP ax o u X) (turnP ax o u Y)) (g_away (turnP ax o u X) (turnP ax o u Y)) = dotv (g_away X Y) (g_away X Y) * ((u * u + o * o) * (u * u + o * o) * ((u * u + o * o) * (u * u + o * o))) := by
    unfold turnP g_away dotv
    split
    · dsimp only
      generalize u * u + o * o = W at *
      generalize u * u - o * o = S at *
      generalize 2 * o * u = T at *
      rw [← id]
      have e : W * W = S * S + T * T := id.symm
      grind
    · split
      · dsimp only
        generalize u * u + o * o = W at *
        generalize u * u - o * o = S at *
        generalize 2 * o * u = T at *
        rw [← id]
        have e : W * W = S * S + T * T := id.symm
        grind
      · dsimp only
        generalize u * u + o * o = W at *
        generalize u * u - o * o = S at *
        generalize 2 * o * u = T at *
        rw [← id]
        have e : W * W = S * S + T * T := id.symm
        grind
  have hw : ∀ Z : V4, (turnP ax o u Z).2.2.2 = Z.2.2.2 * (u * u + o * o) := fun Z => by
    unfold turnP
    split
    · rfl
    · split <;> rfl
  rw [key, hw, hw]
  have k := g_mle h (sq_nn ((u * u + o * o) * (u * u + o * o)))
  refine Int.le_trans k ?_
  grind
theorem g_lturn {ax o u : Int} {X : V4} {A : Int} (h : Ln X A) : Ln (turnP ax o u X) A := by
  unfold Ln at *
  have id := g_sa o u
  have key : dotv (g_vec (turnP ax o u X)) (g_vec (turnP ax o u X)) = dotv (g_vec X) (g_vec X) * ((u * u + o * o) * (u * u + o * o)) := by
    unfold turnP g_vec dotv
    split
    · dsimp only
      grind
    · split
      · dsimp only
        grind
      · dsimp only
        grind
  have hw : (turnP ax o u X).2.2.2 = X.2.2.2 * (u * u + o * o) := by
    unfold turnP
    split
    · rfl
    · split <;> rfl
  rw [key, hw]
  have k := g_mle h (sq_nn (u * u + o * o))
  refine Int.le_trans k ?_
  grind
theorem g_chordid (u o p : Int) : ((u * u - o * o) * (u * u + p * p) - (u * u - p * p) * (u * u + o * o)) * ((u * u - o * o) * (u * u + p * p) - (u * u - p * p) * (u * u + o * o)) + (2 * o * u * (u * u + p * p) - 2 * p * u * (u * u + o * o)) * (2 * o * u * (u * u + p * p) - 2 * p * u * (u * u + o * o)) = 4 * ((o - p) * (o - p)) * (u * u) * ((u * u + o * o) * (u * u + p * p)) := by grind
theorem g_fin {w N D2 U V L K : Int} (hN : 0 ≤ N) (hD : 0 ≤ D2) (hU : 0 ≤ U) (hUV : U * U ≤ V) (h1 : N ≤ L * w * (L * w)) (h2 : 4 * D2 * (L * L) ≤ K * K * U) : w * w * (N * (4 * D2 * U * V)) ≤ K * (w * w * V) * (K * (w * w * V)) := by
  have hV : 0 ≤ V := Int.le_trans (Int.mul_nonneg hU hU) hUV
  have m1 := g_mle h1 (show 0 ≤ w * w * (4 * D2 * U * V) from Int.mul_nonneg (sq_nn w) (Int.mul_nonneg (Int.mul_nonneg (by omega) hU) hV))
  have m2 := g_mle h2 (show 0 ≤ w * w * (w * w) * U * V from Int.mul_nonneg (Int.mul_nonneg (Int.mul_nonneg (sq_nn w) (sq_nn w)) hU) hV)
  have m3 := g_mle hUV (show 0 ≤ K * K * (w * w * (w * w)) * V from Int.mul_nonneg (Int.mul_nonneg (sq_nn K) (Int.mul_nonneg (sq_nn w) (sq_nn w))) hV)
  have e1 : N * (w * w * (4 * D2 * U * V)) = w * w * (N * (4 * D2 * U * V)) := by grind
  have e2 : L * w * (L * w) * (w * w * (4 * D2 * U * V)) = 4 * D2 * (L * L) * (w * w * (w * w) * U * V) := by grind
  have e3 : K * K * U * (w * w * (w * w) * U * V) = U * U * (K * K * (w * w * (w * w)) * V) := by grind
  have e4 : V * (K * K * (w * w * (w * w)) * V) = K * (w * w * V) * (K * (w * w * V)) := by grind
  rw [e1, e2] at m1
  rw [e3] at m2
  rw [e4] at m3
  exact Int.le_trans m1 (Int.le_trans m2 m3)
theorem g_chord {ax o u p : Int} {X : V4} {L K : Int} (hL : Ln X L) (h : 4 * ((o - p) * (o - p)) * (L * L) ≤ K * K * (u * u)) : Nr (turnP ax o u X) (turnP ax p u X) K := by
  unfold Nr Ln at *
  obtain ⟨x, y, z, w⟩ := X
  have ci := g_chordid u o p
  have q := fun a : Int => sq_nn a
  have hUW : (u * u) * (u * u) ≤ (u * u + o * o) * (u * u + p * p) := Int.mul_le_mul (by have := q o; omega) (by have := q p; omega) (q u) (by have := q u; have := q o; omega)
  have hL : x * x + y * y + z * z ≤ L * w * (L * w) := hL
  have key : ∀ (N A B : Int), 0 ≤ N → N ≤ L * w * (L * w) → A * A + B * B = 4 * ((o - p) * (o - p)) * (u * u) * ((u * u + o * o) * (u * u + p * p)) → w * w * (N * (A * A + B * B)) ≤ K * (w * w * ((u * u + o * o) * (u * u + p * p))) * (K * (w * w * ((u * u + o * o) * (u * u + p * p)))) := fun N A B hN hX e => by
    rw [e]
    exact g_fin hN (q (o - p)) (q u) hUW hX h
  have n1 : 0 ≤ y * y + z * z ∧ y * y + z * z ≤ L * w * (L * w) := by have := q x; have := q y; have := q z; omega
  have n2 : 0 ≤ x * x + z * z ∧ x * x + z * z ≤ L * w * (L * w) := by have := q x; have := q y; have := q z; omega
  have n3 : 0 ≤ x * x + y * y ∧ x * x + y * y ≤ L * w * (L * w) := by have := q x; have := q y; have := q z; omega
  unfold turnP
  split
  · have k := key _ _ _ n1.1 n1.2 ci
    unfold g_away dotv
    dsimp only
    generalize u * u + o * o = w1 at *
    generalize u * u + p * p = w2 at *
    generalize u * u - o * o = s1 at *
    generalize u * u - p * p = s2 at *
    generalize 2 * o * u = a1 at *
    generalize 2 * p * u = a2 at *
    have e1 : (x * w1 * (w * w2) - x * w2 * (w * w1)) * (x * w1 * (w * w2) - x * w2 * (w * w1)) + ((y * s1 - z * a1) * (w * w2) - (y * s2 - z * a2) * (w * w1)) * ((y * s1 - z * a1) * (w * w2) - (y * s2 - z * a2) * (w * w1)) + ((y * a1 + z * s1) * (w * w2) - (y * a2 + z * s2) * (w * w1)) * ((y * a1 + z * s1) * (w * w2) - (y * a2 + z * s2) * (w * w1)) = w * w * ((y * y + z * z) * ((s1 * w2 - s2 * w1) * (s1 * w2 - s2 * w1) + (a1 * w2 - a2 * w1) * (a1 * w2 - a2 * w1))) := by grind
    have e2 : K * (w * w1 * (w * w2)) * (K * (w * w1 * (w * w2))) = K * (w * w * (w1 * w2)) * (K * (w * w * (w1 * w2))) := by grind
    rw [e1, e2]
    exact k
  · split
    · have k := key _ _ _ n2.1 n2.2 ci
      unfold g_away dotv
      dsimp only
      generalize u * u + o * o = w1 at *
      generalize u * u + p * p = w2 at *
      generalize u * u - o * o = s1 at *
      generalize u * u - p * p = s2 at *
      generalize 2 * o * u = a1 at *
      generalize 2 * p * u = a2 at *
      have e1 : ((z * a1 + x * s1) * (w * w2) - (z * a2 + x * s2) * (w * w1)) * ((z * a1 + x * s1) * (w * w2) - (z * a2 + x * s2) * (w * w1)) + (y * w1 * (w * w2) - y * w2 * (w * w1)) * (y * w1 * (w * w2) - y * w2 * (w * w1)) + ((z * s1 - x * a1) * (w * w2) - (z * s2 - x * a2) * (w * w1)) * ((z * s1 - x * a1) * (w * w2) - (z * s2 - x * a2) * (w * w1)) = w * w * ((x * x + z * z) * ((s1 * w2 - s2 * w1) * (s1 * w2 - s2 * w1) + (a1 * w2 - a2 * w1) * (a1 * w2 - a2 * w1))) := by grind
      have e2 : K * (w * w1 * (w * w2)) * (K * (w * w1 * (w * w2))) = K * (w * w * (w1 * w2)) * (K * (w * w * (w1 * w2))) := by grind
      rw [e1, e2]
      exact k
    · have k := key _ _ _ n3.1 n3.2 ci
      unfold g_away dotv
      dsimp only
      generalize u * u + o * o = w1 at *
      generalize u * u + p * p = w2 at *
      generalize u * u - o * o = s1 at *
      generalize u * u - p * p = s2 at *
      generalize 2 * o * u = a1 at *
      generalize 2 * p * u = a2 at *
      have e1 : ((x * s1 - y * a1) * (w * w2) - (x * s2 - y * a2) * (w * w1)) * ((x * s1 - y * a1) * (w * w2) - (x * s2 - y * a2) * (w * w1)) + ((x * a1 + y * s1) * (w * w2) - (x * a2 + y * s2) * (w * w1)) * ((x * a1 + y * s1) * (w * w2) - (x * a2 + y * s2) * (w * w1)) + (z * w1 * (w * w2) - z * w2 * (w * w1)) * (z * w1 * (w * w2) - z * w2 * (w * w1)) = w * w * ((x * x + y * y) * ((s1 * w2 - s2 * w1) * (s1 * w2 - s2 * w1) + (a1 * w2 - a2 * w1) * (a1 * w2 - a2 * w1))) := by grind
      have e2 : K * (w * w1 * (w * w2)) * (K * (w * w1 * (w * w2))) = K * (w * w * (w1 * w2)) * (K * (w * w * (w1 * w2))) := by grind
      rw [e1, e2]
      exact k
theorem g_hom (ax o u k : Int) (X : V4) : turnP ax (k * o) (k * u) X = sc4 (k * k) (turnP ax o u X) := by
  unfold turnP sc4
  split
  · dsimp only
    ext <;> dsimp only <;> grind
  · split
    · dsimp only
      ext <;> dsimp only <;> grind
    · dsimp only
      ext <;> dsimp only <;> grind
/-- a length along an axis, as a place -/
def axq (ax o u : Int) : V4 := if ax = 0 then (o, 0, 0, u) else if ax = 1 then (0, o, 0, u) else (0, 0, o, u)
theorem shift_add (ax o u : Int) (X : V4) : shiftP ax o u X = addP X (axq ax o u) := by
  unfold shiftP axq addP
  split
  · ext <;> dsimp only <;> grind
  · split
    · ext <;> dsimp only <;> grind
    · ext <;> dsimp only <;> grind
theorem axq_w (ax o u : Int) : (axq ax o u).2.2.2 = u := by
  unfold axq
  split
  · rfl
  · split <;> rfl
theorem axq_near {ax o u p v A : Int} (h : (o * v - p * u) * (o * v - p * u) ≤ A * (u * v) * (A * (u * v))) : Nr (axq ax o u) (axq ax p v) A := by
  unfold Nr axq g_away dotv
  split
  · dsimp only
    refine Int.le_trans (Int.le_of_eq ?_) h
    grind
  · split
    · dsimp only
      refine Int.le_trans (Int.le_of_eq ?_) h
      grind
    · dsimp only
      refine Int.le_trans (Int.le_of_eq ?_) h
      grind
theorem axq_len {ax o u A : Int} (h : o * o ≤ A * u * (A * u)) : Ln (axq ax o u) A := by
  unfold Ln axq g_vec dotv
  split
  · dsimp only
    omega
  · split
    · dsimp only
      omega
    · dsimp only
      omega
/-- what holds of a joint: its true value v, the value m of the spot, what is not known of it, its true offset -/
structure StepOk (j : Joint) (v : Int × Int) (m h : Int) (q : V4) : Prop where
  jo : JOk j
  vo : VOk v
  qo : OOk q
  h0 : 0 ≤ h
  off : v.1 - v.2 * m ≤ (h + j.error) * v.2 ∧ -((h + j.error) * v.2) ≤ v.1 - v.2 * m
  reach : v.1 ≤ (max (j.least.natAbs : Int) (j.most.natAbs : Int) + j.error) * v.2 ∧ -((max (j.least.natAbs : Int) (j.most.natAbs : Int) + j.error) * v.2) ≤ v.1
  near : Nr q (j.offset.1, j.offset.2.1, j.offset.2.2, 1) (2 * j.box)
  len : Ln q (lu j.offset + 2 * j.box)
theorem abs_sq {a b : Int} (h1 : a ≤ b) (h2 : -b ≤ a) : a * a ≤ b * b := by
  rcases Int.le_total 0 a with q | q
  · exact g_sqle q h1
  · have := g_sqle (show 0 ≤ -a by omega) (show -a ≤ b by omega)
    grind
theorem step_near {j : Joint} {v : Int × Int} {m h : Int} {q X Y : V4} {s : Int × Int} (k : StepOk j v m h q) (hx : 0 < X.2.2.2) (hy : 0 < Y.2.2.2) (h1 : Nr X Y (s.1 - 2)) (h2 : Ln X s.2) (h3 : 2 ≤ s.1) (h4 : 0 ≤ s.2) :
    Nr (stepP j v q X) (stepP j (m, 1) (j.offset.1, j.offset.2.1, j.offset.2.2, 1) Y) ((ustep j h s).1 - 2) ∧ Ln (stepP j v q X) (ustep j h s).2 ∧ 2 ≤ (ustep j h s).1 ∧ 0 ≤ (ustep j h s).2 := by
  obtain ⟨jo, vo, qo, hh, off, reach, near, len⟩ := k
  have vp := vo.pos
  have qp := qo.pos
  have er := jo.err
  have bx := jo.box
  have lz := jo.szs.1
  haveI := lz
  have l0 := (lu_ok (v := j.offset) (m := 23)).2.1
  have turn_w : ∀ (ax o u : Int) (Z : V4), (turnP ax o u Z).2.2.2 = Z.2.2.2 * (u * u + o * o) := fun ax o u Z => by
    unfold turnP
    split
    · rfl
    · split <;> rfl
  have E0 : 0 ≤ h + j.error := by omega
  unfold stepP ustep
  dsimp only
  cases hb : j.turns with
  | true =>
    rw [if_pos rfl, if_pos rfl, if_pos rfl]
    dsimp only
    have up := (up_spec (n := 2 * s.2 * (h + j.error)) (d := 1000000) (by decide)).2
    have K0 : 0 ≤ -((-(2 * s.2 * (h + j.error))) / 1000000) := by
      have := Int.mul_nonneg (show 0 ≤ 2 * s.2 by omega) E0
      omega
    generalize -((-(2 * s.2 * (h + j.error))) / 1000000) = K at *
    have dsq := abs_sq off.1 off.2
    have hyp : 4 * ((v.1 - v.2 * m) * (v.1 - v.2 * m)) * (s.2 * s.2) ≤ K * K * (v.2 * 1000000 * (v.2 * 1000000)) := by
      have m1 := g_mle dsq (show 0 ≤ 4 * (s.2 * s.2) from Int.mul_nonneg (by decide) (sq_nn _))
      have m2 := g_mle (g_sqle (Int.mul_nonneg (show 0 ≤ 2 * s.2 by omega) E0) up) (sq_nn v.2)
      have e1 : 4 * ((v.1 - v.2 * m) * (v.1 - v.2 * m)) * (s.2 * s.2) = (v.1 - v.2 * m) * (v.1 - v.2 * m) * (4 * (s.2 * s.2)) := by grind
      have e2 : (h + j.error) * v.2 * ((h + j.error) * v.2) * (4 * (s.2 * s.2)) = 2 * s.2 * (h + j.error) * (2 * s.2 * (h + j.error)) * (v.2 * v.2) := by grind
      have e3 : K * 1000000 * (K * 1000000) * (v.2 * v.2) = K * K * (v.2 * 1000000 * (v.2 * 1000000)) := by grind
      rw [e1]
      rw [e2] at m1
      rw [e3] at m2
      exact Int.le_trans m1 m2
    have n1 := g_chord (ax := j.axis) (o := v.1) (u := v.2 * 1000000) (p := v.2 * m) (X := X) (K := K) h2 hyp
    have e4 : v.2 * 1000000 = v.2 * (1 * 1000000) := by omega
    rw [show turnP j.axis (v.2 * m) (v.2 * 1000000) X = sc4 (v.2 * v.2) (turnP j.axis m (1 * 1000000) X) from by rw [e4]; exact g_hom _ _ _ _ _] at n1
    rw [← sc4_one (turnP j.axis v.1 (v.2 * 1000000) X)] at n1
    have n2 := g_sc (by decide) (Int.mul_pos vp vp) n1
    have n3 := g_turn (ax := j.axis) (o := m) (u := 1 * 1000000) h1
    have w1 : 0 < (turnP j.axis v.1 (v.2 * 1000000) X).2.2.2 := by rw [turn_w]; exact Int.mul_pos hx (sq_pos (by omega) _)
    have w2 : 0 < (turnP j.axis m (1 * 1000000) X).2.2.2 := by rw [turn_w]; exact Int.mul_pos hx (sq_pos (by decide) _)
    have w3 : 0 < (turnP j.axis m (1 * 1000000) Y).2.2.2 := by rw [turn_w]; exact Int.mul_pos hy (sq_pos (by decide) _)
    have n4 := g_tri w1 w2 w3 K0 (by omega) n2 n3
    have n5 := g_add w1 w3 qp (show (0 : Int) < 1 by decide) (by omega) (by omega) n4 near
    have n6 := g_ladd w1 qp h4 (by omega) (g_lturn (ax := j.axis) (o := v.1) (u := v.2 * 1000000) h2) len
    refine ⟨?_, ?_, by omega, by omega⟩
    · rw [show s.1 + K + 2 * j.box - 2 = K + (s.1 - 2) + 2 * j.box by omega]
      exact n5
    · rw [show s.2 + lu j.offset + 2 * j.box = s.2 + (lu j.offset + 2 * j.box) by omega]
      exact n6
  | false =>
    have ff : ¬ (false = true) := by decide
    rw [if_neg ff, if_neg ff, if_neg ff, shift_add, shift_add]
    dsimp only
    have a1 : Nr (axq j.axis v.1 v.2) (axq j.axis m 1) (h + j.error) := axq_near (by
      have := abs_sq off.1 off.2
      rw [show v.1 * 1 - m * v.2 = v.1 - v.2 * m by grind, Int.mul_one]
      exact this)
    have M0 : 0 ≤ max (j.least.natAbs : Int) (j.most.natAbs : Int) + j.error := by omega
    have a2 : Ln (axq j.axis v.1 v.2) (max (j.least.natAbs : Int) (j.most.natAbs : Int) + j.error) := axq_len (abs_sq reach.1 reach.2)
    have v1 : 0 < (axq j.axis v.1 v.2).2.2.2 := by rw [axq_w]; exact vp
    have v2 : 0 < (axq j.axis m 1).2.2.2 := by rw [axq_w]; decide
    have n1 := g_add hx hy v1 v2 (by omega) E0 h1 a1
    have w1 : 0 < (addP X (axq j.axis v.1 v.2)).2.2.2 := Int.mul_pos hx v1
    have w2 : 0 < (addP Y (axq j.axis m 1)).2.2.2 := Int.mul_pos hy v2
    have n5 := g_add w1 w2 qp (show (0 : Int) < 1 by decide) (by omega) (by omega) n1 near
    have n6 := g_ladd w1 qp (by omega) (by omega) (g_ladd hx v1 h4 M0 h2 a2) len
    refine ⟨?_, ?_, by omega, by omega⟩
    · rw [show s.1 + (h + j.error) + 2 * j.box - 2 = s.1 - 2 + (h + j.error) + 2 * j.box by omega]
      exact n5
    · rw [show s.2 + max (j.least.natAbs : Int) (j.most.natAbs : Int) + j.error + lu j.offset + 2 * j.box = s.2 + (max (j.least.natAbs : Int) (j.most.natAbs : Int) + j.error) + (lu j.offset + 2 * j.box) by omega]
      exact n6
/-- true places are within what is not known of the spots -/
theorem near_all {js : List Joint} {vs : List (Int × Int)} {row hs : List Int} {os : List V4} {link : Nat} {pt a b : V3} (hlink : link ≤ js.length) (h1 : vs.length = js.length) (h2 : row.length = js.length) (h3 : hs.length = js.length) (h4 : os.length = js.length)
    (ok : ∀ (k : Nat) j v m h q, js[k]? = some j → vs[k]? = some v → row[k]? = some m → hs[k]? = some h → os[k]? = some q → StepOk j v m h q) [Szv a 30] [Szv b 30] (hpt : pt = a ∨ pt = b) : ∀ i, i ≤ link →
    Nr (placeP js vs os link pt i) (placeP js (vals1 row) (offs1 js) link pt i) ((ust js hs link a b i).1 - 2) ∧ Ln (placeP js vs os link pt i) (ust js hs link a b i).2 ∧ 2 ≤ (ust js hs link a b i).1 ∧ 0 ≤ (ust js hs link a b i).2 ∧ 0 < (placeP js vs os link pt i).2.2.2 ∧ 0 < (placeP js (vals1 row) (offs1 js) link pt i).2.2.2
  | 0, _ => by
    obtain ⟨_, a0, a1, _⟩ := lu_ok (v := a) (m := 30)
    obtain ⟨_, b0, b1, _⟩ := lu_ok (v := b) (m := 30)
    refine ⟨?_, ?_, Int.le_refl _, ?_, by show (0 : Int) < 1; decide, by show (0 : Int) < 1; decide⟩
    · exact g_self _
    · show dotv pt pt ≤ max (lu a) (lu b) * 1 * (max (lu a) (lu b) * 1)
      rw [Int.mul_one]
      rcases hpt with rfl | rfl
      · exact Int.le_trans a1 (g_sqle a0 (by omega))
      · exact Int.le_trans b1 (g_sqle b0 (by omega))
    · show 0 ≤ max (lu a) (lu b)
      omega
  | i + 1, hi => by
    obtain ⟨n1, n2, n3, n4, n5, n6⟩ := near_all hlink h1 h2 h3 h4 ok hpt i (by omega)
    have e0 : js[link - 1 - i]? = some (js[link - 1 - i]'(by omega)) := List.getElem?_eq_getElem (by omega)
    have e1 : vs[link - 1 - i]? = some (vs[link - 1 - i]'(by omega)) := List.getElem?_eq_getElem (by omega)
    have e2 : row[link - 1 - i]? = some (row[link - 1 - i]'(by omega)) := List.getElem?_eq_getElem (by omega)
    have e3 : hs[link - 1 - i]? = some (hs[link - 1 - i]'(by omega)) := List.getElem?_eq_getElem (by omega)
    have e4 : os[link - 1 - i]? = some (os[link - 1 - i]'(by omega)) := List.getElem?_eq_getElem (by omega)
    have k := ok _ _ _ _ _ _ e0 e1 e2 e3 e4
    have f1 : (vals1 row)[link - 1 - i]? = some ((row[link - 1 - i]'(by omega)), 1) := by unfold vals1; rw [List.getElem?_map, e2]; rfl
    have f2 : (offs1 js)[link - 1 - i]? = some ((js[link - 1 - i]'(by omega)).offset.1, (js[link - 1 - i]'(by omega)).offset.2.1, (js[link - 1 - i]'(by omega)).offset.2.2, 1) := by unfold offs1; rw [List.getElem?_map, e0]; rfl
    have p1 : placeP js vs os link pt (i + 1) = redP (stepP (js[link - 1 - i]'(by omega)) (vs[link - 1 - i]'(by omega)) (os[link - 1 - i]'(by omega)) (placeP js vs os link pt i)) := by
      show onO _ js[link - 1 - i]? vs[link - 1 - i]? os[link - 1 - i]? _ = _
      rw [e0, e1, e4]
      rfl
    have p2 : placeP js (vals1 row) (offs1 js) link pt (i + 1) = redP (stepP (js[link - 1 - i]'(by omega)) ((row[link - 1 - i]'(by omega)), 1) ((js[link - 1 - i]'(by omega)).offset.1, (js[link - 1 - i]'(by omega)).offset.2.1, (js[link - 1 - i]'(by omega)).offset.2.2, 1) (placeP js (vals1 row) (offs1 js) link pt i)) := by
      show onO _ js[link - 1 - i]? (vals1 row)[link - 1 - i]? (offs1 js)[link - 1 - i]? _ = _
      rw [e0, f1, f2]
      rfl
    have p3 : ust js hs link a b (i + 1) = ustep (js[link - 1 - i]'(by omega)) (hs[link - 1 - i]'(by omega)) (ust js hs link a b i) := by
      show ustepO js[link - 1 - i]? hs[link - 1 - i]? _ = _
      rw [e0, e3]
      rfl
    rw [p1, p2, p3]
    obtain ⟨r1, r2, r3, r4⟩ := step_near k n5 n6 n1 n2 n3 n4
    have w1 : 0 < (stepP (js[link - 1 - i]'(by omega)) (vs[link - 1 - i]'(by omega)) (os[link - 1 - i]'(by omega)) (placeP js vs os link pt i)).2.2.2 := stepP_pos k.vo k.qo n5
    have w2 : 0 < (stepP (js[link - 1 - i]'(by omega)) ((row[link - 1 - i]'(by omega)), 1) ((js[link - 1 - i]'(by omega)).offset.1, (js[link - 1 - i]'(by omega)).offset.2.1, (js[link - 1 - i]'(by omega)).offset.2.2, 1) (placeP js (vals1 row) (offs1 js) link pt i)).2.2.2 := by
      unfold stepP addP
      dsimp only
      rw [Int.mul_one]
      split
      · have turn_w : ∀ (ax o u : Int) (Z : V4), (turnP ax o u Z).2.2.2 = Z.2.2.2 * (u * u + o * o) := fun ax o u Z => by
          unfold turnP
          split
          · rfl
          · split <;> rfl
        rw [turn_w]
        exact Int.mul_pos n6 (sq_pos (by decide) _)
      · rw [shift_add]
        show 0 < _ * (axq _ _ _).2.2.2
        rw [axq_w, Int.mul_one]
        exact n6
    generalize stepP (js[link - 1 - i]'(by omega)) (vs[link - 1 - i]'(by omega)) (os[link - 1 - i]'(by omega)) (placeP js vs os link pt i) = X at *
    generalize stepP (js[link - 1 - i]'(by omega)) ((row[link - 1 - i]'(by omega)), 1) ((js[link - 1 - i]'(by omega)).offset.1, (js[link - 1 - i]'(by omega)).offset.2.1, (js[link - 1 - i]'(by omega)).offset.2.2, 1) (placeP js (vals1 row) (offs1 js) link pt i) = Y at *
    have g1 := gN_pos w1
    have g2 := gN_pos w2
    refine ⟨g_sc (a := (gN X : Int)) (b := (gN Y : Int)) (by omega) (by omega) ?_, g_lsc (a := (gN X : Int)) (by omega) ?_, r3, r4, redP_pos w1, redP_pos w2⟩
    · rw [← redP_sc, ← redP_sc]
      exact r1
    · rw [← redP_sc]
      exact r2
theorem near_floor {Y : V4} (hy : 0 < Y.2.2.2) : Nr Y ((fl4 Y).1, (fl4 Y).2.1, (fl4 Y).2.2, 1) 2 := by
  unfold Nr g_away dotv fl4
  dsimp only
  obtain ⟨x, y, z, w⟩ := Y
  dsimp only at *
  have key : ∀ t : Int, (t * 1 - t / w * w) * (t * 1 - t / w * w) ≤ w * w := fun t => by
    have h1 := Int.emod_add_mul_ediv t w
    have h2 := Int.emod_nonneg t (show w ≠ 0 by omega)
    have h3 := Int.emod_lt_of_pos t hy
    have e : t * 1 - t / w * w = t % w := by
      rw [Int.mul_comm (t / w) w]
      omega
    rw [e]
    exact g_sqle h2 (by omega)
  have := key x
  have := key y
  have := key z
  have e : 2 * (w * 1) * (2 * (w * 1)) = 4 * (w * w) := by grind
  have := sq_nn w
  rw [e]
  omega
end G

namespace G
open PySem L2 DL
/-- rows of values within the ranges, by place -/
def Rg (js : List Joint) (row : List Int) : Prop := row.length = js.length ∧ ∀ (i : Nat) j v, js[i]? = some j → row[i]? = some v → j.least ≤ v ∧ v ≤ j.most
theorem values_rg {js : List Joint} {vs : List Int} (h : vs.length = js.length ∧ ∀ (i : Nat) (j : Joint), js[i]? = some j → ∃ v, vs[i]? = some v ∧ j.least ≤ v ∧ v ≤ j.most) : Rg js vs := ⟨h.1, fun i j v e1 e2 => by
  obtain ⟨w, ew, hw⟩ := h.2 i j e1
  rw [e2] at ew
  cases ew
  exact hw⟩
section
variable {js : List Joint} {mv : Move}
theorem rows_get (hf : Rg js mv.first) (hl : Rg js mv.last) (hj : ∀ j ∈ js, JOk j) {i : Nat} (hi : i < js.length) : ∃ j f l, js[i]? = some j ∧ mv.first[i]? = some f ∧ mv.last[i]? = some l ∧ JOk j ∧ (j.least ≤ f ∧ f ≤ j.most) ∧ (j.least ≤ l ∧ l ≤ j.most) := by
  have h1 := hf.1
  have h2 := hl.1
  have e0 : js[i]? = some (js[i]'hi) := List.getElem?_eq_getElem hi
  have e1 : mv.first[i]? = some (mv.first[i]'(by omega)) := List.getElem?_eq_getElem (by omega)
  have e2 : mv.last[i]? = some (mv.last[i]'(by omega)) := List.getElem?_eq_getElem (by omega)
  exact ⟨_, _, _, e0, e1, e2, hj _ (List.mem_of_getElem? e0), hf.2 i _ _ e0 e1, hl.2 i _ _ e0 e2⟩
theorem middle_val {d a : Int} (hj : ∀ j ∈ js, JOk j) (hn : js.length ≤ 10) (hf : Rg js mv.first) (hl : Rg js mv.last) (hd : 0 ≤ d ∧ d ≤ 60) (ha : 0 ≤ a ∧ a < 2 ^ d.toNat) : Tot (m_Move_middle mv (d, a)) fun row => row.length = js.length ∧ ∀ (i : Nat) m, row[i]? = some m → ∀ f l, mv.first[i]? = some f → mv.last[i]? = some l → m = f + (l - f) * (2 * a + 1) / 2 ^ (d + 1).toNat := by
  have f1 := hf.1
  unfold m_Move_middle
  refine t_lt (tot_rng (by omega) ?_)
  rw [f1]
  have pz : (2 : Int) ^ d.toNat ≤ 2 ^ 60 := pw_le (a := d.toNat) (b := 60) (by omega)
  haveI : Szl a 60 := szl_abs_of (B := 2 ^ 60) (by omega)
  refine t_bind (app_idx (P := fun i m => ∀ f l, mv.first[i]? = some f → mv.last[i]? = some l → m = f + (l - f) * (2 * a + 1) / 2 ^ (d + 1).toNat) fun i s hi hs => ?_) fun s hs => tot_some hs
  obtain ⟨j, f, l, e0, e1, e2, jo, r1, r2⟩ := rows_get hf hl hj hi
  have := jo.least
  have := jo.most
  haveI : Szl (l - f) 24 := szl_le (szl_abs_of (B := 20000000) (by omega)) (by decide)
  refine t_eq (at_get (n := i) rfl e2) (t_eq (at_get (n := i) rfl e1) (t_mul (t_mul (t_eq (at_get (n := i) rfl e1) (tot_shr (by show 0 ≤ d + 1; omega) (tot_app (by omega) (tot_some ⟨_, rfl, fun f' l' q1 q2 => ?_⟩)))))))
  rw [e1] at q1
  rw [e2] at q2
  cases q1
  cases q2
  rfl
theorem halves_val {d : Int} (hj : ∀ j ∈ js, JOk j) (hn : js.length ≤ 10) (hf : Rg js mv.first) (hl : Rg js mv.last) (hd : 0 ≤ d ∧ d ≤ 60) : Tot (m_Move_halves mv d) fun row => row.length = js.length ∧ ∀ (i : Nat) h, row[i]? = some h → Szl h 50 ∧ ∀ f l, mv.first[i]? = some f → mv.last[i]? = some l → h = if 0 < ((l - f).natAbs : Int) then upq ((l - f).natAbs : Int) (2 ^ (d + 1).toNat) + 1 else 0 := by
  have f1 := hf.1
  unfold m_Move_halves
  refine t_lt (tot_rng (by omega) ?_)
  rw [f1]
  have pp : (0 : Int) < 2 ^ (d + 1).toNat := pw_pos _
  have ps : lg (2 ^ (d + 1).toNat) ≤ 61 := by
    have := lg_pw (d + 1).toNat
    unfold pw at this
    omega
  haveI : Szl ((2 : Int) ^ (d + 1).toNat) 61 := ⟨ps⟩
  refine t_bind (app_idx (P := fun i h => Szl h 50 ∧ ∀ f l, mv.first[i]? = some f → mv.last[i]? = some l → h = if 0 < ((l - f).natAbs : Int) then upq ((l - f).natAbs : Int) (2 ^ (d + 1).toNat) + 1 else 0) fun i s hi hs => ?_) fun s hs => tot_some hs
  obtain ⟨j, f, l, e0, e1, e2, jo, r1, r2⟩ := rows_get hf hl hj hi
  have := jo.least
  have := jo.most
  haveI : Szl ((l - f).natAbs : Int) 30 := szl_le (szl_abs_of (B := 20000000) (by omega)) (by decide)
  refine t_eq (at_get (n := i) rfl e2) (t_eq (at_get (n := i) rfl e1) (t_lt ?_))
  refine t_bind (P := fun h => h = if 0 < ((l - f).natAbs : Int) then upq ((l - f).natAbs : Int) (2 ^ (d + 1).toNat) + 1 else 0) ?_ fun h hh => tot_app (by omega) (tot_some ⟨h, rfl, ?_, fun f' l' q1 q2 => ?_⟩)
  · by_cases hp : 0 < ((l - f).natAbs : Int)
    · rw [if_pos hp]
      refine t_yes (decide_eq_true hp) (tot_shl ⟨by omega, by omega, by decide⟩ ?_)
      have e : (1 : Int) * 2 ^ (d + 1).toNat = 2 ^ (d + 1).toNat := Int.one_mul _
      rw [e]
      exact t_eq (divide_up_eq pp) (tot_some rfl)
    · rw [if_neg hp]
      exact t_no (decide_eq_false hp) (tot_some rfl)
  · rw [hh]
    split
    · exact szl_le (inferInstance : Szl (upq ((l - f).natAbs : Int) (2 ^ (d + 1).toNat) + 1) _) (by decide)
    · exact ⟨by decide⟩
  · rw [e1] at q1
    rw [e2] at q2
    cases q1
    cases q2
    exact hh
theorem meant_val {p1 p2 r : Int} (hj : ∀ j ∈ js, JOk j) (hn : js.length ≤ 10) (hf : Rg js mv.first) (hl : Rg js mv.last) (hr : Cell r) (h2 : 0 < p2 ∧ p2 ≤ 1000) (h1 : 0 ≤ p1 ∧ p1 ≤ p2) : Tot (m__law_meant js mv.first mv.last (p1, p2) r) fun vs => vs.length = js.length ∧ ∀ (i : Nat) v, vs[i]? = some v → VOk v ∧ v.2 = p2 ∧ ∀ j f l, js[i]? = some j → mv.first[i]? = some f → mv.last[i]? = some l → ∃ e, -j.error ≤ e ∧ e ≤ j.error ∧ v.1 = (f + e) * p2 + (l - f) * p1 := by
  unfold m__law_meant
  haveI := hr.sz
  refine t_lt (tot_rng (by omega) ?_)
  haveI : Szl p1 10 := szl_le (szl_abs_of (B := 1000) (by omega)) (by decide)
  haveI : Szl p2 10 := szl_le (szl_abs_of (B := 1000) (by omega)) (by decide)
  refine t_bind (app_idx (P := fun i v => VOk v ∧ v.2 = p2 ∧ ∀ j f l, js[i]? = some j → mv.first[i]? = some f → mv.last[i]? = some l → ∃ e, -j.error ≤ e ∧ e ≤ j.error ∧ v.1 = (f + e) * p2 + (l - f) * p1) fun i s hi hs => ?_) fun s hs => tot_some hs
  obtain ⟨j, f, l, e0, e1, e2, jo, r1, r2⟩ := rows_get hf hl hj hi
  have := jo.least
  have := jo.most
  have er := jo.err
  obtain ⟨z1, z2, z3, z4, z5⟩ := jo.szs
  haveI := z5
  haveI : Szl (l - f) 24 := szl_le (szl_abs_of (B := 20000000) (by omega)) (by decide)
  haveI : Szl ((i : Int) + 2) 10 := szl_le (szl_abs_of (B := 100) (by omega)) (by decide)
  refine t_div (by omega) (t_eq (at_get (n := i) rfl e0) (t_mul (t_mod (by omega) fun x _ x0 x1 _ => t_eq (at_get (n := i) rfl e0) (t_lt ?_))))
  haveI : Szl (f + (x - j.error)) 24 := szl_le (szl_abs_of (B := 20000000) (by omega)) (by decide)
  refine t_eq (at_get (n := i) rfl e1) (t_mul (t_eq (at_get (n := i) rfl e2) (t_eq (at_get (n := i) rfl e1) (t_mul (t_lt (tot_app (by omega) (tot_some ⟨_, rfl, ⟨h2.1, ?_, ?_⟩, rfl, fun j' f' l' q0 q1 q2 => ?_⟩)))))))
  · exact szl_le (inferInstance : Szl ((f + (x - j.error)) * p2 + (l - f) * p1) _) (by decide)
  · exact szl_le (inferInstance : Szl p2 10) (by decide)
  · rw [e0] at q0
    rw [e1] at q1
    rw [e2] at q2
    cases q0
    cases q1
    cases q2
    exact ⟨x - j.error, by omega, by omega, rfl⟩
end
theorem offsets_val {js : List Joint} {r : Int} (hj : ∀ j ∈ js, JOk j) (hn : js.length ≤ 10) (hr : Cell r) : Tot (m__law_offsets js r) fun os => os.length = js.length ∧ ∀ (i : Nat) q, os[i]? = some q → ∀ j, js[i]? = some j → ∃ x y z : Int, (-j.box ≤ x ∧ x ≤ j.box) ∧ (-j.box ≤ y ∧ y ≤ j.box) ∧ (-j.box ≤ z ∧ z ≤ j.box) ∧ q = (j.offset.1 + x, j.offset.2.1 + y, j.offset.2.2 + z, 1) := by
  unfold m__law_offsets
  haveI := hr.sz
  refine t_lt (tot_rng (by omega) ?_)
  refine t_bind (app_idx (P := fun i q => ∀ j, js[i]? = some j → ∃ x y z : Int, (-j.box ≤ x ∧ x ≤ j.box) ∧ (-j.box ≤ y ∧ y ≤ j.box) ∧ (-j.box ≤ z ∧ z ≤ j.box) ∧ q = (j.offset.1 + x, j.offset.2.1 + y, j.offset.2.2 + z, 1)) fun i s hi hs => ?_) fun s hs => tot_some hs
  have e0 : js[i]? = some (js[i]'hi) := List.getElem?_eq_getElem hi
  have jo := hj _ (List.mem_of_getElem? e0)
  generalize js[i]'hi = j at *
  have bx := jo.box
  obtain ⟨z1, z2, z3, z4, z5⟩ := jo.szs
  haveI := z4
  haveI : Szl (i : Int) 10 := szl_le (szl_abs_of (B := 100) (by omega)) (by decide)
  have a0 := at_get (i := (i : Int)) (n := i) rfl e0
  haveI d1 : Szl (7 * (i : Int) + 0 + 1) 20 := szl_le inferInstance (by decide)
  haveI d2 : Szl (7 * (i : Int) + 1 + 1) 20 := szl_le inferInstance (by decide)
  haveI d3 : Szl (7 * (i : Int) + 2 + 1) 20 := szl_le inferInstance (by decide)
  refine t_eq a0 (t_mul (t_lt (t_mul (t_div (by omega) (t_mod (by omega) fun x _ x0 x1 _ => t_eq a0 (t_mul (t_div (by omega) (t_mod (by omega) fun y _ y0 y1 _ => t_eq a0 (t_mul (t_div (by omega) (t_mod (by omega) fun z _ z0 z1 _ => t_eq a0 (t_lt ?_))))))))))))
  refine t_eq a0 (t_eq a0 (t_eq a0 (tot_app (by omega) (tot_some ⟨_, rfl, fun j' q => ?_⟩))))
  rw [e0] at q
  cases q
  exact ⟨x - j.box, y - j.box, z - j.box, by omega, by omega, by omega, rfl⟩
/-- the meant value is within the half of the middle -/
theorem within_half {f l e er p1 p2 u M a ov m h : Int} (hu : 0 < u) (hM : 0 < M) (ha : p1 = a * u + ov) (hp : p2 = u * M) (ho : 0 ≤ ov ∧ ov ≤ u) (he : -er ≤ e ∧ e ≤ er) (hm : m = f + (l - f) * (2 * a + 1) / (2 * M)) (hh : h = if 0 < ((l - f).natAbs : Int) then upq ((l - f).natAbs : Int) (2 * M) + 1 else 0) :
    (f + e) * p2 + (l - f) * p1 - p2 * m ≤ (h + er) * p2 ∧ -((h + er) * p2) ≤ (f + e) * p2 + (l - f) * p1 - p2 * m := by
  subst ha hp hm
  have p0 : 0 < u * M := Int.mul_pos hu hM
  have M2 : 0 < 2 * M := by omega
  have e1 := Int.mul_le_mul_of_nonneg_right he.2 (show 0 ≤ u * M by omega)
  have e2 := Int.mul_le_mul_of_nonneg_right he.1 (show 0 ≤ u * M by omega)
  have f1 := Int.emod_add_mul_ediv ((l - f) * (2 * a + 1)) (2 * M)
  have f2 := Int.emod_nonneg ((l - f) * (2 * a + 1)) (show 2 * M ≠ 0 by omega)
  have f3 := Int.emod_lt_of_pos ((l - f) * (2 * a + 1)) M2
  generalize (l - f) * (2 * a + 1) / (2 * M) = q at *
  generalize (l - f) * (2 * a + 1) % (2 * M) = r at *
  generalize hD : l - f = D at *
  -- twice what is apart, but for the error: u * r + D * (2 * ov - u)
  have id : 2 * ((f + e) * (u * M) + D * (a * u + ov) - u * M * (f + q)) = 2 * (e * (u * M)) + u * r + D * (2 * ov - u) := by
    have : r = D * (2 * a + 1) - 2 * M * q := by omega
    rw [this]
    grind
  have ur : 0 ≤ u * r ∧ u * r ≤ u * (2 * M) := ⟨Int.mul_nonneg (by omega) f2, Int.mul_le_mul_of_nonneg_left (by omega) (by omega)⟩
  have hu2 : -u ≤ 2 * ov - u ∧ 2 * ov - u ≤ u := by omega
  have Du : D * (2 * ov - u) ≤ (D.natAbs : Int) * u ∧ -((D.natAbs : Int) * u) ≤ D * (2 * ov - u) := by
    rcases Int.le_total 0 D with s | s
    · rw [show ((D.natAbs : Int)) = D by omega]
      have := Int.mul_le_mul_of_nonneg_left hu2.2 s
      have := Int.mul_le_mul_of_nonneg_left hu2.1 s
      grind
    · rw [show ((D.natAbs : Int)) = -D by omega]
      have := Int.mul_le_mul_of_nonneg_left hu2.2 (show 0 ≤ -D by omega)
      have := Int.mul_le_mul_of_nonneg_left hu2.1 (show 0 ≤ -D by omega)
      grind
  have hb : u * r + D * (2 * ov - u) ≤ 2 * (h * (u * M)) ∧ -(2 * (h * (u * M))) ≤ u * r + D * (2 * ov - u) := by
    by_cases hp : 0 < (D.natAbs : Int)
    · rw [if_pos hp] at hh
      have up := (upq_ok (n := (D.natAbs : Int)) M2).2
      have m1 := Int.mul_le_mul_of_nonneg_right up (show 0 ≤ u by omega)
      have e3 : 2 * (h * (u * M)) = upq (D.natAbs : Int) (2 * M) * (2 * M) * u + u * (2 * M) := by
        rw [hh]
        grind
      have : 0 ≤ (D.natAbs : Int) * u := Int.mul_nonneg (by omega) (by omega)
      omega
    · rw [if_neg hp] at hh
      have D0 : D = 0 := by omega
      subst D0
      subst hh
      have q0 : r = 0 := by
        have hq : q = 0 ∨ q ≠ 0 := by omega
        rw [Int.zero_mul] at f1
        rcases Int.lt_trichotomy q 0 with s | s | s
        · have := Int.mul_le_mul_of_nonneg_left (show q ≤ -1 by omega) (show 0 ≤ 2 * M by omega)
          omega
        · subst s; omega
        · have := Int.mul_le_mul_of_nonneg_left (show 1 ≤ q by omega) (show 0 ≤ 2 * M by omega)
          omega
      subst q0
      rw [Int.mul_zero, Int.zero_mul, Int.zero_mul]
      omega
  have e4 : (h + er) * (u * M) = h * (u * M) + er * (u * M) := Int.add_mul _ _ _
  have e5 : -er * (u * M) = -(er * (u * M)) := Int.neg_mul _ _
  rw [e5] at e2
  rw [e4]
  omega
theorem within_reach {f l e er p1 p2 B : Int} (hp : 0 ≤ p1 ∧ p1 ≤ p2) (he : -er ≤ e ∧ e ≤ er) (hf : -B ≤ f ∧ f ≤ B) (hl : -B ≤ l ∧ l ≤ B) : (f + e) * p2 + (l - f) * p1 ≤ (B + er) * p2 ∧ -((B + er) * p2) ≤ (f + e) * p2 + (l - f) * p1 := by
  have id : (f + e) * p2 + (l - f) * p1 = e * p2 + f * (p2 - p1) + l * p1 := by grind
  have q0 : 0 ≤ p2 := by omega
  have q1 : 0 ≤ p2 - p1 := by omega
  have a1 := Int.mul_le_mul_of_nonneg_right he.2 q0
  have a2 := Int.mul_le_mul_of_nonneg_right he.1 q0
  have b1 := Int.mul_le_mul_of_nonneg_right hf.2 q1
  have b2 := Int.mul_le_mul_of_nonneg_right hf.1 q1
  have c1 := Int.mul_le_mul_of_nonneg_right hl.2 hp.1
  have c2 := Int.mul_le_mul_of_nonneg_right hl.1 hp.1
  have e1 : (B + er) * p2 = er * p2 + B * (p2 - p1) + B * p1 := by grind
  rw [id, e1]
  rw [Int.neg_mul] at a2 b2 c2
  omega
theorem box_near {o : V3} {x y z b : Int} (hx : -b ≤ x ∧ x ≤ b) (hy : -b ≤ y ∧ y ≤ b) (hz : -b ≤ z ∧ z ≤ b) : Nr (o.1 + x, o.2.1 + y, o.2.2 + z, 1) (o.1, o.2.1, o.2.2, 1) (2 * b) ∧ Ln (x, y, z, 1) (2 * b) := by
  have a1 := abs_sq hx.2 (by omega)
  have a2 := abs_sq hy.2 (by omega)
  have a3 := abs_sq hz.2 (by omega)
  have bb := sq_nn b
  have e : 2 * b * (2 * b) = 4 * (b * b) := by grind
  constructor
  · unfold Nr g_away dotv
    dsimp only
    rw [Int.mul_one, Int.mul_one, Int.mul_one, Int.mul_one, Int.mul_one, Int.mul_one, Int.mul_one, Int.mul_one, show o.1 + x - o.1 = x by omega, show o.2.1 + y - o.2.1 = y by omega, show o.2.2 + z - o.2.2 = z by omega, e]
    omega
  · unfold Ln g_vec dotv
    dsimp only
    rw [Int.mul_one, e]
    omega
theorem part_of {p1 p2 M : Int} (h2 : 0 < p2) (h1 : 0 ≤ p1 ∧ p1 ≤ p2) (hM : 0 < M) : ∃ a ov : Int, (0 ≤ a ∧ a < M) ∧ (0 ≤ ov ∧ ov ≤ p2) ∧ p1 * M = a * p2 + ov := by
  by_cases h : p1 = p2
  · refine ⟨M - 1, p2, by omega, by omega, ?_⟩
    rw [h]
    grind
  · refine ⟨p1 * M / p2, p1 * M % p2, ⟨Int.ediv_nonneg (Int.mul_nonneg h1.1 (by omega)) (by omega), ?_⟩, ⟨Int.emod_nonneg _ (by omega), ?_⟩, ?_⟩
    · refine Int.ediv_lt_of_lt_mul h2 ?_
      rw [Int.mul_comm M p2]
      exact Int.mul_lt_mul_of_pos_right (by omega) hM
    · have := Int.emod_lt_of_pos (p1 * M) h2
      omega
    · have := Int.emod_add_mul_ediv (p1 * M) p2
      rw [Int.mul_comm (p1 * M / p2) p2]
      omega
theorem half_part {f l e er p1 p2 M a ov m h : Int} (h2 : 0 < p2) (hM : 0 < M) (ha : p1 * M = a * p2 + ov) (ho : 0 ≤ ov ∧ ov ≤ p2) (he : -er ≤ e ∧ e ≤ er) (hm : m = f + (l - f) * (2 * a + 1) / (2 * M)) (hh : h = if 0 < ((l - f).natAbs : Int) then upq ((l - f).natAbs : Int) (2 * M) + 1 else 0) :
    (f + e) * p2 + (l - f) * p1 - p2 * m ≤ (h + er) * p2 ∧ -((h + er) * p2) ≤ (f + e) * p2 + (l - f) * p1 - p2 * m := by
  obtain ⟨w1, w2⟩ := within_half (p1 := p1 * M) (p2 := p2 * M) h2 hM ha rfl ho he hm hh
  have e1 : (f + e) * (p2 * M) + (l - f) * (p1 * M) - p2 * M * m = ((f + e) * p2 + (l - f) * p1 - p2 * m) * M := by grind
  have e2 : (h + er) * (p2 * M) = (h + er) * p2 * M := by grind
  rw [e1, e2] at w1 w2
  refine ⟨g_cancel hM w1, g_cancel hM ?_⟩
  rw [Int.neg_mul]
  exact w2
section
variable {js : List Joint} {mv : Move} {vs : List (Int × Int)} {row hs : List Int} {os : List V4} {p1 p2 M a ov : Int}
/-- every joint's true value and offset, as the middle of the part knows them -/
theorem steps_ok (hj : ∀ j ∈ js, JOk j) (r1 : Rg js mv.first) (r2 : Rg js mv.last) (hM : 0 < M) (h2 : 0 < p2 ∧ p2 ≤ 1000) (h1 : 0 ≤ p1 ∧ p1 ≤ p2) (ho : 0 ≤ ov ∧ ov ≤ p2) (ha : p1 * M = a * p2 + ov)
    (hv : ∀ (i : Nat) v, vs[i]? = some v → VOk v ∧ v.2 = p2 ∧ ∀ j f l, js[i]? = some j → mv.first[i]? = some f → mv.last[i]? = some l → ∃ e, -j.error ≤ e ∧ e ≤ j.error ∧ v.1 = (f + e) * p2 + (l - f) * p1)
    (hos : ∀ (i : Nat) q, os[i]? = some q → ∀ j, js[i]? = some j → ∃ x y z : Int, (-j.box ≤ x ∧ x ≤ j.box) ∧ (-j.box ≤ y ∧ y ≤ j.box) ∧ (-j.box ≤ z ∧ z ≤ j.box) ∧ q = (j.offset.1 + x, j.offset.2.1 + y, j.offset.2.2 + z, 1))
    (hm : ∀ (i : Nat) m, row[i]? = some m → ∀ f l, mv.first[i]? = some f → mv.last[i]? = some l → m = f + (l - f) * (2 * a + 1) / (2 * M))
    (hh : ∀ (i : Nat) h, hs[i]? = some h → Szl h 50 ∧ ∀ f l, mv.first[i]? = some f → mv.last[i]? = some l → h = if 0 < ((l - f).natAbs : Int) then upq ((l - f).natAbs : Int) (2 * M) + 1 else 0) :
    ∀ (k : Nat) j v m h q, js[k]? = some j → vs[k]? = some v → row[k]? = some m → hs[k]? = some h → os[k]? = some q → StepOk j v m h q := fun k j v m h q ej ev em eh eq => by
  have hk := (List.getElem?_eq_some_iff.mp ej).1
  obtain ⟨j', f, l, q0, q1, q2, jo, b1, b2⟩ := rows_get r1 r2 hj hk
  rw [ej] at q0
  cases q0
  obtain ⟨vo, v2, hv'⟩ := hv k v ev
  obtain ⟨e, x1, x2, x3⟩ := hv' j f l ej q1 q2
  have mm := hm k m em f l q1 q2
  obtain ⟨_, hhv⟩ := hh k h eh
  have hhv := hhv f l q1 q2
  obtain ⟨x, y, z, hx, hy, hz, rfl⟩ := hos k q eq j ej
  obtain ⟨n1, n2⟩ := box_near (o := j.offset) hx hy hz
  have wh := half_part h2.1 hM ha ho ⟨x1, x2⟩ mm hhv
  have h0 : 0 ≤ h := by
    rw [hhv]
    split
    · have := upq_nonneg (n := ((l - f).natAbs : Int)) (d := 2 * M) (by omega) (by omega)
      omega
    · exact Int.le_refl _
  have wr := within_reach (B := max (j.least.natAbs : Int) (j.most.natAbs : Int)) h1 ⟨x1, x2⟩ (f := f) (l := l) (by omega) (by omega)
  have zz := jo.szs.1
  obtain ⟨_, l0, l1, _⟩ := lu_ok (v := j.offset) (m := 23)
  refine ⟨jo, vo, ?_, h0, ?_, ?_, n1, ?_⟩
  · have bx := jo.box
    obtain ⟨of1, of2, of3⟩ := jo.off
    exact ⟨by show (0 : Int) < 1; decide, lg_le (b := 20000000) (by show (j.offset.1 + x).natAbs ≤ _; omega) (by decide), lg_le (b := 20000000) (by show (j.offset.2.1 + y).natAbs ≤ _; omega) (by decide), lg_le (b := 20000000) (by show (j.offset.2.2 + z).natAbs ≤ _; omega) (by decide), by show lg 1 ≤ 40; decide⟩
  · rw [v2, x3]
    exact wh
  · rw [v2, x3]
    exact wr
  · have ad : addP (j.offset.1, j.offset.2.1, j.offset.2.2, 1) (x, y, z, 1) = (j.offset.1 + x, j.offset.2.1 + y, j.offset.2.2 + z, 1) := by
      unfold addP
      ext <;> dsimp only <;> omega
    rw [← ad]
    have l2 : Ln (j.offset.1, j.offset.2.1, j.offset.2.2, 1) (lu j.offset) := by
      show dotv j.offset j.offset ≤ lu j.offset * 1 * (lu j.offset * 1)
      rw [Int.mul_one]
      exact l1
    have bx := jo.box
    exact g_ladd (by show (0 : Int) < 1; decide) (by show (0 : Int) < 1; decide) l0 (by omega) l2 n2
end
/-- a true end of a body, and its spot -/
theorem end_near {m : Mover} (hm : MoverOk m) {x : Int × Body} (hx : x ∈ bodiesV m) {vs : List (Int × Int)} {row hs : List Int} {os : List V4} (vl : vs.length = m.arm.joints.length) (rl : row.length = m.arm.joints.length) (hl : hs.length = m.arm.joints.length) (ol : os.length = m.arm.joints.length)
    (ok : ∀ (k : Nat) j v m' h q, m.arm.joints[k]? = some j → vs[k]? = some v → row[k]? = some m' → hs[k]? = some h → os[k]? = some q → StepOk j v m' h q) {pt : V3} (hpt : pt = x.2.first ∨ pt = x.2.last) {S : V3} (hS : S = fl4 (spotP m.arm.joints row x.1.toNat pt)) {X : V4} (hX : X = placeP m.arm.joints vs os x.1.toNat pt x.1.toNat) {u : Int} (hu : u = (ust m.arm.joints hs x.1.toNat x.2.first x.2.last x.1.toNat).1) :
    0 ≤ u ∧ 0 < X.2.2.2 ∧ dotv (X.1 - S.1 * X.2.2.2, X.2.1 - S.2.1 * X.2.2.2, X.2.2.1 - S.2.2 * X.2.2.2) (X.1 - S.1 * X.2.2.2, X.2.1 - S.2.1 * X.2.2.2, X.2.2.1 - S.2.2 * X.2.2.2) ≤ u * X.2.2.2 * (u * X.2.2.2) := by
  obtain ⟨hk, hb⟩ := bodies_mem hm x hx
  obtain ⟨z1, z2⟩ := hb.szs
  obtain ⟨n1, n2, n3, n4, n5, n6⟩ := near_all (by omega) vl rl hl ol ok (a := x.2.first) (b := x.2.last) hpt x.1.toNat (Nat.le_refl _)
  have fin := g_tri n5 n6 (show (0 : Int) < 1 by decide) (by omega) (show (0 : Int) ≤ 2 by decide) n1 (near_floor n6)
  rw [show (ust m.arm.joints hs x.1.toNat x.2.first x.2.last x.1.toNat).1 - 2 + 2 = u by omega] at fin
  rw [← hX] at fin n5
  refine ⟨by omega, n5, ?_⟩
  subst hS
  unfold Nr g_away at fin
  dsimp only at fin
  rw [Int.mul_one, Int.mul_one, Int.mul_one, Int.mul_one] at fin
  exact fin
/-- a product of vectors is at most that of their lengths -/
theorem cs3 (a b : V3) : dotv a b * dotv a b ≤ dotv a a * dotv b b := by
  obtain ⟨a1, a2, a3⟩ := a
  obtain ⟨b1, b2, b3⟩ := b
  unfold dotv
  dsimp only
  have h1 := sq_nn (a1 * b2 - a2 * b1)
  have h2 := sq_nn (a1 * b3 - a3 * b1)
  have h3 := sq_nn (a2 * b3 - a3 * b2)
  grind
theorem abs_le_of {a b : Int} (hb : 0 ≤ b) (h : a * a ≤ b * b) : a ≤ b ∧ -b ≤ a := by
  refine ⟨g_lesq hb h, ?_⟩
  have : -a ≤ b := g_lesq hb (by rw [Int.neg_mul_neg]; exact h)
  omega
/-- the direction's product with a true end -/
theorem end_reach {X : V4} {S dir : V3} {L u r told : Int} (hw : 0 < X.2.2.2) (hL : 0 ≤ L) (hu : 0 ≤ u) (hd : dotv dir dir ≤ L * L) (hn : dotv (X.1 - S.1 * X.2.2.2, X.2.1 - S.2.1 * X.2.2.2, X.2.2.1 - S.2.2 * X.2.2.2) (X.1 - S.1 * X.2.2.2, X.2.1 - S.2.1 * X.2.2.2, X.2.2.1 - S.2.2 * X.2.2.2) ≤ u * X.2.2.2 * (u * X.2.2.2)) (ht : dotv dir S + L * (r + u) ≤ told) :
    dir.1 * X.1 + dir.2.1 * X.2.1 + dir.2.2 * X.2.2.1 + L * r * X.2.2.2 ≤ told * X.2.2.2 := by
  have c := cs3 dir (X.1 - S.1 * X.2.2.2, X.2.1 - S.2.1 * X.2.2.2, X.2.2.1 - S.2.2 * X.2.2.2)
  obtain ⟨x, y, z, w⟩ := X
  obtain ⟨s1, s2, s3⟩ := S
  obtain ⟨d1, d2, d3⟩ := dir
  dsimp only at *
  have e0 : dotv (d1, d2, d3) (x - s1 * w, y - s2 * w, z - s3 * w) = d1 * x + d2 * y + d3 * z - dotv (d1, d2, d3) (s1, s2, s3) * w := by
    unfold dotv
    dsimp only
    grind
  rw [e0] at c
  have n0 : 0 ≤ dotv (x - s1 * w, y - s2 * w, z - s3 * w) (x - s1 * w, y - s2 * w, z - s3 * w) := dotv_self_nonneg _
  generalize dotv (x - s1 * w, y - s2 * w, z - s3 * w) (x - s1 * w, y - s2 * w, z - s3 * w) = E at *
  generalize dotv (d1, d2, d3) (s1, s2, s3) = D at *
  generalize dotv (d1, d2, d3) (d1, d2, d3) = N at *
  generalize d1 * x + d2 * y + d3 * z = T at *
  have b1 := Int.mul_le_mul_of_nonneg_right hd n0
  have b2 := Int.mul_le_mul_of_nonneg_left hn (show 0 ≤ L * L from Int.mul_nonneg hL hL)
  have e1 : L * L * (u * w * (u * w)) = L * u * w * (L * u * w) := by grind
  rw [e1] at b2
  have ab := (abs_le_of (Int.mul_nonneg (Int.mul_nonneg hL hu) (by omega)) (Int.le_trans c (Int.le_trans b1 b2))).1
  have m1 := Int.mul_le_mul_of_nonneg_right ht (show 0 ≤ w by omega)
  have e2 : (D + L * (r + u)) * w = D * w + L * r * w + L * u * w := by grind
  omega
/-! reaches -/
theorem maxL_snoc {xs : List Int} {y b : Int} (h : maxL xs = some b) : maxL (xs ++ [y]) = some (max b y) := by
  cases xs with
  | nil => cases h
  | cons x xs =>
    have h : some (xs.foldl max x) = some b := h
    cases h
    show some ((xs ++ [y]).foldl max x) = _
    rw [List.foldl_append]
    rfl
theorem maxL_some : ∀ {xs : List Int}, xs ≠ [] → ∃ b, maxL xs = some b
  | [], h => absurd rfl h
  | x :: xs, _ => ⟨_, rfl⟩
def reachV (m : Mover) (dir : V3) (row hs : List Int) (x : Int × Body) : Int := max (dotv dir (spotsV m row x).1) (dotv dir (spotsV m row x).2) + lu dir * (x.2.radius + (ust m.arm.joints hs x.1.toNat x.2.first x.2.last x.1.toNat).1)
theorem spots_sz {m : Mover} {row : List Int} {x : Int × Body} (h : MoverOk m) (hr : RangeOk m.arm.joints row) (hx : x ∈ bodiesV m) : Szv (spotsV m row x).1 2000 ∧ Szv (spotsV m row x).2 2000 := by
  obtain ⟨hl, hb⟩ := bodies_mem h x hx
  obtain ⟨z1, z2⟩ := hb.szs
  have hn := h.a.n
  have rm := range_mem h.a.j hr
  have gen : ∀ (pt : V3), Szv pt 30 → Szv (fl4 (spotP m.arm.joints row x.1.toNat pt)) 2000 := fun pt hz => by
    obtain ⟨w3, w4⟩ := placeP_ok (js := m.arm.joints) (link := x.1.toNat) (pt := pt) (vals1_ok rm) (offs1_ok h.a.j) x.1.toNat
    have w4 := sz4_le w4 (show _ ≤ 2000 by omega)
    exact ⟨Nat.le_trans (lg_div w3) w4.x, Nat.le_trans (lg_div w3) w4.y, Nat.le_trans (lg_div w3) w4.z⟩
  exact ⟨gen _ z1, gen _ z2⟩
theorem reach_ok {m : Mover} {dir : V3} {d a : Int} (h : MoverOk m) (hdir : Szv dir 10) (hd : 0 ≤ d ∧ d ≤ 8) (ha : 0 ≤ a ∧ a < 2 ^ d.toNat) : ∃ row hs : List Int,
    RangeOk m.arm.joints row ∧ (∀ (i : Nat) v, row[i]? = some v → ∀ f l, m.move.first[i]? = some f → m.move.last[i]? = some l → v = f + (l - f) * (2 * a + 1) / 2 ^ (d + 1).toNat) ∧
    hs.length = m.arm.joints.length ∧ (∀ (i : Nat) q, hs[i]? = some q → Szl q 50 ∧ ∀ f l, m.move.first[i]? = some f → m.move.last[i]? = some l → q = if 0 < ((l - f).natAbs : Int) then upq ((l - f).natAbs : Int) (2 ^ (d + 1).toNat) + 1 else 0) ∧
    (∃ r, maxDC ((bodiesV m).map (reachV m dir row hs)) = some r ∧ m_reach_over m dir (d, a) = some r) ∧
    (bodiesV m ≠ [] → ∃ b, maxL ((bodiesV m).map (reachV m dir row hs)) = some b ∧ m__law_reach m dir (d, a) = some (some b)) := by
  have n := h.a.n
  have bl := bodies_len h
  obtain ⟨row, er, hrl, hm⟩ := middle_val (mv := m.move) (js := m.arm.joints) h.a.j (by omega) h.f h.l ⟨hd.1, by omega⟩ ha
  obtain ⟨hs, eh, hhl, hh⟩ := halves_val (mv := m.move) (js := m.arm.joints) h.a.j (by omega) h.f h.l (d := d) ⟨hd.1, by omega⟩
  obtain ⟨row', er', hr⟩ := middle_ok (mv := m.move) (js := m.arm.joints) h.a.j (by omega) h.f h.l ⟨hd.1, by omega⟩ ha
  rw [er] at er'
  cases er'
  have hz : ∀ q ∈ hs, Szl q 60 := fun q hq => by
    obtain ⟨i, hi⟩ := List.mem_iff_getElem?.mp hq
    exact szl_le (hh i q hi).1 (by decide)
  have le := lines_eq h er hr
  have ue := unknowns_eq h hhl hz
  have be := bodies_eq h
  obtain ⟨lu1, lu2, lu3, _⟩ := lu_ok (v := dir) (m := 10)
  have root := lroot_lu (v := dir) (m := 10)
  haveI : Szl (lu dir) 24 := lu_size (v := dir) (m := 10)
  -- what every body gives
  have item : ∀ (i : Nat) x, (bodiesV m)[i]? = some x → Szv (spotsV m row x).1 2000 ∧ Szv (spotsV m row x).2 2000 ∧ Szl (x.2.radius + (ust m.arm.joints hs x.1.toNat x.2.first x.2.last x.1.toNat).1) 3000 ∧
      ((bodiesV m).map (spotsV m row))[i]? = some (spotsV m row x) ∧ (unksV m hs)[i]? = some (ust m.arm.joints hs x.1.toNat x.2.first x.2.last x.1.toNat).1 := fun i x hi => by
    have hx := List.mem_of_getElem? hi
    obtain ⟨hk, hb⟩ := bodies_mem h x hx
    obtain ⟨z1, z2⟩ := hb.szs
    obtain ⟨s1, s2⟩ := spots_sz h hr hx
    haveI := ust_size1 (js := m.arm.joints) (hs := hs) (link := x.1.toNat) (a := x.2.first) (b := x.2.last) h.a.j hz x.1.toNat
    have rr := hb.r
    haveI : Szl x.2.radius 24 := szl_le (szl_abs_of (B := 10000000) (by omega)) (by decide)
    refine ⟨s1, s2, szl_le inferInstance (by omega), by rw [List.getElem?_map, hi]; rfl, ?_⟩
    unfold unksV
    rw [List.getElem?_map, hi]
    rfl
  have L : (rng 0 ((bodiesV m).length : Int)).length = (bodiesV m).length := by rw [rng_len]; omega
  refine ⟨row, hs, hr, hm, hhl, hh, ?_, fun ne => ?_⟩
  · have lp : (forL (rng 0 ((bodiesV m).length : Int)) ([] : List Int) fun k9 s8 =>
        (atC ((bodiesV m).map (spotsV m row)) k9).bind fun t10 =>
        (m_dot dir t10.1).bind fun t11 =>
        (atC ((bodiesV m).map (spotsV m row)) k9).bind fun t12 =>
        (m_dot dir t12.2).bind fun t13 =>
        lt (max t11 t13 : Int) fun far14 =>
        (atC (bodiesV m) k9).bind fun t15 =>
        (atC (unksV m hs) k9).bind fun t16 =>
        (mulC (lu dir) (t15.2.radius + t16)).bind fun t17 =>
        (appC s8 (far14 + t17)).bind fun reaches18 =>
        some (reaches18 : (List Int))) = some ((bodiesV m).map (reachV m dir row hs)) := by
      obtain ⟨s, es, sl, sv⟩ := app_idx (n := (bodiesV m).length) (P := fun i y => ∀ x, (bodiesV m)[i]? = some x → y = reachV m dir row hs x) (f := fun k9 s8 =>
        (atC ((bodiesV m).map (spotsV m row)) k9).bind fun t10 =>
        (m_dot dir t10.1).bind fun t11 =>
        (atC ((bodiesV m).map (spotsV m row)) k9).bind fun t12 =>
        (m_dot dir t12.2).bind fun t13 =>
        lt (max t11 t13 : Int) fun far14 =>
        (atC (bodiesV m) k9).bind fun t15 =>
        (atC (unksV m hs) k9).bind fun t16 =>
        (mulC (lu dir) (t15.2.radius + t16)).bind fun t17 =>
        (appC s8 (far14 + t17)).bind fun reaches18 =>
        some (reaches18 : (List Int))) fun i s hi hsl => by
          have ex : (bodiesV m)[i]? = some ((bodiesV m)[i]'hi) := List.getElem?_eq_getElem hi
          obtain ⟨s1, s2, s3, g1, g2⟩ := item i _ ex
          refine t_eq (at_get (n := i) rfl g1) (t_eq (dot_eq (m := 10) (n := 2000)) (t_eq (at_get (n := i) rfl g1) (t_eq (dot_eq (m := 10) (n := 2000)) (t_lt (t_eq (at_get (n := i) rfl ex) (t_eq (at_get (n := i) rfl g2) (t_mul (tot_app (by omega) (tot_some ⟨_, rfl, fun y hy => ?_⟩)))))))))
          rw [ex] at hy
          cases hy
          rfl
      rw [es]
      refine congrArg some (List.ext_getElem? fun i => ?_)
      by_cases hi : i < (bodiesV m).length
      · have ex : (bodiesV m)[i]? = some ((bodiesV m)[i]'hi) := List.getElem?_eq_getElem hi
        have e3 : s[i]? = some (s[i]'(by omega)) := List.getElem?_eq_getElem (by omega)
        rw [e3, List.getElem?_map, ex, sv i _ e3 _ ex]
        rfl
      · rw [List.getElem?_eq_none (by omega), List.getElem?_eq_none (by rw [List.length_map]; omega)]
    have tot : ∃ r, maxDC ((bodiesV m).map (reachV m dir row hs)) = some r := by
      unfold maxDC
      by_cases q : (bodiesV m).map (reachV m dir row hs) = []
      · exact ⟨none, if_pos q⟩
      · obtain ⟨b, eb⟩ := maxL_some q
        refine ⟨some b, ?_⟩
        rw [if_neg q, eb]
        rfl
    obtain ⟨r, er2⟩ := tot
    refine ⟨r, er2, eq_of ?_⟩
    unfold m_reach_over
    exact t_eq lu1 (t_eq le (t_eq eh (t_eq ue (t_eq be (t_lt (tot_rng (by omega) (t_eq lp (t_eq er2 (tot_some rfl)))))))))
  · refine ⟨((maxL ((bodiesV m).map (reachV m dir row hs))).getD 0), ?_, eq_of ?_⟩
    · obtain ⟨b, eb⟩ := maxL_some (xs := (bodiesV m).map (reachV m dir row hs)) (by simpa using ne)
      rw [eb]
      rfl
    unfold m__law_reach
    refine t_eq (ldot_eq (m := 10) (n := 10)) (t_eq root (t_eq le (t_eq eh (t_eq ue (t_eq be (t_lt (tot_rng (by omega) ?_)))))))
    refine t_bind (P := fun s => s = some ((maxL ((bodiesV m).map (reachV m dir row hs))).getD 0)) ?_ fun s hs' => tot_some hs'
    refine tot_imp (tot_forLi (W := fun i (s : Option Int) => (i = 0 ∧ s = none) ∨ ∃ b, s = some b ∧ maxL (((bodiesV m).map (reachV m dir row hs)).take i) = some b) (.inl ⟨rfl, rfl⟩) fun i k s hk hw => ?_) fun s hw => ?_
    · obtain ⟨ek, hk2⟩ := rng_get hk
      have hi : i < (bodiesV m).length := by omega
      have ex : (bodiesV m)[i]? = some ((bodiesV m)[i]'hi) := List.getElem?_eq_getElem hi
      have tk : ((bodiesV m).map (reachV m dir row hs)).take (i + 1) = ((bodiesV m).map (reachV m dir row hs)).take i ++ [reachV m dir row hs ((bodiesV m)[i]'hi)] := by
        rw [List.take_succ, List.getElem?_map, ex]
        rfl
      obtain ⟨s1, s2, s3, g1, g2⟩ := item i _ ex
      generalize hx : (bodiesV m)[i]'hi = x at *
      have ek : k = (i : Int) := by omega
      subst ek
      refine t_eq (at_get (n := i) rfl g1) (t_eq (ldot_eq (m := 10) (n := 2000)) (t_eq (at_get (n := i) rfl g1) (t_eq (ldot_eq (m := 10) (n := 2000)) (t_lt (t_eq (at_get (n := i) rfl ex) (t_eq (at_get (n := i) rfl g2) (t_mul (t_lt ?_))))))))
      have eR : max (dotv dir (spotsV m row x).1) (dotv dir (spotsV m row x).2) + lu dir * (x.2.radius + (ust m.arm.joints hs x.1.toNat x.2.first x.2.last x.1.toNat).1) = reachV m dir row hs x := rfl
      rw [eR]
      generalize reachV m dir row hs x = R at *
      rw [tk]
      rcases hw with ⟨rfl, rfl⟩ | ⟨b, rfl, hb⟩
      · refine t_eq (x := true) rfl (t_eq (x := some R) rfl (tot_some (Or.inr ⟨R, rfl, rfl⟩)))
      · refine t_eq (x := decide (b < R)) rfl ?_
        by_cases q : b < R
        · refine t_eq (x := some R) (by rw [decide_eq_true q]; rfl) (tot_some (Or.inr ⟨R, rfl, ?_⟩))
          rw [maxL_snoc hb, Int.max_eq_right (by omega)]
        · refine t_eq (x := some b) (by rw [decide_eq_false q]; rfl) (tot_some (Or.inr ⟨b, rfl, ?_⟩))
          rw [maxL_snoc hb, Int.max_eq_left (by omega)]
    · rw [L] at hw
      rcases hw with ⟨h0, _⟩ | ⟨b, rfl, hb⟩
      · exact absurd (List.length_eq_zero_iff.mp h0) ne
      · rw [List.take_of_length_le (by rw [List.length_map]; omega)] at hb
        rw [hb]
        rfl
theorem allC_some {α : Type} : ∀ (xs : List α), allC (xs.map some) = some xs
  | [] => rfl
  | x :: xs => by
    show (allC (xs.map some)).bind _ = _
    rw [allC_some xs]
    rfl
/-- a direction of the law -/
structure DirOk (v : V3) : Prop where
  x : v.1.natAbs ≤ 9
  y : v.2.1.natAbs ≤ 9
  z : 1 ≤ v.2.2 ∧ v.2.2 ≤ 9
theorem DirOk.sz {v : V3} (h : DirOk v) : Szv v 10 := by
  obtain ⟨a, b, c⟩ := h
  exact ⟨lg_le (b := 9) a (by decide), lg_le (b := 9) b (by decide), lg_le (b := 9) (by omega) (by decide)⟩
theorem dir_tests {v : V3} (h : DirOk v) : m_is_within v 1000 = some true ∧ ((!true) || ((decide (v.1 = v.2.1)) && ((decide (v.2.1 = v.2.2)) && (decide (v.2.2 = 0))))) = false := by
  obtain ⟨a, b, c⟩ := h
  constructor
  · unfold m_is_within
    refine congrArg some (decide_eq_true ?_)
    omega
  · rw [decide_eq_false (show ¬ v.2.2 = 0 by omega)]
    simp
def Rf (m : Mover) (dir : V3) (d a : Int) : Int := ((m_reach_over m dir (d, a)).getD none).getD 0
theorem reach_both {m : Mover} {dir : V3} {d a : Int} (h : MoverOk m) (ne : bodiesV m ≠ []) (hdir : Szv dir 10) (hd : 0 ≤ d ∧ d ≤ 8) (ha : 0 ≤ a ∧ a < 2 ^ d.toNat) :
    m_reach_over m dir (d, a) = some (some (Rf m dir d a)) ∧ m__law_reach m dir (d, a) = some (some (Rf m dir d a)) ∧ Szl (Rf m dir d a) 4000 ∧ ∃ row hs : List Int,
    RangeOk m.arm.joints row ∧ (∀ (i : Nat) v, row[i]? = some v → ∀ f l, m.move.first[i]? = some f → m.move.last[i]? = some l → v = f + (l - f) * (2 * a + 1) / 2 ^ (d + 1).toNat) ∧
    hs.length = m.arm.joints.length ∧ (∀ (i : Nat) q, hs[i]? = some q → Szl q 50 ∧ ∀ f l, m.move.first[i]? = some f → m.move.last[i]? = some l → q = if 0 < ((l - f).natAbs : Int) then upq ((l - f).natAbs : Int) (2 ^ (d + 1).toNat) + 1 else 0) ∧
    ∀ x ∈ bodiesV m, reachV m dir row hs x ≤ Rf m dir d a := by
  obtain ⟨row, hs, h1, h2, h3, h4, ⟨r, h5, h6⟩, h7⟩ := reach_ok h hdir hd ha
  obtain ⟨b, eb, el⟩ := h7 ne
  have er : r = some b := by
    unfold maxDC at h5
    rw [if_neg (by simpa using ne), eb] at h5
    exact (Option.some.inj h5).symm
  subst er
  have eR : Rf m dir d a = b := by
    unfold Rf
    rw [h6]
    rfl
  rw [eR]
  obtain ⟨k1, k2⟩ := maxL_spec eb
  refine ⟨h6, el, ?_, row, hs, h1, h2, h3, h4, fun x hx => k2 _ (List.mem_map.mpr ⟨x, hx, rfl⟩)⟩
  obtain ⟨x, hx, rfl⟩ := List.mem_map.mp k1
  obtain ⟨s1, s2⟩ := spots_sz h h1 hx
  obtain ⟨hk, hb⟩ := bodies_mem h x hx
  obtain ⟨z1, z2⟩ := hb.szs
  have hz : ∀ q ∈ hs, Szl q 60 := fun q hq => by
    obtain ⟨i, hi⟩ := List.mem_iff_getElem?.mp hq
    exact szl_le (h4 i q hi).1 (by decide)
  haveI := szl_le (ust_size1 (js := m.arm.joints) (hs := hs) (link := x.1.toNat) (a := x.2.first) (b := x.2.last) h.a.j hz x.1.toNat) (show _ ≤ 1000 by have := h.a.n; omega)
  have rr := hb.r
  haveI : Szl x.2.radius 24 := szl_le (szl_abs_of (B := 10000000) (by omega)) (by decide)
  haveI : Szl (lu dir) 24 := lu_size (v := dir) (m := 10)
  unfold reachV
  exact szl_le inferInstance (by decide)
theorem extent_ok {m : Mover} {dir : V3} {d : Int} (h : MoverOk m) (ne : bodiesV m ≠ []) (hdir : DirOk dir) (hd : 0 ≤ d ∧ d ≤ 3) : ∃ E : Int, m_extent m dir d = some (some E) ∧ Szl E 4000 ∧ maxL ((rng 0 (2 ^ d.toNat)).map (Rf m dir d)) = some E ∧ ∀ a, 0 ≤ a → a < 2 ^ d.toNat → Rf m dir d a ≤ E := by
  haveI := hdir.sz
  have M0 : (0 : Int) < 2 ^ d.toNat := pw_pos _
  have M1 : (2 : Int) ^ d.toNat ≤ 8 := pw_le (a := d.toNat) (b := 3) (by omega)
  have rb := fun a (ha : 0 ≤ a ∧ a < 2 ^ d.toNat) => reach_both (dir := dir) (d := d) (a := a) h ne inferInstance ⟨hd.1, by omega⟩ ha
  have nn : (rng 0 (2 ^ d.toNat)).map (Rf m dir d) ≠ [] := fun e => by
    have := congrArg List.length e
    rw [List.length_map, rng_len, List.length_nil] at this
    omega
  obtain ⟨E, eE⟩ := maxL_some nn
  obtain ⟨k1, k2⟩ := maxL_spec eE
  have z0 : (rng 0 (2 ^ d.toNat))[0]? = some 0 := by
    have hl : 0 < (rng 0 ((2 : Int) ^ d.toNat)).length := by rw [rng_len]; omega
    rw [List.getElem?_eq_getElem hl]
    have := (rng_get (List.getElem?_eq_getElem hl)).1
    rw [this]
    rfl
  refine ⟨E, eq_of ?_, ?_, eE, fun a a0 a1 => k2 _ (List.mem_map.mpr ⟨a, mem_rng.mpr ⟨a0, a1⟩, rfl⟩)⟩
  · obtain ⟨d1, d2⟩ := dir_tests hdir
    have e1 : (1 : Int) * 2 ^ d.toNat = 2 ^ d.toNat := Int.one_mul _
    unfold m_extent
    refine t_eq d1 (t_no d2 (t_no (by rw [decide_eq_true hd.1, decide_eq_true (show d ≤ 8 by omega)]; rfl) (tot_shl ⟨hd.1, by omega, by decide⟩ ?_)))
    rw [e1]
    refine tot_rng (by omega) (t_eq (x := ((rng 0 (2 ^ d.toNat)).map (Rf m dir d)).map some) ?_ ?_)
    · rw [List.map_map]
      refine mapC_all (by rw [rng_len]; omega) fun a ha => ?_
      rw [(rb a (mem_rng.mp ha)).1]
      rfl
    · refine t_eq (at_get (n := 0) (x := some (Rf m dir d 0)) rfl ?_) (t_no rfl (t_eq (allC_some _) (t_eq eE (tot_some rfl))))
      rw [List.getElem?_map, List.getElem?_map, z0]
      rfl
  · obtain ⟨a, ha, rfl⟩ := List.mem_map.mp k1
    exact (rb a (mem_rng.mp ha)).2.2.1
theorem bare_ok {m : Mover} {dir : V3} {d : Int} (h : MoverOk m) (e0 : bodiesV m = []) (hdir : DirOk dir) (hd : 0 ≤ d ∧ d ≤ 3) : m_extent m dir d = some none := by
  haveI := hdir.sz
  have M0 : (0 : Int) < 2 ^ d.toNat := pw_pos _
  have M1 : (2 : Int) ^ d.toNat ≤ 8 := pw_le (a := d.toNat) (b := 3) (by omega)
  obtain ⟨d1, d2⟩ := dir_tests hdir
  have e1 : (1 : Int) * 2 ^ d.toNat = 2 ^ d.toNat := Int.one_mul _
  have rb : ∀ a, 0 ≤ a ∧ a < 2 ^ d.toNat → m_reach_over m dir (d, a) = some none := fun a ha => by
    obtain ⟨row, hs, _, _, _, _, ⟨r, h5, h6⟩, _⟩ := reach_ok (dir := dir) (d := d) (a := a) h inferInstance ⟨hd.1, by omega⟩ ha
    rw [e0] at h5
    have : some none = some r := h5
    rw [h6, ← this]
  refine eq_of ?_
  unfold m_extent
  refine t_eq d1 (t_no d2 (t_no (by rw [decide_eq_true hd.1, decide_eq_true (show d ≤ 8 by omega)]; rfl) (tot_shl ⟨hd.1, by omega, by decide⟩ ?_)))
  rw [e1]
  refine tot_rng (by omega) (t_eq (x := (rng 0 (2 ^ d.toNat)).map fun _ => none) (mapC_all (by rw [rng_len]; omega) fun a ha => ?_) ?_)
  · rw [rb a (mem_rng.mp ha)]
    rfl
  · refine t_eq (at_get (n := 0) (x := none) rfl ?_) (t_yes rfl (tot_some rfl))
    have hl : 0 < (rng 0 ((2 : Int) ^ d.toNat)).length := by rw [rng_len]; omega
    rw [List.getElem?_map, List.getElem?_eq_getElem hl]
    rfl
theorem arm_bare {js : List Joint} (h : 1 ≤ js.length ∧ js.length ≤ 6) : m_Arm_init_2 js [] [] = some ⟨js, [], []⟩ := by
  refine eq_of ?_
  unfold m_Arm_init_2
  refine t_no ?_ (t_no rfl (t_eq (x := ()) rfl (t_eq (x := ()) rfl (t_eq (x := []) rfl (tot_some rfl)))))
  simp only [Bool.not_eq_false', Bool.and_eq_true, decide_eq_true_eq]
  omega
theorem refused_of {m : Mover} {dir : V3} {d : Int} {g : Str} (h : xm_extent m dir d = some g) : m__law_refused m dir d = some g := by
  unfold m__law_refused
  rw [h]
  rfl
def dot4 (dir : V3) (P : V4) : Int := dir.1 * P.1 + dir.2.1 * P.2.1 + dir.2.2 * P.2.2.1
def mixV (P Q : V4) (o : Int) : V4 := (P.1 * Q.2.2.2 * (8 - o) + Q.1 * P.2.2.2 * o, P.2.1 * Q.2.2.2 * (8 - o) + Q.2.1 * P.2.2.2 * o, P.2.2.1 * Q.2.2.2 * (8 - o) + Q.2.2.1 * P.2.2.2 * o, P.2.2.2 * Q.2.2.2 * 8)
theorem mix_eq {P Q : V4} {o : Int} (h1 : Sz4 P 1000) (h2 : Sz4 Q 1000) (h0 : 0 ≤ o ∧ o ≤ 8) : m__law_mix (l4 P, l4 Q) o 8 = some (mixV P Q o) := by
  haveI := h1
  haveI := h2
  haveI : Szl o 4 := szl_le (szl_abs_of (B := 8) (by omega)) (by decide)
  haveI : Szl (8 - o) 4 := szl_le (szl_abs_of (B := 8) (by omega)) (by decide)
  refine eq_of ?_
  unfold m__law_mix
  refine t_lt (t_lt (t_eq (x := P.1) rfl (t_eq (x := Q.2.2.2) rfl (t_mul (t_mul (t_eq (x := Q.1) rfl (t_eq (x := P.2.2.2) rfl (t_mul (t_mul ?_)))))))))
  refine t_eq (x := P.2.1) rfl (t_eq (x := Q.2.2.2) rfl (t_mul (t_mul (t_eq (x := Q.2.1) rfl (t_eq (x := P.2.2.2) rfl (t_mul (t_mul ?_)))))))
  refine t_eq (x := P.2.2.1) rfl (t_eq (x := Q.2.2.2) rfl (t_mul (t_mul (t_eq (x := Q.2.2.1) rfl (t_eq (x := P.2.2.2) rfl (t_mul (t_mul ?_)))))))
  exact t_lt (t_eq (x := P.2.2.2) rfl (t_eq (x := Q.2.2.2) rfl (t_mul (t_mul (tot_some rfl)))))
theorem dot2_eq {dir : V3} {P : V4} (h1 : Szv dir 10) (h2 : Sz4 P 4000) : m__law_dot_2 dir P = some (dot4 dir P) := by
  haveI := h1
  haveI := h2
  refine eq_of ?_
  unfold m__law_dot_2
  exact t_mul (t_mul (t_mul (tot_some rfl)))
theorem mix_sz {P Q : V4} {o : Int} (h1 : Sz4 P 1000) (h2 : Sz4 Q 1000) (h0 : 0 ≤ o ∧ o ≤ 8) : Sz4 (mixV P Q o) 4000 := by
  haveI := h1
  haveI := h2
  haveI : Szl o 4 := szl_le (szl_abs_of (B := 8) (by omega)) (by decide)
  haveI : Szl (8 - o) 4 := szl_le (szl_abs_of (B := 8) (by omega)) (by decide)
  have a : Szl (P.1 * Q.2.2.2 * (8 - o) + Q.1 * P.2.2.2 * o) 4000 := szl_le inferInstance (by decide)
  have b : Szl (P.2.1 * Q.2.2.2 * (8 - o) + Q.2.1 * P.2.2.2 * o) 4000 := szl_le inferInstance (by decide)
  have c : Szl (P.2.2.1 * Q.2.2.2 * (8 - o) + Q.2.2.1 * P.2.2.2 * o) 4000 := szl_le inferInstance (by decide)
  have e : Szl (P.2.2.2 * Q.2.2.2 * 8) 4000 := szl_le inferInstance (by decide)
  exact ⟨a.le, b.le, c.le, e.le⟩
/-- the mixed place stays behind by the radius -/
theorem mix_behind {dir : V3} {P Q : V4} {o E r L : Int} (hp : 0 < P.2.2.2) (hq : 0 < Q.2.2.2) (h0 : 0 ≤ o ∧ o ≤ 8) (h1 : dot4 dir P + L * r * P.2.2.2 ≤ E * P.2.2.2) (h2 : dot4 dir Q + L * r * Q.2.2.2 ≤ E * Q.2.2.2) : dot4 dir (mixV P Q o) + L * r * (mixV P Q o).2.2.2 ≤ E * (mixV P Q o).2.2.2 := by
  have e : dot4 dir (mixV P Q o) = dot4 dir P * (Q.2.2.2 * (8 - o)) + dot4 dir Q * (P.2.2.2 * o) := by
    unfold dot4 mixV
    dsimp only
    grind
  have m1 := Int.mul_le_mul_of_nonneg_right h1 (show 0 ≤ Q.2.2.2 * (8 - o) from Int.mul_nonneg (by omega) (by omega))
  have m2 := Int.mul_le_mul_of_nonneg_right h2 (show 0 ≤ P.2.2.2 * o from Int.mul_nonneg (by omega) (by omega))
  rw [e]
  have ew : (mixV P Q o).2.2.2 = P.2.2.2 * Q.2.2.2 * 8 := rfl
  rw [ew]
  generalize dot4 dir P = A at *
  generalize dot4 dir Q = B at *
  generalize P.2.2.2 = p at *
  generalize Q.2.2.2 = q at *
  grind
theorem far_ok {N L r W far E D : Int} (hL : 0 ≤ L) (hN : N ≤ L * L) (hr : 0 ≤ r) (hw : 0 ≤ W) (hf : far = D - E * W) (h : D + L * r * W ≤ E * W) : ¬ 0 < far ∧ ¬ far * far < N * (r * W * (r * W)) := by
  have n0 : 0 ≤ L * r * W := Int.mul_nonneg (Int.mul_nonneg hL hr) hw
  refine ⟨by omega, ?_⟩
  have s := g_sqle n0 (show L * r * W ≤ -far by omega)
  have m := Int.mul_le_mul_of_nonneg_right hN (show 0 ≤ r * W * (r * W) from sq_nn _)
  have e1 : L * L * (r * W * (r * W)) = L * r * W * (L * r * W) := by grind
  have e2 : -far * -far = far * far := Int.neg_mul_neg _ _
  rw [e1] at m
  rw [e2] at s
  omega
theorem cell_div {c k : Int} (h : Cell c) (hk : 0 < k) : Cell (c / k) := ⟨Int.ediv_nonneg h.1 (by omega), Nat.le_trans (lg_div hk) h.2⟩
theorem dot4_sc {dir : V3} {X : V4} {c : Int} : dot4 dir (sc4 c X) = c * dot4 dir X := by
  unfold dot4 sc4
  dsimp only
  grind
/-- a true end of a body stays behind -/
theorem end_behind {m : Mover} {dir : V3} {x : Int × Body} {vs : List (Int × Int)} {row hs : List Int} {os : List V4} {E : Int} (hm : MoverOk m) (hx : x ∈ bodiesV m) (hdir : Szv dir 10) (vl : vs.length = m.arm.joints.length) (rl : row.length = m.arm.joints.length) (hl : hs.length = m.arm.joints.length) (ol : os.length = m.arm.joints.length)
    (hv : ∀ v ∈ vs, VOk v) (ho : ∀ q ∈ os, OOk q)
    (ok : ∀ (k : Nat) j v m' h q, m.arm.joints[k]? = some j → vs[k]? = some v → row[k]? = some m' → hs[k]? = some h → os[k]? = some q → StepOk j v m' h q) (hE : reachV m dir row hs x ≤ E) {pt : V3} (hpt : pt = x.2.first ∨ pt = x.2.last) [Szv pt 30] :
    0 < (placeL m.arm.joints vs os x.1.toNat pt x.1.toNat).2.2.2 ∧ dot4 dir (placeL m.arm.joints vs os x.1.toNat pt x.1.toNat) + lu dir * x.2.radius * (placeL m.arm.joints vs os x.1.toNat pt x.1.toNat).2.2.2 ≤ E * (placeL m.arm.joints vs os x.1.toNat pt x.1.toNat).2.2.2 := by
  obtain ⟨_, l0, l1, _⟩ := lu_ok (v := dir) (m := 10)
  obtain ⟨u0, w0, nr⟩ := end_near hm hx vl rl hl ol ok hpt rfl rfl rfl
  have told : dotv dir (fl4 (spotP m.arm.joints row x.1.toNat pt)) + lu dir * (x.2.radius + (ust m.arm.joints hs x.1.toNat x.2.first x.2.last x.1.toNat).1) ≤ E := by
    refine Int.le_trans ?_ hE
    unfold reachV spotsV
    dsimp only
    rcases hpt with rfl | rfl
    · have := Int.le_max_left (dotv dir (fl4 (spotP m.arm.joints row x.1.toNat x.2.first))) (dotv dir (fl4 (spotP m.arm.joints row x.1.toNat x.2.last)))
      omega
    · have := Int.le_max_right (dotv dir (fl4 (spotP m.arm.joints row x.1.toNat x.2.first))) (dotv dir (fl4 (spotP m.arm.joints row x.1.toNat x.2.last)))
      omega
  have er := end_reach w0 l0 u0 l1 nr told
  obtain ⟨c, c0, e⟩ := placeL_sc (js := m.arm.joints) (link := x.1.toNat) (pt := pt) hv ho x.1.toNat
  rw [e, dot4_sc]
  generalize placeP m.arm.joints vs os x.1.toNat pt x.1.toNat = X at *
  have ew : (sc4 c X).2.2.2 = c * X.2.2.2 := rfl
  rw [ew]
  refine ⟨Int.mul_pos c0 w0, ?_⟩
  have er : dot4 dir X + lu dir * x.2.radius * X.2.2.2 ≤ E * X.2.2.2 := er
  have m1 := Int.mul_le_mul_of_nonneg_left er (show 0 ≤ c by omega)
  generalize dot4 dir X = D at *
  generalize X.2.2.2 = w at *
  grind
theorem law_true (ns : List Int) (hl : ns.length ≤ 63) (hb : ∀ z ∈ ns, Builtin.Int.intBits z ≤ 1048576) : m_law ns = some true := by
  refine tot_true ?_
  unfold m_law
  refine t_bind (rows_ok 24 hb hl (by decide)) fun rows ⟨hrl, hrc⟩ => ?_
  have at_ : ∀ (i : Int), 0 ≤ i → i < 24 → ∃ c, atC rows i = some c ∧ Cell c := fun i h0 h1 => by
    obtain ⟨c, e, m, _⟩ := atC_get (xs := rows) h0 (by omega)
    exact ⟨c, e, hrc c m⟩
  obtain ⟨c10, e10, h10⟩ := at_ 10 (by decide) (by decide)
  obtain ⟨c11, e11, h11⟩ := at_ 11 (by decide) (by decide)
  obtain ⟨c12, e12, h12⟩ := at_ 12 (by decide) (by decide)
  obtain ⟨c20, e20, h20⟩ := at_ 20 (by decide) (by decide)
  haveI := h11.sz; haveI := h12.sz; haveI := h20.sz
  refine t_eq e10 (t_bind (law_mover_ok ⟨by decide, by omega⟩ hrc h10) fun m ⟨hm, mj, mc, mc1, _⟩ => ?_)
  refine t_eq e11 (t_mod (by decide) fun x _ x0 x1 _ => t_eq e11 (t_div (by decide) (t_mod (by decide) fun y _ y0 y1 _ => t_eq e11 (t_div (by decide) (t_mod (by decide) fun z _ z0 z1 _ => t_lt ?_)))))
  have hdir : DirOk (x - 9, y - 9, 1 + z) := ⟨by show (x - 9).natAbs ≤ 9; omega, by show (y - 9).natAbs ≤ 9; omega, by show 1 ≤ 1 + z ∧ 1 + z ≤ 9; omega⟩
  generalize ((x - 9, y - 9, 1 + z) : V3) = dir at *
  refine t_eq e12 (t_mod (by decide) fun d _ d0 d1 _ => ?_)
  have ne : bodiesV m ≠ [] := fun e => by
    have := congrArg List.length e
    unfold bodiesV at this
    rw [List.length_append, List.length_map, List.length_map, List.length_nil] at this
    omega
  haveI := hdir.sz
  obtain ⟨E, eE, hEz, eM, hE⟩ := extent_ok hm ne hdir ⟨d0, show d ≤ 3 by omega⟩
  have M0 : (0 : Int) < 2 ^ d.toNat := pw_pos _
  have M1 : (2 : Int) ^ d.toNat ≤ 8 := pw_le (a := d.toNat) (b := 3) (by omega)
  have e1 : (1 : Int) * 2 ^ d.toNat = 2 ^ d.toNat := Int.one_mul _
  have rb := fun a (ha : 0 ≤ a ∧ a < 2 ^ d.toNat) => reach_both (dir := dir) (d := d) (a := a) hm ne inferInstance ⟨d0, by omega⟩ ha
  refine t_eq eE (tot_shl ⟨d0, by omega, by decide⟩ ?_)
  rw [e1]
  refine tot_rng (by omega) (t_eq (x := (rng 0 (2 ^ d.toNat)).map (Rf m dir d)) (mapC_all (by rw [rng_len]; omega) fun a ha => ?_) ?_)
  · rw [(rb a (mem_rng.mp ha)).2.1]
    rfl
  refine t_eq eM (t_eq (x := true) rfl (t_no (by rw [decide_eq_true rfl]; rfl) (t_eq (bodies_eq hm) ?_)))
  have bl := bodies_len hm
  have b0 : 0 < (bodiesV m).length := List.length_pos_iff.mpr ne
  refine tot_thenF (W := fun _ => True) (tot_forF trivial fun k _ hk _ => ?_) fun _ _ => ?_
  · obtain ⟨k0, k1⟩ := mem_rng.mp hk
    obtain ⟨c1, g1, q1⟩ := at_ (13 + k) (by omega) (by omega)
    obtain ⟨c2, g2, q2⟩ := at_ (14 + k) (by omega) (by omega)
    haveI := q1.sz
    refine t_eq g1 (t_mod (by decide) fun u _ u0 u1 _ => t_lt (t_eq g1 (t_div (by decide) ?_)))
    haveI : Szl (1 + u + 1) 10 := szl_le (szl_abs_of (B := 40) (by omega)) (by decide)
    refine t_mod (by omega) fun p1 _ p0 p3 _ => t_lt (t_eq g1 (t_div (by decide) ?_))
    haveI : Szl ((bodiesV m).length : Int) 10 := szl_le (szl_abs_of (B := 20) (by omega)) (by decide)
    refine t_mod (by omega) fun ix _ i0 i1 _ => t_eq g2 ?_
    have hp2 : 0 < 1 + u ∧ 1 + u ≤ 1000 := by omega
    have hp1 : 0 ≤ p1 ∧ p1 ≤ 1 + u := by omega
    generalize 1 + u = p2 at *
    obtain ⟨xb, exb, hxm, _⟩ := atC_get (xs := bodiesV m) i0 i1
    obtain ⟨a, ov, ha, hov, hpa⟩ := part_of hp2.1 hp1 M0
    obtain ⟨_, _, _, row, hs, hr, hmid, hhl, hhh, hle⟩ := rb a ha
    have hMM : (2 : Int) ^ (d + 1).toNat = 2 * 2 ^ d.toNat := by
      have : (d + 1).toNat = d.toNat + 1 := by omega
      rw [this, Int.pow_succ, Int.mul_comm]
    rw [hMM] at hmid hhh
    have hxE := Int.le_trans (hle xb hxm) (hE a ha.1 ha.2)
    have jn := hm.a.n
    obtain ⟨hk2, hbo⟩ := bodies_mem hm xb hxm
    obtain ⟨z1', z2'⟩ := hbo.szs
    have exl : xb.1 = ((xb.1.toNat : Nat) : Int) := by omega
    -- the true line
    refine t_bind (P := fun r : List Int × List Int => ∃ P Q : V4, r = (l4 P, l4 Q) ∧ Sz4 P 1000 ∧ Sz4 Q 1000 ∧ 0 < P.2.2.2 ∧ 0 < Q.2.2.2 ∧ dot4 dir P + lu dir * xb.2.radius * P.2.2.2 ≤ E * P.2.2.2 ∧ dot4 dir Q + lu dir * xb.2.radius * Q.2.2.2 ≤ E * Q.2.2.2) ?_ fun r hr' => ?_
    · unfold m__law_true_line
      refine t_lt (t_bind (meant_val (mv := m.move) hm.a.j (by omega) hm.f hm.l q2 hp2 hp1) fun vs ⟨vl, hv⟩ => t_div (by decide) (t_bind (offsets_val hm.a.j (by omega) (cell_div q2 (by decide))) fun os ⟨ol, ho⟩ => t_eq (bodies_eq hm) (t_eq exb ?_)))
      have ok := steps_ok (mv := m.move) hm.a.j hm.f hm.l M0 hp2 hp1 hov hpa hv ho hmid hhh
      have hvo : ∀ v ∈ vs, VOk v := fun v h => by
        obtain ⟨i, hi⟩ := List.mem_iff_getElem?.mp h
        exact (hv i v hi).1
      have hoo : ∀ q ∈ os, OOk q := fun q h => by
        obtain ⟨i, hi⟩ := List.mem_iff_getElem?.mp h
        have hk := (List.getElem?_eq_some_iff.mp hi).1
        have rl := hr.1
        have f0 : m.arm.joints[i]? = some (m.arm.joints[i]'(by omega)) := List.getElem?_eq_getElem (by omega)
        have f1 : vs[i]? = some (vs[i]'(by omega)) := List.getElem?_eq_getElem (by omega)
        have f2 : row[i]? = some (row[i]'(by omega)) := List.getElem?_eq_getElem (by omega)
        have f3 : hs[i]? = some (hs[i]'(by omega)) := List.getElem?_eq_getElem (by omega)
        exact (ok i _ _ _ _ _ f0 f1 f2 f3 hi).qo
      have lt1 := law_true_eq (js := m.arm.joints) (vs := vs) (os := os) (link := xb.1.toNat) (pt := xb.2.first) (by omega) (by omega) vl ol hm.a.j hvo hoo
      have lt2 := law_true_eq (js := m.arm.joints) (vs := vs) (os := os) (link := xb.1.toNat) (pt := xb.2.last) (by omega) (by omega) vl ol hm.a.j hvo hoo
      rw [← exl] at lt1 lt2
      have pl1 := placeL_ok (js := m.arm.joints) (link := xb.1.toNat) (pt := xb.2.first) hvo hoo xb.1.toNat
      have pl2 := placeL_ok (js := m.arm.joints) (link := xb.1.toNat) (pt := xb.2.last) hvo hoo xb.1.toNat
      have n1 := end_behind hm hxm inferInstance vl hr.1 hhl ol hvo hoo ok hxE (.inl rfl)
      have n2 := end_behind hm hxm inferInstance vl hr.1 hhl ol hvo hoo ok hxE (.inr rfl)
      exact t_eq lt1 (t_eq lt2 (tot_some ⟨_, _, rfl, sz4_le pl1.2 (by omega), sz4_le pl2.2 (by omega), n1.1, n2.1, n1.2, n2.2⟩))
    obtain ⟨P, Q, rfl, s1, s2, w1, w2, b1, b2⟩ := hr'
    refine t_eq e20 (t_mod (by decide) fun o _ o0 o1 _ => ?_)
    have hmx := mix_behind (dir := dir) w1 w2 ⟨o0, show o ≤ 8 by omega⟩ b1 b2
    refine t_eq (mix_eq s1 s2 ⟨o0, by omega⟩) (t_eq (dot2_eq inferInstance (mix_sz s1 s2 ⟨o0, by omega⟩)) (t_eq (x := E) rfl ?_))
    have smx := mix_sz s1 s2 (o := o) ⟨o0, by omega⟩
    have wmx : 0 < (mixV P Q o).2.2.2 := Int.mul_pos (Int.mul_pos w1 w2) (by decide)
    have sD : Szl (dot4 dir (mixV P Q o)) 4100 := by
      unfold dot4
      exact szl_le inferInstance (by decide)
    generalize dot4 dir (mixV P Q o) = D at *
    generalize mixV P Q o = W at *
    refine t_mul (t_lt (t_eq exb (t_lt ?_)))
    obtain ⟨_, l0, l1, _⟩ := lu_ok (v := dir) (m := 10)
    have rr := hbo.r
    obtain ⟨f1, f2⟩ := far_ok (far := D - E * W.2.2.2) l0 l1 rr.1 (show 0 ≤ W.2.2.2 by omega) rfl hmx
    haveI : Szl xb.2.radius 24 := szl_le (szl_abs_of (B := 10000000) (by omega)) (by decide)
    haveI : Szl (D - E * W.2.2.2) 8100 := szl_le inferInstance (by decide)
    refine t_eq (x := false) (eq_of (t_no (decide_eq_false f1) (t_mul (t_eq (ldot_eq (m := 10) (n := 10)) (t_mul (t_sqs (t_mul (tot_some (decide_eq_false f2))))))))) (t_no rfl (t_go trivial))
  · have hbare : MoverOk ⟨⟨m.arm.joints, [], []⟩, m.move, []⟩ := ⟨⟨hm.a.n, hm.a.j, Nat.zero_le _, (fun _ h => nomatch h)⟩, hm.f, hm.l, (fun _ h => nomatch h), Nat.zero_le _⟩
    refine t_eq (arm_bare hm.a.n) (t_eq (x := ⟨⟨m.arm.joints, [], []⟩, m.move, []⟩) rfl (t_eq (bare_ok hbare rfl hdir ⟨d0, by omega⟩) (t_no rfl ?_)))
    obtain ⟨d2, d3⟩ := dir_tests hdir
    have x1 : ∀ m' : Mover, xm_extent m' (0, 0, 0) 9 = some "direction" := fun _ => rfl
    have x2 : ∀ m' : Mover, xm_extent m' (0, 1001, 0) 0 = some "direction" := fun _ => rfl
    have x3 : ∀ m' : Mover, xm_extent m' dir 9 = some "depth" := fun m' => eq_of (by
      unfold xm_extent
      exact t_eq d2 (t_no d3 (t_yes rfl (tot_some rfl))))
    have x4 : ∀ m' : Mover, xm_extent m' (1000, 0, -1000) (-1) = some "depth" := fun _ => rfl
    refine t_eq (refused_of (x1 _)) (t_eq (x := false) (eq_of (t_no rfl (t_eq (refused_of (x2 _)) (tot_some rfl)))) (t_no rfl ?_))
    exact t_eq (refused_of (x3 _)) (t_eq (x := true) (eq_of (t_yes rfl (t_eq (refused_of (x4 _)) (tot_some rfl)))) (tot_some rfl))
end G

namespace G
open PySem L2 DL PyProof.Rows
def topS (i : Nat) : Stmt := PySem.Challenge.pw_armwarrant_k41_whole_extents.main.body.getD i (.Pass ⟨0, 0, 0, 0⟩)
structure Ads where
  c_Joint : Addr
  c_Body : Addr
  c_Capsule : Addr
  c_Arm : Addr
  c_Move : Addr
  c_Mover : Addr
  c_OutOfRange : Addr
  x_OutOfRange : Addr
  f__law_rows : Addr
  d__law_rows : FuncData
  f_is_within : Addr
  d_is_within : FuncData
  f_Joint_init : Addr
  d_Joint_init : FuncData
  f__law_joint : Addr
  d__law_joint : FuncData
  f_Body_init : Addr
  d_Body_init : FuncData
  f_Capsule_init : Addr
  d_Capsule_init : FuncData
  f__law_capsule : Addr
  d__law_capsule : FuncData
  f_Arm_init : Addr
  d_Arm_init : FuncData
  t_Arm_init_beside : Addr
  f__law_arm : Addr
  d__law_arm : FuncData
  f__law_values : Addr
  d__law_values : FuncData
  f_Arm_fits : Addr
  d_Arm_fits : FuncData
  f_Move_init : Addr
  d_Move_init : FuncData
  f_Mover_init : Addr
  d_Mover_init : FuncData
  t_Mover_init_held : Addr
  f__law_mover : Addr
  d__law_mover : FuncData
  f_dot : Addr
  d_dot : FuncData
  f_root_up : Addr
  d_root_up : FuncData
  f_length_up : Addr
  d_length_up : FuncData
  f_Move_middle : Addr
  d_Move_middle : FuncData
  f_Mover_bodies : Addr
  d_Mover_bodies : FuncData
  f_turned : Addr
  d_turned : FuncData
  f_shifted : Addr
  d_shifted : FuncData
  f_added : Addr
  d_added : FuncData
  f_reduced : Addr
  d_reduced : FuncData
  f_true_place : Addr
  d_true_place : FuncData
  f_spot : Addr
  d_spot : FuncData
  f_Mover_lines : Addr
  d_Mover_lines : FuncData
  f_divide_up : Addr
  d_divide_up : FuncData
  f_Move_halves : Addr
  d_Move_halves : FuncData
  f_unknown : Addr
  d_unknown : FuncData
  f_Mover_unknowns : Addr
  d_Mover_unknowns : FuncData
  f_reach_over : Addr
  d_reach_over : FuncData
  f_extent : Addr
  d_extent : FuncData
  f__law_dot : Addr
  d__law_dot : FuncData
  f__law_root_up : Addr
  d__law_root_up : FuncData
  f__law_reach : Addr
  d__law_reach : FuncData
  f__law_is_integer : Addr
  d__law_is_integer : FuncData
  f__law_meant : Addr
  d__law_meant : FuncData
  f__law_offsets : Addr
  d__law_offsets : FuncData
  f__law_turned : Addr
  d__law_turned : FuncData
  f__law_true : Addr
  d__law_true : FuncData
  f__law_true_line : Addr
  d__law_true_line : FuncData
  f__law_mix : Addr
  d__law_mix : FuncData
  f__law_refused : Addr
  d__law_refused : FuncData
  f_law : Addr
  d_law : FuncData
abbrev d_Joint (A : Ads) (x : Joint) : Dt := .obj A.c_Joint [(("turns" : Str), .bl x.turns), (("axis" : Str), .int x.axis), (("offset" : Str), (dT3 Dt.int Dt.int Dt.int) x.offset), (("least" : Str), .int x.least), (("most" : Str), .int x.most), (("box" : Str), .int x.box), (("error" : Str), .int x.error), (("speed" : Str), .int x.speed), (("accel" : Str), .int x.accel), (("brake" : Str), .int x.brake)]
abbrev d_Body (A : Ads) (x : Body) : Dt := .obj A.c_Body [(("first" : Str), (dT3 Dt.int Dt.int Dt.int) x.first), (("last" : Str), (dT3 Dt.int Dt.int Dt.int) x.last), (("radius" : Str), .int x.radius)]
abbrev d_Capsule (A : Ads) (x : Capsule) : Dt := .obj A.c_Capsule [(("link" : Str), .int x.link), (("body" : Str), (d_Body A) x.body)]
abbrev d_Arm (A : Ads) (x : Arm) : Dt := .obj A.c_Arm [(("joints" : Str), .tup (List.map (d_Joint A) x.joints)), (("capsules" : Str), .tup (List.map (d_Capsule A) x.capsules)), (("beside" : Str), .tup (List.map (dT2 Dt.int Dt.int) x.beside))]
abbrev d_Move (A : Ads) (x : Move) : Dt := .obj A.c_Move [(("first" : Str), .tup (List.map Dt.int x.first)), (("last" : Str), .tup (List.map Dt.int x.last))]
abbrev d_Mover (A : Ads) (x : Mover) : Dt := .obj A.c_Mover [(("arm" : Str), (d_Arm A) x.arm), (("move" : Str), (d_Move A) x.move), (("held" : Str), .tup (List.map (d_Body A) x.held))]
structure Top (P : Program) (K : PySem.W.Frag) (mg : Str → Option Value) (A : Ads) : Prop where
  F__law_rows : Fun K "_law_rows" "_law_rows" (topS 46) A.f__law_rows A.d__law_rows
  g__law_rows : mg "_law_rows" = some (.ref A.f__law_rows)
  F_is_within : Fun K "is_within" "is_within" (topS 31) A.f_is_within A.d_is_within
  g_is_within : mg "is_within" = some (.ref A.f_is_within)
  F_Joint_init : Fun K "__init__" "Joint.__init__" (inClass (topS 32) 0) A.f_Joint_init A.d_Joint_init
  D_Joint_init : FunD K "__init__" "Joint.__init__" (defArgs (inClass (topS 32) 0)) (defBody (inClass (topS 32) 0)) (defScope (inClass (topS 32) 0)) [] [(("box" : Str), V.int 0), (("error" : Str), V.int 0), (("speed" : Str), V.int 1), (("accel" : Str), V.int 1), (("brake" : Str), V.int 1)] A.f_Joint_init A.d_Joint_init
  F__law_joint : Fun K "_law_joint" "_law_joint" (topS 50) A.f__law_joint A.d__law_joint
  g__law_joint : mg "_law_joint" = some (.ref A.f__law_joint)
  F_Body_init : Fun K "__init__" "Body.__init__" (inClass (topS 37) 0) A.f_Body_init A.d_Body_init
  F_Capsule_init : Fun K "__init__" "Capsule.__init__" (inClass (topS 38) 0) A.f_Capsule_init A.d_Capsule_init
  F__law_capsule : Fun K "_law_capsule" "_law_capsule" (topS 51) A.f__law_capsule A.d__law_capsule
  g__law_capsule : mg "_law_capsule" = some (.ref A.f__law_capsule)
  F_Arm_init : Fun K "__init__" "Arm.__init__" (inClass (topS 39) 0) A.f_Arm_init A.d_Arm_init
  D_Arm_init : FunD K "__init__" "Arm.__init__" (defArgs (inClass (topS 39) 0)) (defBody (inClass (topS 39) 0)) (defScope (inClass (topS 39) 0)) [] [(("beside" : Str), V.ref A.t_Arm_init_beside)] A.f_Arm_init A.d_Arm_init
  e_Arm_init_beside : ∀ G : Hp, Rep K G (.ref A.t_Arm_init_beside) (.tup [])
  F__law_arm : Fun K "_law_arm" "_law_arm" (topS 53) A.f__law_arm A.d__law_arm
  g__law_arm : mg "_law_arm" = some (.ref A.f__law_arm)
  F__law_values : Fun K "_law_values" "_law_values" (topS 52) A.f__law_values A.d__law_values
  g__law_values : mg "_law_values" = some (.ref A.f__law_values)
  F_Arm_fits : Fun K "fits" "Arm.fits" (inClass (topS 39) 1) A.f_Arm_fits A.d_Arm_fits
  m_Arm_fits : Meth K A.c_Arm "fits" A.f_Arm_fits
  F_Move_init : Fun K "__init__" "Move.__init__" (inClass (topS 13) 0) A.f_Move_init A.d_Move_init
  F_Mover_init : FunD K "__init__" "Mover.__init__" (defArgs (inClass (topS 24) 0)) (defBody (inClass (topS 24) 0)) (defScope (inClass (topS 24) 0)) [V.ref A.t_Mover_init_held] [] A.f_Mover_init A.d_Mover_init
  e_Mover_init_held : ∀ G : Hp, Rep K G (.ref A.t_Mover_init_held) (.tup [])
  F__law_mover : Fun K "_law_mover" "_law_mover" (topS 54) A.f__law_mover A.d__law_mover
  g__law_mover : mg "_law_mover" = some (.ref A.f__law_mover)
  F_dot : Fun K "dot" "dot" (topS 10) A.f_dot A.d_dot
  g_dot : mg "dot" = some (.ref A.f_dot)
  F_root_up : Fun K "root_up" "root_up" (topS 8) A.f_root_up A.d_root_up
  g_root_up : mg "root_up" = some (.ref A.f_root_up)
  F_length_up : Fun K "length_up" "length_up" (topS 11) A.f_length_up A.d_length_up
  g_length_up : mg "length_up" = some (.ref A.f_length_up)
  F_Move_middle : Fun K "middle" "Move.middle" (inClass (topS 13) 1) A.f_Move_middle A.d_Move_middle
  m_Move_middle : Meth K A.c_Move "middle" A.f_Move_middle
  F_Mover_bodies : Fun K "bodies" "Mover.bodies" (inClass (topS 24) 1) A.f_Mover_bodies A.d_Mover_bodies
  m_Mover_bodies : Meth K A.c_Mover "bodies" A.f_Mover_bodies
  F_turned : Fun K "turned" "turned" (topS 17) A.f_turned A.d_turned
  g_turned : mg "turned" = some (.ref A.f_turned)
  F_shifted : Fun K "shifted" "shifted" (topS 18) A.f_shifted A.d_shifted
  g_shifted : mg "shifted" = some (.ref A.f_shifted)
  F_added : Fun K "added" "added" (topS 19) A.f_added A.d_added
  g_added : mg "added" = some (.ref A.f_added)
  F_reduced : Fun K "reduced" "reduced" (topS 16) A.f_reduced A.d_reduced
  g_reduced : mg "reduced" = some (.ref A.f_reduced)
  F_true_place : Fun K "true_place" "true_place" (topS 20) A.f_true_place A.d_true_place
  g_true_place : mg "true_place" = some (.ref A.f_true_place)
  F_spot : Fun K "spot" "spot" (topS 21) A.f_spot A.d_spot
  g_spot : mg "spot" = some (.ref A.f_spot)
  F_Mover_lines : Fun K "lines" "Mover.lines" (inClass (topS 24) 2) A.f_Mover_lines A.d_Mover_lines
  m_Mover_lines : Meth K A.c_Mover "lines" A.f_Mover_lines
  F_divide_up : Fun K "divide_up" "divide_up" (topS 9) A.f_divide_up A.d_divide_up
  g_divide_up : mg "divide_up" = some (.ref A.f_divide_up)
  F_Move_halves : Fun K "halves" "Move.halves" (inClass (topS 13) 2) A.f_Move_halves A.d_Move_halves
  m_Move_halves : Meth K A.c_Move "halves" A.f_Move_halves
  F_unknown : Fun K "unknown" "unknown" (topS 22) A.f_unknown A.d_unknown
  g_unknown : mg "unknown" = some (.ref A.f_unknown)
  F_Mover_unknowns : Fun K "unknowns" "Mover.unknowns" (inClass (topS 24) 3) A.f_Mover_unknowns A.d_Mover_unknowns
  m_Mover_unknowns : Meth K A.c_Mover "unknowns" A.f_Mover_unknowns
  F_reach_over : Fun K "reach_over" "reach_over" (topS 43) A.f_reach_over A.d_reach_over
  g_reach_over : mg "reach_over" = some (.ref A.f_reach_over)
  F_extent : Fun K "extent" "extent" (topS 44) A.f_extent A.d_extent
  g_extent : mg "extent" = some (.ref A.f_extent)
  F__law_dot : Fun K "_law_dot" "_law_dot" (topS 48) A.f__law_dot A.d__law_dot
  g__law_dot : mg "_law_dot" = some (.ref A.f__law_dot)
  F__law_root_up : Fun K "_law_root_up" "_law_root_up" (topS 49) A.f__law_root_up A.d__law_root_up
  g__law_root_up : mg "_law_root_up" = some (.ref A.f__law_root_up)
  F__law_reach : Fun K "_law_reach" "_law_reach" (topS 61) A.f__law_reach A.d__law_reach
  g__law_reach : mg "_law_reach" = some (.ref A.f__law_reach)
  F__law_is_integer : Fun K "_law_is_integer" "_law_is_integer" (topS 47) A.f__law_is_integer A.d__law_is_integer
  g__law_is_integer : mg "_law_is_integer" = some (.ref A.f__law_is_integer)
  F__law_meant : Fun K "_law_meant" "_law_meant" (topS 57) A.f__law_meant A.d__law_meant
  g__law_meant : mg "_law_meant" = some (.ref A.f__law_meant)
  F__law_offsets : Fun K "_law_offsets" "_law_offsets" (topS 58) A.f__law_offsets A.d__law_offsets
  g__law_offsets : mg "_law_offsets" = some (.ref A.f__law_offsets)
  F__law_turned : Fun K "_law_turned" "_law_turned" (topS 55) A.f__law_turned A.d__law_turned
  g__law_turned : mg "_law_turned" = some (.ref A.f__law_turned)
  F__law_true : Fun K "_law_true" "_law_true" (topS 56) A.f__law_true A.d__law_true
  g__law_true : mg "_law_true" = some (.ref A.f__law_true)
  F__law_true_line : Fun K "_law_true_line" "_law_true_line" (topS 59) A.f__law_true_line A.d__law_true_line
  g__law_true_line : mg "_law_true_line" = some (.ref A.f__law_true_line)
  F__law_mix : Fun K "_law_mix" "_law_mix" (topS 60) A.f__law_mix A.d__law_mix
  g__law_mix : mg "_law_mix" = some (.ref A.f__law_mix)
  F__law_refused : Fun K "_law_refused" "_law_refused" (topS 62) A.f__law_refused A.d__law_refused
  g__law_refused : mg "_law_refused" = some (.ref A.f__law_refused)
  F_law : Fun K "law" "law" (topS 63) A.f_law A.d_law
  g_law : mg "law" = some (.ref A.f_law)
  gc_Joint : mg "Joint" = some (.ref A.c_Joint)
  cl_Joint : Cls K A.c_Joint
  mk_Joint : Mk K A.c_Joint A.f_Joint_init
  n_Joint_turns : NoAttr K A.c_Joint "turns"
  n_Joint_axis : NoAttr K A.c_Joint "axis"
  n_Joint_offset : NoAttr K A.c_Joint "offset"
  n_Joint_least : NoAttr K A.c_Joint "least"
  n_Joint_most : NoAttr K A.c_Joint "most"
  n_Joint_box : NoAttr K A.c_Joint "box"
  n_Joint_error : NoAttr K A.c_Joint "error"
  n_Joint_speed : NoAttr K A.c_Joint "speed"
  n_Joint_accel : NoAttr K A.c_Joint "accel"
  n_Joint_brake : NoAttr K A.c_Joint "brake"
  gc_Body : mg "Body" = some (.ref A.c_Body)
  cl_Body : Cls K A.c_Body
  mk_Body : Mk K A.c_Body A.f_Body_init
  n_Body_first : NoAttr K A.c_Body "first"
  n_Body_last : NoAttr K A.c_Body "last"
  n_Body_radius : NoAttr K A.c_Body "radius"
  gc_Capsule : mg "Capsule" = some (.ref A.c_Capsule)
  cl_Capsule : Cls K A.c_Capsule
  mk_Capsule : Mk K A.c_Capsule A.f_Capsule_init
  n_Capsule_link : NoAttr K A.c_Capsule "link"
  n_Capsule_body : NoAttr K A.c_Capsule "body"
  gc_Arm : mg "Arm" = some (.ref A.c_Arm)
  cl_Arm : Cls K A.c_Arm
  mk_Arm : Mk K A.c_Arm A.f_Arm_init
  n_Arm_joints : NoAttr K A.c_Arm "joints"
  n_Arm_capsules : NoAttr K A.c_Arm "capsules"
  n_Arm_beside : NoAttr K A.c_Arm "beside"
  gc_Move : mg "Move" = some (.ref A.c_Move)
  cl_Move : Cls K A.c_Move
  mk_Move : Mk K A.c_Move A.f_Move_init
  n_Move_first : NoAttr K A.c_Move "first"
  n_Move_last : NoAttr K A.c_Move "last"
  gc_Mover : mg "Mover" = some (.ref A.c_Mover)
  cl_Mover : Cls K A.c_Mover
  mk_Mover : Mk K A.c_Mover A.f_Mover_init
  n_Mover_arm : NoAttr K A.c_Mover "arm"
  n_Mover_move : NoAttr K A.c_Mover "move"
  n_Mover_held : NoAttr K A.c_Mover "held"
  X_OutOfRange : PySem.DLX.ExcT P K mg "OutOfRange" A.c_OutOfRange A.x_OutOfRange
  xe_OutOfRange : PySem.W.exmOne K (.ref A.c_OutOfRange) (.ref A.c_OutOfRange) = some true
  z_abs : mg "abs" = none
  z_all : mg "all" = none
  z_bool : mg "bool" = none
  z_int : mg "int" = none
  z_isinstance : mg "isinstance" = none
  z_len : mg "len" = none
  z_list : mg "list" = none
  z_max : mg "max" = none
  z_range : mg "range" = none
  z_tuple : mg "tuple" = none
  i_gcd : mg "gcd" = some (.builtin "math.gcd")
  i_isqrt : mg "isqrt" = some (.builtin "math.isqrt")
  g_DEEPEST : ∃ t, mg "DEEPEST" = some (.int 8 t)
  g_FAR : ∃ t, mg "FAR" = some (.int 10000000 t)
  g_FAST : ∃ t, mg "FAST" = some (.int 1000000000 t)
  g_HARD : ∃ t, mg "HARD" = some (.int 10000000000 t)
  g_LOOSE : ∃ t, mg "LOOSE" = some (.int 100000 t)
  g_MOST_CAPSULES : ∃ t, mg "MOST_CAPSULES" = some (.int 8 t)
  g_MOST_JOINTS : ∃ t, mg "MOST_JOINTS" = some (.int 6 t)
  g_STEEP : ∃ t, mg "STEEP" = some (.int 8000000 t)
  g_STEEPEST : ∃ t, mg "STEEPEST" = some (.int 1000 t)
  g_THICK : ∃ t, mg "THICK" = some (.int 1000000 t)
  g_UNIT : ∃ t, mg "UNIT" = some (.int 1000000 t)
variable {P : Program} {w : World} {K : PySem.W.Frag} {mg : Str → Option Value} {base : Heap} {A : Ads}
theorem sc__law_rows : FnScope ["_law_script", "_law_count", "_law_rows_here", "_law_k", "_law_cell"] ["_law_script", "_law_count"] (defScope (topS 46)) := ⟨rfl, rfl, rfl, by decide +kernel, rfl, by decide +kernel, by decide +kernel⟩
theorem b__law_rows (T : Top P K mg A) : Binds K A.d__law_rows ["_law_script", "_law_count"] [] := T.F__law_rows.binds (ps := ["_law_script", "_law_count"]) fun _ _ _ _ _ _ us hl => match us, hl with | [_, _], _ => rfl
def P__law_rows (A : Ads) (ds : List Dt) (d : Dt) : Prop := ∃ (script : (List Int)) (count : Int) (r : (List Int)), ds = [.lst (List.map Dt.int script), .int count] ∧ m__law_rows script count = some r ∧ d = .lst (List.map Dt.int r)
set_option maxHeartbeats 4000000 in
theorem ok__law_rows (T : Top P K mg A) : FnOk P w K mg base CX0 1 A.f__law_rows A.d__law_rows ["_law_script", "_law_count"] (FSpec K (RD (P__law_rows A))) :=
  fn_D T.F__law_rows sc__law_rows (fun ds d h => by obtain ⟨script, count, r, rfl, _, _⟩ := h; rfl) fun cdv A1 outer s H E hr => ⟨_, pss_cons (ps_set (i := 2) sc__law_rows.nd rfl (by first | exact Or.inl rfl | exact Or.inr rfl) (pe_lst (pa_nil)))
 (pss_cons (ps_for PassesOwn.never rfl (pi_range1 (by rfl) T.z_range (pa_cons (pv 1) (pa_nil))) (pg_name (i := 3) sc__law_rows.nd rfl (by first | exact Or.inl rfl | exact Or.inr rfl)) (pss_cons (ps_set (i := 4) sc__law_rows.nd rfl (by first | exact Or.inl rfl | exact Or.inr rfl) (pe_int))
 (pss_cons (ps_if (pt_cmpR op_gt (pe_callB cr_lenS (by rfl) T.z_len bt_len (pa_cons (pv 0) (pa_nil))) (pe_int) (nomark _)) (pss_cons (ps_set (i := 4) sc__law_rows.nd rfl (by first | exact Or.inl rfl | exact Or.inr rfl) (pe_callTy cr_int (by rfl) T.z_int bt_int (pa_cons (pe_ix ix_list (pv 0) (pe_op op_mod (pe_callTy cr_int (by rfl) T.z_int bt_int (pa_cons (pv 3) (pa_nil))) (pe_callB cr_lenS (by rfl) T.z_len bt_len (pa_cons (pv 0) (pa_nil)))) (fun _ _ => rfl)) (pa_nil))))
 (pss_nil)) (pss_nil))
 (pss_cons (ps_if (pt_cmpR op_lt (pv 4) (pe_int) (nomark _)) (pss_cons (ps_set (i := 4) sc__law_rows.nd rfl (by first | exact Or.inl rfl | exact Or.inr rfl) (pe_op op_sub (pe_int) (pe_op op_mulG (pe_int) (pv 4))))
 (pss_nil)) (pss_nil))
 (pss_cons (ps_if (PW.pt (pw_or (pt_cmpR op_ge (pv 3) (pe_callB cr_lenS (by rfl) T.z_len bt_len (pa_cons (pv 0) (pa_nil))) (nomark _)) (pw_or1 (pt_cmpR op_lt (pv 4) (pe_int) (nomark _))))) (pss_cons (ps_set (i := 4) sc__law_rows.nd rfl (by first | exact Or.inl rfl | exact Or.inr rfl) (pe_op op_mod (pe_callTy cr_int (by rfl) T.z_int bt_int (pa_cons (pe_op op_add (pe_op op_mulG (pe_op op_add (pe_op op_add (pv 4) (pe_op op_mulG (pe_int) (pv 3))) (pe_int)) (pe_int)) (pe_op op_mulG (pe_op op_mulG (pv 3) (pv 3)) (pe_int))) (pa_nil))) (pe_int)))
 (pss_cons (ps_set (i := 4) sc__law_rows.nd rfl (by first | exact Or.inl rfl | exact Or.inr rfl) (pe_op op_mod (pe_callTy cr_int (by rfl) T.z_int bt_int (pa_cons (pe_op op_mulG (pe_op op_add (pe_op op_add (pv 4) (pe_op op_mulG (pe_int) (pv 3))) (pe_int)) (pe_int)) (pa_nil))) (pe_int)))
 (pss_nil))) (pss_nil))
 (pss_cons (ps_expr (pe_bm PySem.F.plainAttrs_list PySem.F.slot_list_append PySem.F.type_list_append mt_append (pv 2) (pa_cons (pv 4) pa_nil)))
 (pss_nil)))))))
 (pss_cons (ps_ret (pv 2))
 (pss_nil))), fun ds d h => by
    obtain ⟨script, count, r, rfl, h, rfl⟩ := h
    unfold m__law_rows at h
    refine ⟨_, List.replicate 5 .un, sm_run (es := [.d (.lst (List.map Dt.int script)), .d (.int count), .un, .un, .un]) (oc := fun (r : (List Int)) => .rt (.lst (List.map Dt.int r)) (List.replicate 5 .un)) h ?_, .inl rfl⟩
    exact sm_one <|
sm_as <|
sm_lt fun rows_here1 h_rows_here1 =>
sm_own (es' := [.d (.lst (List.map Dt.int script)), .d (.int count), .own none (List.map Dt.int rows_here1), .un, .un]) (el_is (el_lst (ds := List.map Dt.int []) (ea_nil) (by simp)) (congrArg (List.map Dt.int) h_rows_here1)) rfl <|
sm_as <|
sm_bind fun r2 h_r2 =>
sm_seq (env := fun (s : (List Int)) => [.d (.lst (List.map Dt.int script)), .d (.int count), .own none (List.map Dt.int s), .un, .un]) (sm_forL (xs := r2) (em := Dt.int) (env := fun (s : (List Int)) => [.d (.lst (List.map Dt.int script)), .d (.int count), .own none (List.map Dt.int s), .un, .un]) (en2 := fun (k4 : Int) (s3 : (List Int)) => [.d (.lst (List.map Dt.int script)), .d (.int count), .own none (List.map Dt.int s3), .d (.int k4), .un]) (ei_rng1 (ea_cons (ev_var (i := 1) rfl) (ea_nil)) h_r2) (wk_e <| wk_e <| wk_e <| wk_u <| wk_u <| wk_n) (fun k4 s3 => eg_name (vs := [3]) (by simp)) fun k4 s3 h_k4 => sm_one <|
sm_as <|
sm_lt fun cell5 h_cell5 =>
sm_set (es' := [.d (.lst (List.map Dt.int script)), .d (.int count), .own none (List.map Dt.int s3), .d (.int k4), .d (.int cell5)]) (ev_is (ev_int) (congrArg Dt.int h_cell5)) rfl <|
sm_as <|
sm_seq (env := fun (s : Int) => [.d (.lst (List.map Dt.int script)), .d (.int count), .own none (List.map Dt.int s3), .d (.int k4), .d (.int s)]) (sm_one <| sm_if (et_test (ev_gt (ev_lenLm (ev_var (i := 0) rfl)) (ev_int))) (fun hb =>
sm_as <|
sm_bind fun t6 h_t6 =>
sm_bind fun t7 h_t7 =>
sm_set (es' := [.d (.lst (List.map Dt.int script)), .d (.int count), .own none (List.map Dt.int s3), .d (.int k4), .d (.int t7)]) (ev_intI (ev_ixLC (em := Dt.int) (ev_var (i := 0) rfl) (ev_mod (ev_intI (ev_var (i := 3) rfl)) (ev_lenLm (ev_var (i := 0) rfl)) h_t6) h_t7)) rfl <|
sm_nil <|
sm_some (sev_nx (wk_e <| wk_e <| wk_e <| wk_e <| wk_e <| wk_n))) (fun hb =>
sm_nil <|
sm_some (sev_nx (wk_e <| wk_e <| wk_e <| wk_e <| wk_e <| wk_n)))) fun s8 h_s8 =>
sm_as <|
sm_seq (env := fun (s : Int) => [.d (.lst (List.map Dt.int script)), .d (.int count), .own none (List.map Dt.int s3), .d (.int k4), .d (.int s)]) (sm_one <| sm_if (et_test (ev_lt (ev_var (i := 4) rfl) (ev_int))) (fun hb =>
sm_as <|
sm_bind fun t9 h_t9 =>
sm_lt fun cell10 h_cell10 =>
sm_set (es' := [.d (.lst (List.map Dt.int script)), .d (.int count), .own none (List.map Dt.int s3), .d (.int k4), .d (.int cell10)]) (ev_is (ev_sub (ev_int) (ev_mul (ev_int) (ev_var (i := 4) rfl) h_t9)) (congrArg Dt.int h_cell10)) rfl <|
sm_nil <|
sm_some (sev_nx (wk_e <| wk_e <| wk_e <| wk_e <| wk_e <| wk_n))) (fun hb =>
sm_nil <|
sm_some (sev_nx (wk_e <| wk_e <| wk_e <| wk_e <| wk_e <| wk_n)))) fun s11 h_s11 =>
sm_as <|
sm_seq (env := fun (s : Int) => [.d (.lst (List.map Dt.int script)), .d (.int count), .own none (List.map Dt.int s3), .d (.int k4), .d (.int s)]) (sm_one <| sm_if (et_or (et_test (ev_ge (ev_var (i := 3) rfl) (ev_lenLm (ev_var (i := 0) rfl)))) (fun _ => et_test (ev_lt (ev_var (i := 4) rfl) (ev_int)))) (fun hb =>
sm_as <|
sm_bind fun t12 h_t12 =>
sm_bind fun t13 h_t13 =>
sm_bind fun t14 h_t14 =>
sm_bind fun t15 h_t15 =>
sm_bind fun t16 h_t16 =>
sm_set (es' := [.d (.lst (List.map Dt.int script)), .d (.int count), .own none (List.map Dt.int s3), .d (.int k4), .d (.int t16)]) (ev_mod (ev_intI (ev_add (ev_mul (ev_add (ev_add (ev_var (i := 4) rfl) (ev_mul (ev_int) (ev_var (i := 3) rfl) h_t12)) (ev_int)) (ev_int) h_t13) (ev_mul (ev_mul (ev_var (i := 3) rfl) (ev_var (i := 3) rfl) h_t14) (ev_int) h_t15))) (ev_int) h_t16) rfl <|
sm_as <|
sm_bind fun t17 h_t17 =>
sm_bind fun t18 h_t18 =>
sm_bind fun t19 h_t19 =>
sm_set (es' := [.d (.lst (List.map Dt.int script)), .d (.int count), .own none (List.map Dt.int s3), .d (.int k4), .d (.int t19)]) (ev_mod (ev_intI (ev_mul (ev_add (ev_add (ev_var (i := 4) rfl) (ev_mul (ev_int) (ev_var (i := 3) rfl) h_t17)) (ev_int)) (ev_int) h_t18)) (ev_int) h_t19) rfl <|
sm_nil <|
sm_some (sev_nx (wk_e <| wk_e <| wk_e <| wk_e <| wk_e <| wk_n))) (fun hb =>
sm_nil <|
sm_some (sev_nx (wk_e <| wk_e <| wk_e <| wk_e <| wk_e <| wk_n)))) fun s20 h_s20 =>
sm_as <|
sm_bind fun rows_here21 h_rows_here21 =>
sm_app (i := 2) (x := s20) (es' := [.d (.lst (List.map Dt.int script)), .d (.int count), .own none (List.map Dt.int rows_here21), .d (.int k4), .d (.int s20)]) (em := Dt.int) rfl (ev_var (i := 4) rfl) h_rows_here21 rfl <|
sm_nil <|
sm_some (sev_go (wk_e <| wk_e <| wk_e <| wk_u <| wk_u <| wk_n))) fun s22 h_s22 =>
sm_as <|
sm_frz (i := 2) (es' := [.d (.lst (List.map Dt.int script)), .d (.int count), .d (.lst (List.map Dt.int s22)), .un, .un]) rfl rfl <|
sm_some (sev_rt (ev_var (i := 2) rfl) (wk_uns rfl))⟩
theorem sc_is_within : FnScope ["vector", "most"] ["vector", "most"] (defScope (topS 31)) := ⟨rfl, rfl, rfl, by decide +kernel, rfl, by decide +kernel, by decide +kernel⟩
theorem b_is_within (T : Top P K mg A) : Binds K A.d_is_within ["vector", "most"] [] := T.F_is_within.binds (ps := ["vector", "most"]) fun _ _ _ _ _ _ us hl => match us, hl with | [_, _], _ => rfl
def P_is_within (A : Ads) (ds : List Dt) (d : Dt) : Prop := ∃ (vector : (Int × Int × Int)) (most : Int) (r : Bool), ds = [(dT3 Dt.int Dt.int Dt.int) vector, .int most] ∧ m_is_within vector most = some r ∧ d = .bl r
set_option maxHeartbeats 4000000 in
theorem ok_is_within (T : Top P K mg A) : FnOk P w K mg base CX0 1 A.f_is_within A.d_is_within ["vector", "most"] (FSpec K (RD (P_is_within A))) :=
  fn_D T.F_is_within sc_is_within (fun ds d h => by obtain ⟨vector, most, r, rfl, _, _⟩ := h; rfl) fun cdv A1 outer s H E hr => ⟨_, pss_cons (ps_ret (pe_cmpR op_le (pe_callB (cr_max3 rfl) (by rfl) T.z_max bt_max (pa_cons (pe_callB cr_abs (by rfl) T.z_abs bt_abs (pa_cons (pe_ix ix_tup (pv 0) (pe_int) (fun _ _ => rfl)) (pa_nil))) (pa_cons (pe_callB cr_abs (by rfl) T.z_abs bt_abs (pa_cons (pe_ix ix_tup (pv 0) (pe_int) (fun _ _ => rfl)) (pa_nil))) (pa_cons (pe_callB cr_abs (by rfl) T.z_abs bt_abs (pa_cons (pe_ix ix_tup (pv 0) (pe_int) (fun _ _ => rfl)) (pa_nil))) (pa_nil))))) (pv 1) (nomark _)))
 (pss_nil), fun ds d h => by
    obtain ⟨vector, most, r, rfl, h, rfl⟩ := h
    unfold m_is_within at h
    refine ⟨_, List.replicate 2 .un, sm_run (es := [.d ((dT3 Dt.int Dt.int Dt.int) vector), .d (.int most)]) (oc := fun (r : Bool) => .rt (.bl r) (List.replicate 2 .un)) h ?_, .inl rfl⟩
    exact sm_one <|
sm_as <|
sm_some (sev_rt (ev_le (ev_max3 (ev_abs (ev_ixNG 0 rfl rfl (ev_var (i := 0) rfl) (ev_int))) (ev_abs (ev_ixNG 1 rfl rfl (ev_var (i := 0) rfl) (ev_int))) (ev_abs (ev_ixNG 2 rfl rfl (ev_var (i := 0) rfl) (ev_int)))) (ev_var (i := 1) rfl)) (wk_uns rfl))⟩
theorem sc_Joint_init : FnScope ["self", "turns", "axis", "offset", "least", "most", "box", "error", "speed", "accel", "brake", "bound"] ["self", "turns", "axis", "offset", "least", "most", "box", "error", "speed", "accel", "brake"] (defScope (inClass (topS 32) 0)) := ⟨rfl, rfl, rfl, by decide +kernel, rfl, by decide +kernel, by decide +kernel⟩
theorem kb_Joint_init_box_error (T : Top P K mg A) : ∃ mv : List Value, KBn K A.d_Joint_init ["self", "turns", "axis", "offset", "least", "most", "box", "error", "speed", "accel", "brake"] 6 ["box", "error"] (fun us ws => us ++ (ws.drop 0).take 1 ++ (ws.drop 1).take 1 ++ (mv.drop 0).take 1 ++ (mv.drop 1).take 1 ++ (mv.drop 2).take 1) (fun vs zs => vs ++ (zs.drop 0).take 1 ++ (zs.drop 1).take 1 ++ [.int 1] ++ [.int 1] ++ [.int 1]) := by
  refine T.D_Joint_init.kbinds0 6 ["box", "error"] [(("speed" : Str), V.int 1), (("accel" : Str), V.int 1), (("brake" : Str), V.int 1)] (fun us mv ws => us ++ (ws.drop 0).take 1 ++ (ws.drop 1).take 1 ++ (mv.drop 0).take 1 ++ (mv.drop 1).take 1 ++ (mv.drop 2).take 1) (by simp) (by simp) (fun r1 r2 r3 => (((((r1.append ((r3.drop 0).take 1)).append ((r3.drop 1).take 1)).append ((r2.drop 0).take 1)).append ((r2.drop 1).take 1)).append ((r2.drop 2).take 1))) ?_
  intro D doc pm an cdv ct us mv ws l1 l2 l3
  match us, l1, mv, l2, ws, l3 with
  | [_, _, _, _, _, _], _, [_, _, _], _, [_, _], _ => exact ⟨_, _, _, _, _, _, by with_unfolding_all rfl, by with_unfolding_all rfl, _, _, _, _, _, _, by with_unfolding_all rfl, by with_unfolding_all rfl, _, _, _, _, _, _, by with_unfolding_all rfl, by with_unfolding_all rfl, by with_unfolding_all rfl⟩
def P_Joint_init (A : Ads) (ds : List Dt) (fs : List (Str × Dt)) : Prop := ∃ (turns : Bool) (axis : Int) (offset : (Int × Int × Int)) (least : Int) (most : Int) (box : Int) (error : Int) (speed : Int) (accel : Int) (brake : Int) (r : Joint), ds = [.bl turns, .int axis, (dT3 Dt.int Dt.int Dt.int) offset, .int least, .int most, .int box, .int error, .int speed, .int accel, .int brake] ∧ m_Joint_init turns axis offset least most box error speed accel brake = some r ∧ fs = [(("turns" : Str), .bl r.turns), (("axis" : Str), .int r.axis), (("offset" : Str), (dT3 Dt.int Dt.int Dt.int) r.offset), (("least" : Str), .int r.least), (("most" : Str), .int r.most), (("box" : Str), .int r.box), (("error" : Str), .int r.error), (("speed" : Str), .int r.speed), (("accel" : Str), .int r.accel), (("brake" : Str), .int r.brake)]
set_option maxHeartbeats 4000000 in
theorem ok_Joint_init (T : Top P K mg A) : FnOk P w K mg base CX0 2 A.f_Joint_init A.d_Joint_init ["self", "turns", "axis", "offset", "least", "most", "box", "error", "speed", "accel", "brake"] (FSpec K (RI A.c_Joint (P_Joint_init A))) :=
  fn_I T.F_Joint_init sc_Joint_init (fun ds fs h => by obtain ⟨turns, axis, offset, least, most, box, error, speed, accel, brake, r, rfl, _, _⟩ := h; rfl) fun cdv A1 outer s H E hr => ⟨_, pss_cons (ps_set (i := 11) sc_Joint_init.nd rfl (by first | exact Or.inl rfl | exact Or.inr rfl) (pe_ifExp (pt_val (pv 1)) (pe_glob (v := .int 8000000) (by rfl) T.g_STEEP.choose_spec ⟨_, rfl⟩) (pe_glob (v := .int 10000000) (by rfl) T.g_FAR.choose_spec ⟨_, rfl⟩)))
 (pss_cons (ps_if (pt_cmpR op_notIn_seq (pv 2) (pe_tup (pa_cons (pe_int) (pa_cons (pe_int) (pa_cons (pe_int) (pa_nil))))) (by with_unfolding_all rfl)) (pss_cons (ps_never)
 (pss_nil)) (pss_nil))
 (pss_cons (ps_if (pt_not (pt_val (pe_call (ok_is_within T) (hr.mono (by decide)) (by rfl) T.g_is_within T.F_is_within.kp (b_is_within T) .nil pass0 (pa_cons (pv 3) (pa_cons (pe_glob (v := .int 10000000) (by rfl) T.g_FAR.choose_spec ⟨_, rfl⟩) (pa_nil)))))) (pss_cons (ps_never)
 (pss_nil)) (pss_nil))
 (pss_cons (ps_if (pt_not (pt_chain3 op_le op_le op_le (pe_un un_neg (pv 11)) (pv 4) (pv 5) (pv 11))) (pss_cons (ps_never)
 (pss_nil)) (pss_nil))
 (pss_cons (ps_if (pt_not (pt_chain op_le op_le (pe_int) (pv 6) (pe_glob (v := .int 100000) (by rfl) T.g_LOOSE.choose_spec ⟨_, rfl⟩))) (pss_cons (ps_never)
 (pss_nil)) (pss_nil))
 (pss_cons (ps_if (pt_not (pt_chain op_le op_le (pe_int) (pv 7) (pe_glob (v := .int 100000) (by rfl) T.g_LOOSE.choose_spec ⟨_, rfl⟩))) (pss_cons (ps_never)
 (pss_nil)) (pss_nil))
 (pss_cons (ps_if (pt_not (pt_chain op_le op_le (pe_int) (pv 8) (pe_glob (v := .int 1000000000) (by rfl) T.g_FAST.choose_spec ⟨_, rfl⟩))) (pss_cons (ps_never)
 (pss_nil)) (pss_nil))
 (pss_cons (ps_if (pt_not (pt_chain op_le op_le (pe_int) (pv 9) (pe_glob (v := .int 10000000000) (by rfl) T.g_HARD.choose_spec ⟨_, rfl⟩))) (pss_cons (ps_never)
 (pss_nil)) (pss_nil))
 (pss_cons (ps_if (pt_not (pt_chain op_le op_le (pv 9) (pv 10) (pe_glob (v := .int 10000000000) (by rfl) T.g_HARD.choose_spec ⟨_, rfl⟩))) (pss_cons (ps_never)
 (pss_nil)) (pss_nil))
 (pss_cons (ps_fld (pv 0) (pv 1) rfl)
 (pss_cons (ps_fld (pv 0) (pv 2) rfl)
 (pss_cons (ps_fld (pv 0) (pe_callTy cr_tupS (by rfl) T.z_tuple bt_tuple (pa_cons (pv 3) (pa_nil))) rfl)
 (pss_cons (ps_fld (pv 0) (pv 4) rfl)
 (pss_cons (ps_fld (pv 0) (pv 5) rfl)
 (pss_cons (ps_fld (pv 0) (pv 6) rfl)
 (pss_cons (ps_fld (pv 0) (pv 7) rfl)
 (pss_cons (ps_fld (pv 0) (pv 8) rfl)
 (pss_cons (ps_fld (pv 0) (pv 9) rfl)
 (pss_cons (ps_fld (pv 0) (pv 10) rfl)
 (pss_nil))))))))))))))))))), fun p ds fs h => by
    obtain ⟨turns, axis, offset, least, most, box, error, speed, accel, brake, r, rfl, h, rfl⟩ := h
    unfold m_Joint_init at h
    refine ⟨_, List.replicate 11 .un, sm_run (es := [.obo (some p) A.c_Joint [], .d (.bl turns), .d (.int axis), .d ((dT3 Dt.int Dt.int Dt.int) offset), .d (.int least), .d (.int most), .d (.int box), .d (.int error), .d (.int speed), .d (.int accel), .d (.int brake), .un]) (oc := fun (r : Joint) => .nx (.obo (some p) A.c_Joint [(("turns" : Str), .bl r.turns), (("axis" : Str), .int r.axis), (("offset" : Str), (dT3 Dt.int Dt.int Dt.int) r.offset), (("least" : Str), .int r.least), (("most" : Str), .int r.most), (("box" : Str), .int r.box), (("error" : Str), .int r.error), (("speed" : Str), .int r.speed), (("accel" : Str), .int r.accel), (("brake" : Str), .int r.brake)] :: List.replicate 11 .un)) h ?_, .inr ⟨rfl, rfl⟩⟩
    exact sm_one <|
sm_as <|
sm_lt fun bound1 h_bound1 =>
sm_set (es' := [.obo (some p) A.c_Joint [], .d (.bl turns), .d (.int axis), .d ((dT3 Dt.int Dt.int Dt.int) offset), .d (.int least), .d (.int most), .d (.int box), .d (.int error), .d (.int speed), .d (.int accel), .d (.int brake), .d (.int bound1)]) (ev_is (ev_ifP (em := Dt.int) (et_B (ev_var (i := 1) rfl)) (ev_int) (ev_int)) (congrArg Dt.int h_bound1)) rfl <|
sm_as <|
sm_if (et_test (ev_ninTI (xs := [0, 1, 2]) (ev_var (i := 2) rfl) (ev_tup (ea_cons (ev_int) (ea_cons (ev_int) (ea_cons (ev_int) (ea_nil)))) (by simp)))) (fun hb =>
sm_as <|
sm_none) (fun hb =>
sm_nil <|
sm_as <|
sm_bind fun t2 h_t2 =>
sm_if (et_not (et_B (ev_call (ea_cons (ev_var (i := 3) rfl) (ea_cons (ev_int) (ea_nil))) ⟨offset, 10000000, t2, rfl, h_t2, rfl⟩))) (fun hb =>
sm_as <|
sm_none) (fun hb =>
sm_nil <|
sm_as <|
sm_if (et_not (et_test (ev_chain3 (ev_neg (ev_var (i := 11) rfl)) (ev_var (i := 4) rfl) c_le (ev_var (i := 5) rfl) c_le (ev_var (i := 11) rfl) c_le))) (fun hb =>
sm_as <|
sm_none) (fun hb =>
sm_nil <|
sm_as <|
sm_if (et_not (et_test (ev_chain (ev_int) (ev_var (i := 6) rfl) c_le (fun _ => ev_int) (fun _ => c_le)))) (fun hb =>
sm_as <|
sm_none) (fun hb =>
sm_nil <|
sm_as <|
sm_if (et_not (et_test (ev_chain (ev_int) (ev_var (i := 7) rfl) c_le (fun _ => ev_int) (fun _ => c_le)))) (fun hb =>
sm_as <|
sm_none) (fun hb =>
sm_nil <|
sm_as <|
sm_if (et_not (et_test (ev_chain (ev_int) (ev_var (i := 8) rfl) c_le (fun _ => ev_int) (fun _ => c_le)))) (fun hb =>
sm_as <|
sm_none) (fun hb =>
sm_nil <|
sm_as <|
sm_if (et_not (et_test (ev_chain (ev_int) (ev_var (i := 9) rfl) c_le (fun _ => ev_int) (fun _ => c_le)))) (fun hb =>
sm_as <|
sm_none) (fun hb =>
sm_nil <|
sm_as <|
sm_if (et_not (et_test (ev_chain (ev_var (i := 9) rfl) (ev_var (i := 10) rfl) c_le (fun _ => ev_int) (fun _ => c_le)))) (fun hb =>
sm_as <|
sm_none) (fun hb =>
sm_nil <|
sm_as <|
sm_fld (i := 0) (es' := [.obo (some p) A.c_Joint [(("turns" : Str), .bl turns)], .d (.bl turns), .d (.int axis), .d ((dT3 Dt.int Dt.int Dt.int) offset), .d (.int least), .d (.int most), .d (.int box), .d (.int error), .d (.int speed), .d (.int accel), .d (.int brake), .d (.int bound1)]) rfl (ev_var (i := 1) rfl) T.cl_Joint T.n_Joint_turns (by simp) rfl <|
sm_as <|
sm_fld (i := 0) (es' := [.obo (some p) A.c_Joint [(("turns" : Str), .bl turns), (("axis" : Str), .int axis)], .d (.bl turns), .d (.int axis), .d ((dT3 Dt.int Dt.int Dt.int) offset), .d (.int least), .d (.int most), .d (.int box), .d (.int error), .d (.int speed), .d (.int accel), .d (.int brake), .d (.int bound1)]) rfl (ev_var (i := 2) rfl) T.cl_Joint T.n_Joint_axis (by simp) rfl <|
sm_as <|
sm_fld (i := 0) (es' := [.obo (some p) A.c_Joint [(("turns" : Str), .bl turns), (("axis" : Str), .int axis), (("offset" : Str), (dT3 Dt.int Dt.int Dt.int) offset)], .d (.bl turns), .d (.int axis), .d ((dT3 Dt.int Dt.int Dt.int) offset), .d (.int least), .d (.int most), .d (.int box), .d (.int error), .d (.int speed), .d (.int accel), .d (.int brake), .d (.int bound1)]) rfl (ev_tupV (ev_var (i := 3) rfl)) T.cl_Joint T.n_Joint_offset (by simp) rfl <|
sm_as <|
sm_fld (i := 0) (es' := [.obo (some p) A.c_Joint [(("turns" : Str), .bl turns), (("axis" : Str), .int axis), (("offset" : Str), (dT3 Dt.int Dt.int Dt.int) offset), (("least" : Str), .int least)], .d (.bl turns), .d (.int axis), .d ((dT3 Dt.int Dt.int Dt.int) offset), .d (.int least), .d (.int most), .d (.int box), .d (.int error), .d (.int speed), .d (.int accel), .d (.int brake), .d (.int bound1)]) rfl (ev_var (i := 4) rfl) T.cl_Joint T.n_Joint_least (by simp) rfl <|
sm_as <|
sm_fld (i := 0) (es' := [.obo (some p) A.c_Joint [(("turns" : Str), .bl turns), (("axis" : Str), .int axis), (("offset" : Str), (dT3 Dt.int Dt.int Dt.int) offset), (("least" : Str), .int least), (("most" : Str), .int most)], .d (.bl turns), .d (.int axis), .d ((dT3 Dt.int Dt.int Dt.int) offset), .d (.int least), .d (.int most), .d (.int box), .d (.int error), .d (.int speed), .d (.int accel), .d (.int brake), .d (.int bound1)]) rfl (ev_var (i := 5) rfl) T.cl_Joint T.n_Joint_most (by simp) rfl <|
sm_as <|
sm_fld (i := 0) (es' := [.obo (some p) A.c_Joint [(("turns" : Str), .bl turns), (("axis" : Str), .int axis), (("offset" : Str), (dT3 Dt.int Dt.int Dt.int) offset), (("least" : Str), .int least), (("most" : Str), .int most), (("box" : Str), .int box)], .d (.bl turns), .d (.int axis), .d ((dT3 Dt.int Dt.int Dt.int) offset), .d (.int least), .d (.int most), .d (.int box), .d (.int error), .d (.int speed), .d (.int accel), .d (.int brake), .d (.int bound1)]) rfl (ev_var (i := 6) rfl) T.cl_Joint T.n_Joint_box (by simp) rfl <|
sm_as <|
sm_fld (i := 0) (es' := [.obo (some p) A.c_Joint [(("turns" : Str), .bl turns), (("axis" : Str), .int axis), (("offset" : Str), (dT3 Dt.int Dt.int Dt.int) offset), (("least" : Str), .int least), (("most" : Str), .int most), (("box" : Str), .int box), (("error" : Str), .int error)], .d (.bl turns), .d (.int axis), .d ((dT3 Dt.int Dt.int Dt.int) offset), .d (.int least), .d (.int most), .d (.int box), .d (.int error), .d (.int speed), .d (.int accel), .d (.int brake), .d (.int bound1)]) rfl (ev_var (i := 7) rfl) T.cl_Joint T.n_Joint_error (by simp) rfl <|
sm_as <|
sm_fld (i := 0) (es' := [.obo (some p) A.c_Joint [(("turns" : Str), .bl turns), (("axis" : Str), .int axis), (("offset" : Str), (dT3 Dt.int Dt.int Dt.int) offset), (("least" : Str), .int least), (("most" : Str), .int most), (("box" : Str), .int box), (("error" : Str), .int error), (("speed" : Str), .int speed)], .d (.bl turns), .d (.int axis), .d ((dT3 Dt.int Dt.int Dt.int) offset), .d (.int least), .d (.int most), .d (.int box), .d (.int error), .d (.int speed), .d (.int accel), .d (.int brake), .d (.int bound1)]) rfl (ev_var (i := 8) rfl) T.cl_Joint T.n_Joint_speed (by simp) rfl <|
sm_as <|
sm_fld (i := 0) (es' := [.obo (some p) A.c_Joint [(("turns" : Str), .bl turns), (("axis" : Str), .int axis), (("offset" : Str), (dT3 Dt.int Dt.int Dt.int) offset), (("least" : Str), .int least), (("most" : Str), .int most), (("box" : Str), .int box), (("error" : Str), .int error), (("speed" : Str), .int speed), (("accel" : Str), .int accel)], .d (.bl turns), .d (.int axis), .d ((dT3 Dt.int Dt.int Dt.int) offset), .d (.int least), .d (.int most), .d (.int box), .d (.int error), .d (.int speed), .d (.int accel), .d (.int brake), .d (.int bound1)]) rfl (ev_var (i := 9) rfl) T.cl_Joint T.n_Joint_accel (by simp) rfl <|
sm_as <|
sm_fld (i := 0) (es' := [.obo (some p) A.c_Joint [(("turns" : Str), .bl turns), (("axis" : Str), .int axis), (("offset" : Str), (dT3 Dt.int Dt.int Dt.int) offset), (("least" : Str), .int least), (("most" : Str), .int most), (("box" : Str), .int box), (("error" : Str), .int error), (("speed" : Str), .int speed), (("accel" : Str), .int accel), (("brake" : Str), .int brake)], .d (.bl turns), .d (.int axis), .d ((dT3 Dt.int Dt.int Dt.int) offset), .d (.int least), .d (.int most), .d (.int box), .d (.int error), .d (.int speed), .d (.int accel), .d (.int brake), .d (.int bound1)]) rfl (ev_var (i := 10) rfl) T.cl_Joint T.n_Joint_brake (by simp) rfl <|
sm_nil <|
sm_some (sev_nx (wk_e <| wk_uns rfl))))))))))⟩
theorem sc__law_joint : FnScope ["_law_row", "_law_error", "_law_turns", "_law_axis", "_law_offset", "_law_reach_here", "_law_loose"] ["_law_row", "_law_error"] (defScope (topS 50)) := ⟨rfl, rfl, rfl, by decide +kernel, rfl, by decide +kernel, by decide +kernel⟩
theorem b__law_joint (T : Top P K mg A) : Binds K A.d__law_joint ["_law_row", "_law_error"] [] := T.F__law_joint.binds (ps := ["_law_row", "_law_error"]) fun _ _ _ _ _ _ us hl => match us, hl with | [_, _], _ => rfl
def P__law_joint (A : Ads) (ds : List Dt) (d : Dt) : Prop := ∃ (row : Int) (error : Int) (r : Joint), ds = [.int row, .int error] ∧ m__law_joint row error = some r ∧ d = (d_Joint A) r
set_option maxHeartbeats 4000000 in
theorem ok__law_joint (T : Top P K mg A) : FnOk P w K mg base CX0 4 A.f__law_joint A.d__law_joint ["_law_row", "_law_error"] (FSpec K (RD (P__law_joint A))) :=
  fn_D T.F__law_joint sc__law_joint (fun ds d h => by obtain ⟨row, error, r, rfl, _, _⟩ := h; rfl) fun cdv A1 outer s H E hr => ⟨_, pss_cons (ps_set (i := 2) sc__law_joint.nd rfl (by first | exact Or.inl rfl | exact Or.inr rfl) (pe_cmpR op_gt (pe_op op_mod (pe_callTy cr_int (by rfl) T.z_int bt_int (pa_cons (pv 0) (pa_nil))) (pe_int)) (pe_int) (nomark _)))
 (pss_cons (ps_set (i := 3) sc__law_joint.nd rfl (by first | exact Or.inl rfl | exact Or.inr rfl) (pe_op op_mod (pe_callTy cr_int (by rfl) T.z_int bt_int (pa_cons (pe_op op_fdivW (pv 0) (pe_int)) (pa_nil))) (pe_int)))
 (pss_cons (ps_set (i := 4) sc__law_joint.nd rfl (by first | exact Or.inl rfl | exact Or.inr rfl) (pe_tup (pa_cons (pe_op op_sub (pe_op op_mod (pe_callTy cr_int (by rfl) T.z_int bt_int (pa_cons (pe_op op_fdivW (pv 0) (pe_int)) (pa_nil))) (pe_int)) (pe_int)) (pa_cons (pe_op op_sub (pe_op op_mod (pe_callTy cr_int (by rfl) T.z_int bt_int (pa_cons (pe_op op_fdivW (pv 0) (pe_int)) (pa_nil))) (pe_int)) (pe_int)) (pa_cons (pe_op op_sub (pe_op op_mod (pe_callTy cr_int (by rfl) T.z_int bt_int (pa_cons (pe_op op_fdivW (pv 0) (pe_int)) (pa_nil))) (pe_int)) (pe_int)) (pa_nil))))))
 (pss_cons (ps_set (i := 5) sc__law_joint.nd rfl (by first | exact Or.inl rfl | exact Or.inr rfl) (pe_ifExp (pt_val (pv 2)) (pe_int) (pe_int)))
 (pss_cons (ps_set (i := 6) sc__law_joint.nd rfl (by first | exact Or.inl rfl | exact Or.inr rfl) (pv 1))
 (pss_cons (ps_if (pt_not (pt_val (pv 2))) (pss_cons (ps_set (i := 6) sc__law_joint.nd rfl (by first | exact Or.inl rfl | exact Or.inr rfl) (pe_op op_mod (pe_callTy cr_int (by rfl) T.z_int bt_int (pa_cons (pv 1) (pa_nil))) (pe_int)))
 (pss_nil)) (pss_nil))
 (pss_cons (ps_ret (pe_makeK T.mk_Joint (ok_Joint_init T) (hr.mono (by decide)) (by rfl) T.gc_Joint (kb_Joint_init_box_error T).choose_spec pass0 (pa_cons (pv 2) (pa_cons (pv 3) (pa_cons (pv 4) (pa_cons (pe_un un_neg (pv 5)) (pa_cons (pv 5) (pa_nil)))))) (pk_cons (pe_op op_mod (pe_callTy cr_int (by rfl) T.z_int bt_int (pa_cons (pe_op op_fdivW (pv 0) (pe_int)) (pa_nil))) (pe_int)) (pk_cons (pv 6) (pk_nil)))))
 (pss_nil))))))), fun ds d h => by
    obtain ⟨row, error, r, rfl, h, rfl⟩ := h
    unfold m__law_joint at h
    refine ⟨_, List.replicate 7 .un, sm_run (es := [.d (.int row), .d (.int error), .un, .un, .un, .un, .un]) (oc := fun (r : Joint) => .rt ((d_Joint A) r) (List.replicate 7 .un)) h ?_, .inl rfl⟩
    exact sm_one <|
sm_as <|
sm_bind fun t1 h_t1 =>
sm_lt fun turns2 h_turns2 =>
sm_set (es' := [.d (.int row), .d (.int error), .d (.bl turns2), .un, .un, .un, .un]) (ev_is (ev_gt (ev_mod (ev_intI (ev_var (i := 0) rfl)) (ev_int) h_t1) (ev_int)) (congrArg Dt.bl h_turns2)) rfl <|
sm_as <|
sm_bind fun t3 h_t3 =>
sm_bind fun t4 h_t4 =>
sm_set (es' := [.d (.int row), .d (.int error), .d (.bl turns2), .d (.int t4), .un, .un, .un]) (ev_mod (ev_intI (ev_div (ev_var (i := 0) rfl) (ev_int) h_t3)) (ev_int) h_t4) rfl <|
sm_as <|
sm_bind fun t5 h_t5 =>
sm_bind fun t6 h_t6 =>
sm_bind fun t7 h_t7 =>
sm_bind fun t8 h_t8 =>
sm_bind fun t9 h_t9 =>
sm_bind fun t10 h_t10 =>
sm_lt fun offset11 h_offset11 =>
sm_set (es' := [.d (.int row), .d (.int error), .d (.bl turns2), .d (.int t4), .d ((dT3 Dt.int Dt.int Dt.int) offset11), .un, .un]) (ev_is (ev_tup (ea_cons (ev_sub (ev_mod (ev_intI (ev_div (ev_var (i := 0) rfl) (ev_int) h_t5)) (ev_int) h_t6) (ev_int)) (ea_cons (ev_sub (ev_mod (ev_intI (ev_div (ev_var (i := 0) rfl) (ev_int) h_t7)) (ev_int) h_t8) (ev_int)) (ea_cons (ev_sub (ev_mod (ev_intI (ev_div (ev_var (i := 0) rfl) (ev_int) h_t9)) (ev_int) h_t10) (ev_int)) (ea_nil)))) (by simp)) (congrArg (dT3 Dt.int Dt.int Dt.int) h_offset11)) rfl <|
sm_as <|
sm_lt fun reach_here12 h_reach_here12 =>
sm_set (es' := [.d (.int row), .d (.int error), .d (.bl turns2), .d (.int t4), .d ((dT3 Dt.int Dt.int Dt.int) offset11), .d (.int reach_here12), .un]) (ev_is (ev_ifP (em := Dt.int) (et_B (ev_var (i := 2) rfl)) (ev_int) (ev_int)) (congrArg Dt.int h_reach_here12)) rfl <|
sm_as <|
sm_set (es' := [.d (.int row), .d (.int error), .d (.bl turns2), .d (.int t4), .d ((dT3 Dt.int Dt.int Dt.int) offset11), .d (.int reach_here12), .d (.int error)]) (ev_var (i := 1) rfl) rfl <|
sm_as <|
sm_seq (env := fun (s : Int) => [.d (.int row), .d (.int error), .d (.bl turns2), .d (.int t4), .d ((dT3 Dt.int Dt.int Dt.int) offset11), .d (.int reach_here12), .d (.int s)]) (sm_one <| sm_if (et_not (et_B (ev_var (i := 2) rfl))) (fun hb =>
sm_as <|
sm_bind fun t13 h_t13 =>
sm_set (es' := [.d (.int row), .d (.int error), .d (.bl turns2), .d (.int t4), .d ((dT3 Dt.int Dt.int Dt.int) offset11), .d (.int reach_here12), .d (.int t13)]) (ev_mod (ev_intI (ev_var (i := 1) rfl)) (ev_int) h_t13) rfl <|
sm_nil <|
sm_some (sev_nx (wk_e <| wk_e <| wk_e <| wk_e <| wk_e <| wk_e <| wk_e <| wk_n))) (fun hb =>
sm_nil <|
sm_some (sev_nx (wk_e <| wk_e <| wk_e <| wk_e <| wk_e <| wk_e <| wk_e <| wk_n)))) fun s14 h_s14 =>
sm_as <|
sm_bind fun t15 h_t15 =>
sm_bind fun t16 h_t16 =>
sm_bind fun t17 h_t17 =>
sm_some (sev_rt (ev_makeK (n := 5) (m := 2) (fV := fun vs zs => vs ++ (zs.drop 0).take 1 ++ (zs.drop 1).take 1 ++ [.int 1] ++ [.int 1] ++ [.int 1]) (ds' := [.bl turns2, .int t4, (dT3 Dt.int Dt.int Dt.int) offset11, .int (-reach_here12), .int reach_here12, .int t16, .int s14, .int 1, .int 1, .int 1]) (ea_cons (ev_var (i := 2) rfl) (ea_cons (ev_var (i := 3) rfl) (ea_cons (ev_var (i := 4) rfl) (ea_cons (ev_neg (ev_var (i := 5) rfl)) (ea_cons (ev_var (i := 5) rfl) (ea_nil)))))) (ea_cons (ev_mod (ev_intI (ev_div (ev_var (i := 0) rfl) (ev_int) h_t15)) (ev_int) h_t16) (ea_cons (ev_var (i := 6) rfl) (ea_nil))) rfl rfl (fun _ _ _ _ _ => rfl) (fun G vs zs r1 r2 => (((((r1.append ((r2.drop 0).take 1)).append ((r2.drop 1).take 1)).append (.cons (.int _) .nil)).append (.cons (.int _) .nil)).append (.cons (.int _) .nil))) ⟨turns2, t4, offset11, -reach_here12, reach_here12, t16, s14, 1, 1, 1, t17, rfl, h_t17, rfl⟩) (wk_uns rfl))⟩
theorem sc_Body_init : FnScope ["self", "first", "last", "radius"] ["self", "first", "last", "radius"] (defScope (inClass (topS 37) 0)) := ⟨rfl, rfl, rfl, by decide +kernel, rfl, by decide +kernel, by decide +kernel⟩
theorem b_Body_init (T : Top P K mg A) : Binds K A.d_Body_init ["self", "first", "last", "radius"] [] := T.F_Body_init.binds (ps := ["self", "first", "last", "radius"]) fun _ _ _ _ _ _ us hl => match us, hl with | [_, _, _, _], _ => rfl
def P_Body_init (A : Ads) (ds : List Dt) (fs : List (Str × Dt)) : Prop := ∃ (first : (Int × Int × Int)) (last : (Int × Int × Int)) (radius : Int) (r : Body), ds = [(dT3 Dt.int Dt.int Dt.int) first, (dT3 Dt.int Dt.int Dt.int) last, .int radius] ∧ m_Body_init first last radius = some r ∧ fs = [(("first" : Str), (dT3 Dt.int Dt.int Dt.int) r.first), (("last" : Str), (dT3 Dt.int Dt.int Dt.int) r.last), (("radius" : Str), .int r.radius)]
set_option maxHeartbeats 4000000 in
theorem ok_Body_init (T : Top P K mg A) : FnOk P w K mg base CX0 2 A.f_Body_init A.d_Body_init ["self", "first", "last", "radius"] (FSpec K (RI A.c_Body (P_Body_init A))) :=
  fn_I T.F_Body_init sc_Body_init (fun ds fs h => by obtain ⟨first, last, radius, r, rfl, _, _⟩ := h; rfl) fun cdv A1 outer s H E hr => ⟨_, pss_cons (ps_if (PW.pt (pw_or (pt_not (pt_val (pe_call (ok_is_within T) (hr.mono (by decide)) (by rfl) T.g_is_within T.F_is_within.kp (b_is_within T) .nil pass0 (pa_cons (pv 1) (pa_cons (pe_glob (v := .int 10000000) (by rfl) T.g_FAR.choose_spec ⟨_, rfl⟩) (pa_nil)))))) (pw_or1 (pt_not (pt_val (pe_call (ok_is_within T) (hr.mono (by decide)) (by rfl) T.g_is_within T.F_is_within.kp (b_is_within T) .nil pass0 (pa_cons (pv 2) (pa_cons (pe_glob (v := .int 10000000) (by rfl) T.g_FAR.choose_spec ⟨_, rfl⟩) (pa_nil))))))))) (pss_cons (ps_never)
 (pss_nil)) (pss_nil))
 (pss_cons (ps_if (pt_not (pt_chain op_le op_le (pe_int) (pv 3) (pe_glob (v := .int 1000000) (by rfl) T.g_THICK.choose_spec ⟨_, rfl⟩))) (pss_cons (ps_never)
 (pss_nil)) (pss_nil))
 (pss_cons (ps_fld (pv 0) (pe_callTy cr_tupS (by rfl) T.z_tuple bt_tuple (pa_cons (pv 1) (pa_nil))) rfl)
 (pss_cons (ps_fld (pv 0) (pe_callTy cr_tupS (by rfl) T.z_tuple bt_tuple (pa_cons (pv 2) (pa_nil))) rfl)
 (pss_cons (ps_fld (pv 0) (pv 3) rfl)
 (pss_nil))))), fun p ds fs h => by
    obtain ⟨first, last, radius, r, rfl, h, rfl⟩ := h
    unfold m_Body_init at h
    refine ⟨_, List.replicate 3 .un, sm_run (es := [.obo (some p) A.c_Body [], .d ((dT3 Dt.int Dt.int Dt.int) first), .d ((dT3 Dt.int Dt.int Dt.int) last), .d (.int radius)]) (oc := fun (r : Body) => .nx (.obo (some p) A.c_Body [(("first" : Str), (dT3 Dt.int Dt.int Dt.int) r.first), (("last" : Str), (dT3 Dt.int Dt.int Dt.int) r.last), (("radius" : Str), .int r.radius)] :: List.replicate 3 .un)) h ?_, .inr ⟨rfl, rfl⟩⟩
    exact sm_one <|
sm_as <|
sm_bind fun t1 h_t1 =>
sm_bind fun b3 h_b3 =>
sm_if (et_orC (et_not (et_B (ev_call (ea_cons (ev_var (i := 1) rfl) (ea_cons (ev_int) (ea_nil))) ⟨first, 10000000, t1, rfl, h_t1, rfl⟩))) (fun _ => et_bnd fun t2 h_t2 => et_pure (et_not (et_B (ev_call (ea_cons (ev_var (i := 2) rfl) (ea_cons (ev_int) (ea_nil))) ⟨last, 10000000, t2, rfl, h_t2, rfl⟩)))) h_b3) (fun hb =>
sm_as <|
sm_none) (fun hb =>
sm_nil <|
sm_as <|
sm_if (et_not (et_test (ev_chain (ev_int) (ev_var (i := 3) rfl) c_le (fun _ => ev_int) (fun _ => c_le)))) (fun hb =>
sm_as <|
sm_none) (fun hb =>
sm_nil <|
sm_as <|
sm_fld (i := 0) (es' := [.obo (some p) A.c_Body [(("first" : Str), (dT3 Dt.int Dt.int Dt.int) first)], .d ((dT3 Dt.int Dt.int Dt.int) first), .d ((dT3 Dt.int Dt.int Dt.int) last), .d (.int radius)]) rfl (ev_tupV (ev_var (i := 1) rfl)) T.cl_Body T.n_Body_first (by simp) rfl <|
sm_as <|
sm_fld (i := 0) (es' := [.obo (some p) A.c_Body [(("first" : Str), (dT3 Dt.int Dt.int Dt.int) first), (("last" : Str), (dT3 Dt.int Dt.int Dt.int) last)], .d ((dT3 Dt.int Dt.int Dt.int) first), .d ((dT3 Dt.int Dt.int Dt.int) last), .d (.int radius)]) rfl (ev_tupV (ev_var (i := 2) rfl)) T.cl_Body T.n_Body_last (by simp) rfl <|
sm_as <|
sm_fld (i := 0) (es' := [.obo (some p) A.c_Body [(("first" : Str), (dT3 Dt.int Dt.int Dt.int) first), (("last" : Str), (dT3 Dt.int Dt.int Dt.int) last), (("radius" : Str), .int radius)], .d ((dT3 Dt.int Dt.int Dt.int) first), .d ((dT3 Dt.int Dt.int Dt.int) last), .d (.int radius)]) rfl (ev_var (i := 3) rfl) T.cl_Body T.n_Body_radius (by simp) rfl <|
sm_nil <|
sm_some (sev_nx (wk_e <| wk_uns rfl))))⟩
theorem sc_Capsule_init : FnScope ["self", "link", "body"] ["self", "link", "body"] (defScope (inClass (topS 38) 0)) := ⟨rfl, rfl, rfl, by decide +kernel, rfl, by decide +kernel, by decide +kernel⟩
theorem b_Capsule_init (T : Top P K mg A) : Binds K A.d_Capsule_init ["self", "link", "body"] [] := T.F_Capsule_init.binds (ps := ["self", "link", "body"]) fun _ _ _ _ _ _ us hl => match us, hl with | [_, _, _], _ => rfl
def P_Capsule_init (A : Ads) (ds : List Dt) (fs : List (Str × Dt)) : Prop := ∃ (link : Int) (body : Body) (r : Capsule), ds = [.int link, (d_Body A) body] ∧ m_Capsule_init link body = some r ∧ fs = [(("link" : Str), .int r.link), (("body" : Str), (d_Body A) r.body)]
set_option maxHeartbeats 4000000 in
theorem ok_Capsule_init (T : Top P K mg A) : FnOk P w K mg base CX0 1 A.f_Capsule_init A.d_Capsule_init ["self", "link", "body"] (FSpec K (RI A.c_Capsule (P_Capsule_init A))) :=
  fn_I T.F_Capsule_init sc_Capsule_init (fun ds fs h => by obtain ⟨link, body, r, rfl, _, _⟩ := h; rfl) fun cdv A1 outer s H E hr => ⟨_, pss_cons (ps_fld (pv 0) (pv 1) rfl)
 (pss_cons (ps_fld (pv 0) (pv 2) rfl)
 (pss_nil)), fun p ds fs h => by
    obtain ⟨link, body, r, rfl, h, rfl⟩ := h
    unfold m_Capsule_init at h
    refine ⟨_, List.replicate 2 .un, sm_run (es := [.obo (some p) A.c_Capsule [], .d (.int link), .d ((d_Body A) body)]) (oc := fun (r : Capsule) => .nx (.obo (some p) A.c_Capsule [(("link" : Str), .int r.link), (("body" : Str), (d_Body A) r.body)] :: List.replicate 2 .un)) h ?_, .inr ⟨rfl, rfl⟩⟩
    exact sm_one <|
sm_as <|
sm_fld (i := 0) (es' := [.obo (some p) A.c_Capsule [(("link" : Str), .int link)], .d (.int link), .d ((d_Body A) body)]) rfl (ev_var (i := 1) rfl) T.cl_Capsule T.n_Capsule_link (by simp) rfl <|
sm_as <|
sm_fld (i := 0) (es' := [.obo (some p) A.c_Capsule [(("link" : Str), .int link), (("body" : Str), (d_Body A) body)], .d (.int link), .d ((d_Body A) body)]) rfl (ev_var (i := 2) rfl) T.cl_Capsule T.n_Capsule_body (by simp) rfl <|
sm_nil <|
sm_some (sev_nx (wk_e <| wk_uns rfl))⟩
theorem sc__law_capsule : FnScope ["_law_row", "_law_links", "_law_first", "_law_last"] ["_law_row", "_law_links"] (defScope (topS 51)) := ⟨rfl, rfl, rfl, by decide +kernel, rfl, by decide +kernel, by decide +kernel⟩
theorem b__law_capsule (T : Top P K mg A) : Binds K A.d__law_capsule ["_law_row", "_law_links"] [] := T.F__law_capsule.binds (ps := ["_law_row", "_law_links"]) fun _ _ _ _ _ _ us hl => match us, hl with | [_, _], _ => rfl
def P__law_capsule (A : Ads) (ds : List Dt) (d : Dt) : Prop := ∃ (row : Int) (links : Int) (r : Capsule), ds = [.int row, .int links] ∧ m__law_capsule row links = some r ∧ d = (d_Capsule A) r
set_option maxHeartbeats 4000000 in
theorem ok__law_capsule (T : Top P K mg A) : FnOk P w K mg base CX0 4 A.f__law_capsule A.d__law_capsule ["_law_row", "_law_links"] (FSpec K (RD (P__law_capsule A))) :=
  fn_D T.F__law_capsule sc__law_capsule (fun ds d h => by obtain ⟨row, links, r, rfl, _, _⟩ := h; rfl) fun cdv A1 outer s H E hr => ⟨_, pss_cons (ps_set (i := 2) sc__law_capsule.nd rfl (by first | exact Or.inl rfl | exact Or.inr rfl) (pe_tup (pa_cons (pe_op op_sub (pe_op op_mod (pe_callTy cr_int (by rfl) T.z_int bt_int (pa_cons (pv 0) (pa_nil))) (pe_int)) (pe_int)) (pa_cons (pe_op op_sub (pe_op op_mod (pe_callTy cr_int (by rfl) T.z_int bt_int (pa_cons (pe_op op_fdivW (pv 0) (pe_int)) (pa_nil))) (pe_int)) (pe_int)) (pa_cons (pe_op op_sub (pe_op op_mod (pe_callTy cr_int (by rfl) T.z_int bt_int (pa_cons (pe_op op_fdivW (pv 0) (pe_int)) (pa_nil))) (pe_int)) (pe_int)) (pa_nil))))))
 (pss_cons (ps_set (i := 3) sc__law_capsule.nd rfl (by first | exact Or.inl rfl | exact Or.inr rfl) (pe_tup (pa_cons (pe_op op_sub (pe_op op_mod (pe_callTy cr_int (by rfl) T.z_int bt_int (pa_cons (pe_op op_fdivW (pv 0) (pe_int)) (pa_nil))) (pe_int)) (pe_int)) (pa_cons (pe_op op_sub (pe_op op_mod (pe_callTy cr_int (by rfl) T.z_int bt_int (pa_cons (pe_op op_fdivW (pv 0) (pe_int)) (pa_nil))) (pe_int)) (pe_int)) (pa_cons (pe_op op_sub (pe_op op_mod (pe_callTy cr_int (by rfl) T.z_int bt_int (pa_cons (pe_op op_fdivW (pv 0) (pe_int)) (pa_nil))) (pe_int)) (pe_int)) (pa_nil))))))
 (pss_cons (ps_ret (pe_make T.mk_Capsule (ok_Capsule_init T) (hr.mono (by decide)) (by rfl) T.gc_Capsule (b_Capsule_init T) .nil pass0 (pa_cons (pe_op op_mod (pe_callTy cr_int (by rfl) T.z_int bt_int (pa_cons (pe_op op_fdivW (pv 0) (pe_int)) (pa_nil))) (pe_op op_add (pv 1) (pe_int))) (pa_cons (pe_make T.mk_Body (ok_Body_init T) (hr.mono (by decide)) (by rfl) T.gc_Body (b_Body_init T) .nil pass0 (pa_cons (pv 2) (pa_cons (pv 3) (pa_cons (pe_op op_mod (pe_callTy cr_int (by rfl) T.z_int bt_int (pa_cons (pe_op op_fdivW (pv 0) (pe_int)) (pa_nil))) (pe_int)) (pa_nil))))) (pa_nil)))))
 (pss_nil))), fun ds d h => by
    obtain ⟨row, links, r, rfl, h, rfl⟩ := h
    unfold m__law_capsule at h
    refine ⟨_, List.replicate 4 .un, sm_run (es := [.d (.int row), .d (.int links), .un, .un]) (oc := fun (r : Capsule) => .rt ((d_Capsule A) r) (List.replicate 4 .un)) h ?_, .inl rfl⟩
    exact sm_one <|
sm_as <|
sm_bind fun t1 h_t1 =>
sm_bind fun t2 h_t2 =>
sm_bind fun t3 h_t3 =>
sm_bind fun t4 h_t4 =>
sm_bind fun t5 h_t5 =>
sm_lt fun first6 h_first6 =>
sm_set (es' := [.d (.int row), .d (.int links), .d ((dT3 Dt.int Dt.int Dt.int) first6), .un]) (ev_is (ev_tup (ea_cons (ev_sub (ev_mod (ev_intI (ev_var (i := 0) rfl)) (ev_int) h_t1) (ev_int)) (ea_cons (ev_sub (ev_mod (ev_intI (ev_div (ev_var (i := 0) rfl) (ev_int) h_t2)) (ev_int) h_t3) (ev_int)) (ea_cons (ev_sub (ev_mod (ev_intI (ev_div (ev_var (i := 0) rfl) (ev_int) h_t4)) (ev_int) h_t5) (ev_int)) (ea_nil)))) (by simp)) (congrArg (dT3 Dt.int Dt.int Dt.int) h_first6)) rfl <|
sm_as <|
sm_bind fun t7 h_t7 =>
sm_bind fun t8 h_t8 =>
sm_bind fun t9 h_t9 =>
sm_bind fun t10 h_t10 =>
sm_bind fun t11 h_t11 =>
sm_bind fun t12 h_t12 =>
sm_lt fun last13 h_last13 =>
sm_set (es' := [.d (.int row), .d (.int links), .d ((dT3 Dt.int Dt.int Dt.int) first6), .d ((dT3 Dt.int Dt.int Dt.int) last13)]) (ev_is (ev_tup (ea_cons (ev_sub (ev_mod (ev_intI (ev_div (ev_var (i := 0) rfl) (ev_int) h_t7)) (ev_int) h_t8) (ev_int)) (ea_cons (ev_sub (ev_mod (ev_intI (ev_div (ev_var (i := 0) rfl) (ev_int) h_t9)) (ev_int) h_t10) (ev_int)) (ea_cons (ev_sub (ev_mod (ev_intI (ev_div (ev_var (i := 0) rfl) (ev_int) h_t11)) (ev_int) h_t12) (ev_int)) (ea_nil)))) (by simp)) (congrArg (dT3 Dt.int Dt.int Dt.int) h_last13)) rfl <|
sm_as <|
sm_bind fun t14 h_t14 =>
sm_bind fun t15 h_t15 =>
sm_bind fun t16 h_t16 =>
sm_bind fun t17 h_t17 =>
sm_bind fun t18 h_t18 =>
sm_bind fun t19 h_t19 =>
sm_some (sev_rt (ev_make (P := P_Capsule_init A) (C := A.c_Capsule) (ea_cons (ev_mod (ev_intI (ev_div (ev_var (i := 0) rfl) (ev_int) h_t14)) (ev_add (ev_var (i := 1) rfl) (ev_int)) h_t15) (ea_cons (ev_make (P := P_Body_init A) (C := A.c_Body) (ea_cons (ev_var (i := 2) rfl) (ea_cons (ev_var (i := 3) rfl) (ea_cons (ev_mod (ev_intI (ev_div (ev_var (i := 0) rfl) (ev_int) h_t16)) (ev_int) h_t17) (ea_nil)))) ⟨first6, last13, t17, t18, rfl, h_t18, rfl⟩) (ea_nil))) ⟨t15, t18, t19, rfl, h_t19, rfl⟩) (wk_uns rfl))⟩
theorem sc_Arm_init : FnScope ["self", "joints", "capsules", "beside", "capsule", "pair"] ["self", "joints", "capsules", "beside"] (defScope (inClass (topS 39) 0)) := ⟨rfl, rfl, rfl, by decide +kernel, rfl, by decide +kernel, by decide +kernel⟩
theorem kb_Arm_init_beside (T : Top P K mg A) : ∃ mv : List Value, KBn K A.d_Arm_init ["self", "joints", "capsules", "beside"] 3 ["beside"] (fun us ws => us ++ (ws.drop 0).take 1) (fun vs zs => vs ++ (zs.drop 0).take 1) := by
  refine T.D_Arm_init.kbinds0 3 ["beside"] [] (fun us mv ws => us ++ (ws.drop 0).take 1) (by simp) (by simp) (fun r1 r2 r3 => (r1.append ((r3.drop 0).take 1))) ?_
  intro D doc pm an cdv ct us mv ws l1 l2 l3
  match us, l1, mv, l2, ws, l3 with
  | [_, _, _], _, [], _, [_], _ => exact by with_unfolding_all rfl
theorem kb_Arm_init_none (T : Top P K mg A) : ∃ mv : List Value, KBn K A.d_Arm_init ["self", "joints", "capsules", "beside"] 3 [] (fun us ws => us ++ (mv.drop 0).take 1) (fun vs zs => vs ++ [.ref A.t_Arm_init_beside]) := by
  refine T.D_Arm_init.kbinds0 3 [] [(("beside" : Str), V.ref A.t_Arm_init_beside)] (fun us mv ws => us ++ (mv.drop 0).take 1) (by simp) (by simp) (fun r1 r2 r3 => (r1.append ((r2.drop 0).take 1))) ?_
  intro D doc pm an cdv ct us mv ws l1 l2 l3
  match us, l1, mv, l2, ws, l3 with
  | [_, _, _], _, [_], _, [], _ => exact ⟨_, _, _, _, _, _, by with_unfolding_all rfl, by with_unfolding_all rfl, by with_unfolding_all rfl⟩
def P_Arm_init (A : Ads) (ds : List Dt) (fs : List (Str × Dt)) : Prop := ∃ (joints : (List Joint)) (capsules : (List Capsule)) (beside : (List (Int × Int))) (r : Arm), ds = [.lst (List.map (d_Joint A) joints), .lst (List.map (d_Capsule A) capsules), .lst (List.map (dT2 Dt.int Dt.int) beside)] ∧ m_Arm_init joints capsules beside = some r ∧ fs = [(("joints" : Str), .tup (List.map (d_Joint A) r.joints)), (("capsules" : Str), .tup (List.map (d_Capsule A) r.capsules)), (("beside" : Str), .tup (List.map (dT2 Dt.int Dt.int) r.beside))]
set_option maxHeartbeats 4000000 in
theorem ok_Arm_init (T : Top P K mg A) : FnOk P w K mg base CX0 1 A.f_Arm_init A.d_Arm_init ["self", "joints", "capsules", "beside"] (FSpec K (RI A.c_Arm (P_Arm_init A))) :=
  fn_I T.F_Arm_init sc_Arm_init (fun ds fs h => by obtain ⟨joints, capsules, beside, r, rfl, _, _⟩ := h; rfl) fun cdv A1 outer s H E hr => ⟨_, pss_cons (ps_if (pt_not (pt_chain op_le op_le (pe_int) (pe_callB cr_lenS (by rfl) T.z_len bt_len (pa_cons (pv 1) (pa_nil))) (pe_glob (v := .int 6) (by rfl) T.g_MOST_JOINTS.choose_spec ⟨_, rfl⟩))) (pss_cons (ps_never)
 (pss_nil)) (pss_nil))
 (pss_cons (ps_if (pt_cmpR op_gt (pe_callB cr_lenS (by rfl) T.z_len bt_len (pa_cons (pv 2) (pa_nil))) (pe_glob (v := .int 8) (by rfl) T.g_MOST_CAPSULES.choose_spec ⟨_, rfl⟩) (nomark _)) (pss_cons (ps_never)
 (pss_nil)) (pss_nil))
 (pss_cons (ps_for PassesOwn.never rfl (pi_list (pv 2)) (pg_name (i := 4) sc_Arm_init.nd rfl (by first | exact Or.inl rfl | exact Or.inr rfl)) (pss_cons (ps_if (pt_not (pt_chain op_le op_le (pe_int) (pe_fld (pv 4) (by rfl)) (pe_callB cr_lenS (by rfl) T.z_len bt_len (pa_cons (pv 1) (pa_nil))))) (pss_cons (ps_never)
 (pss_nil)) (pss_nil))
 (pss_nil)))
 (pss_cons (ps_for PassesOwn.never rfl (pi_list (pv 3)) (pg_name (i := 5) sc_Arm_init.nd rfl (by first | exact Or.inl rfl | exact Or.inr rfl)) (pss_cons (ps_if (pt_not (pt_chain3 op_le op_lt op_lt (pe_int) (pe_ix ix_tup (pv 5) (pe_int) (fun _ _ => rfl)) (pe_ix ix_tup (pv 5) (pe_int) (fun _ _ => rfl)) (pe_callB cr_lenS (by rfl) T.z_len bt_len (pa_cons (pv 2) (pa_nil))))) (pss_cons (ps_never)
 (pss_nil)) (pss_nil))
 (pss_nil)))
 (pss_cons (ps_fld (pv 0) (pe_callTy cr_tupS (by rfl) T.z_tuple bt_tuple (pa_cons (pv 1) (pa_nil))) rfl)
 (pss_cons (ps_fld (pv 0) (pe_callTy cr_tupS (by rfl) T.z_tuple bt_tuple (pa_cons (pv 2) (pa_nil))) rfl)
 (pss_cons (ps_fld (pv 0) (pe_callTy cr_tupS (by rfl) T.z_tuple bt_tuple (pa_cons (pe_lc (own := [("pair", 5)]) (g := gName 5) (tt := tYes) rfl sc_Arm_init.nd (pi_list (pv 3)) (blkOk_by (N := ["self", "joints", "capsules", "beside", "capsule", "pair"]) (sc := defScope (inClass (topS 39) 0)) (by decide +kernel)) (fun _ _ _ _ _ => pg_name (i := 5) sc_Arm_init.nd rfl (by first | exact Or.inl rfl | exact Or.inr rfl)) (fun _ _ _ _ _ => pts_nil) (fun _ _ _ _ _ => pe_callTy cr_tupS (by rfl) T.z_tuple bt_tuple (pa_cons (pv 5) (pa_nil)))) (pa_nil))) rfl)
 (pss_nil))))))), fun p ds fs h => by
    obtain ⟨joints, capsules, beside, r, rfl, h, rfl⟩ := h
    unfold m_Arm_init at h
    refine ⟨_, List.replicate 5 .un, sm_run (es := [.obo (some p) A.c_Arm [], .d (.lst (List.map (d_Joint A) joints)), .d (.lst (List.map (d_Capsule A) capsules)), .d (.lst (List.map (dT2 Dt.int Dt.int) beside)), .un, .un]) (oc := fun (r : Arm) => .nx (.obo (some p) A.c_Arm [(("joints" : Str), .tup (List.map (d_Joint A) r.joints)), (("capsules" : Str), .tup (List.map (d_Capsule A) r.capsules)), (("beside" : Str), .tup (List.map (dT2 Dt.int Dt.int) r.beside))] :: List.replicate 5 .un)) h ?_, .inr ⟨rfl, rfl⟩⟩
    exact sm_one <|
sm_as <|
sm_if (et_not (et_test (ev_chain (ev_int) (ev_lenLm (ev_var (i := 1) rfl)) c_le (fun _ => ev_int) (fun _ => c_le)))) (fun hb =>
sm_as <|
sm_none) (fun hb =>
sm_nil <|
sm_as <|
sm_if (et_test (ev_gt (ev_lenLm (ev_var (i := 2) rfl)) (ev_int))) (fun hb =>
sm_as <|
sm_none) (fun hb =>
sm_nil <|
sm_as <|
sm_seq (env := fun (s : Unit) => [.obo (some p) A.c_Arm [], .d (.lst (List.map (d_Joint A) joints)), .d (.lst (List.map (d_Capsule A) capsules)), .d (.lst (List.map (dT2 Dt.int Dt.int) beside)), .un, .un]) (sm_forL (xs := capsules) (em := (d_Capsule A)) (env := fun (s : Unit) => [.obo (some p) A.c_Arm [], .d (.lst (List.map (d_Joint A) joints)), .d (.lst (List.map (d_Capsule A) capsules)), .d (.lst (List.map (dT2 Dt.int Dt.int) beside)), .un, .un]) (en2 := fun (capsule2 : Capsule) (s1 : Unit) => [.obo (some p) A.c_Arm [], .d (.lst (List.map (d_Joint A) joints)), .d (.lst (List.map (d_Capsule A) capsules)), .d (.lst (List.map (dT2 Dt.int Dt.int) beside)), .d ((d_Capsule A) capsule2), .un]) (ei_list (ev_var (i := 2) rfl)) (wk_e <| wk_e <| wk_e <| wk_e <| wk_u <| wk_u <| wk_n) (fun capsule2 s1 => eg_name (vs := [4]) (by simp)) fun capsule2 s1 h_capsule2 => sm_one <|
sm_as <|
sm_if (et_not (et_test (ev_chain (ev_int) (ev_fld (ev_var (i := 4) rfl) T.cl_Capsule T.n_Capsule_link rfl) c_le (fun _ => ev_lenLm (ev_var (i := 1) rfl)) (fun _ => c_le)))) (fun hb =>
sm_as <|
sm_none) (fun hb =>
sm_nil <|
sm_nil <|
sm_some (sev_go (wk_e <| wk_e <| wk_e <| wk_e <| wk_u <| wk_u <| wk_n)))) fun s3 h_s3 =>
sm_as <|
sm_seq (env := fun (s : Unit) => [.obo (some p) A.c_Arm [], .d (.lst (List.map (d_Joint A) joints)), .d (.lst (List.map (d_Capsule A) capsules)), .d (.lst (List.map (dT2 Dt.int Dt.int) beside)), .un, .un]) (sm_forL (xs := beside) (em := (dT2 Dt.int Dt.int)) (env := fun (s : Unit) => [.obo (some p) A.c_Arm [], .d (.lst (List.map (d_Joint A) joints)), .d (.lst (List.map (d_Capsule A) capsules)), .d (.lst (List.map (dT2 Dt.int Dt.int) beside)), .un, .un]) (en2 := fun (pair5 : (Int × Int)) (s4 : Unit) => [.obo (some p) A.c_Arm [], .d (.lst (List.map (d_Joint A) joints)), .d (.lst (List.map (d_Capsule A) capsules)), .d (.lst (List.map (dT2 Dt.int Dt.int) beside)), .un, .d ((dT2 Dt.int Dt.int) pair5)]) (ei_list (ev_var (i := 3) rfl)) (wk_e <| wk_e <| wk_e <| wk_e <| wk_u <| wk_u <| wk_n) (fun pair5 s4 => eg_name (vs := [5]) (by simp)) fun pair5 s4 h_pair5 => sm_one <|
sm_as <|
sm_if (et_not (et_test (ev_chain3 (ev_int) (ev_ixNG 0 rfl rfl (ev_var (i := 5) rfl) (ev_int)) c_le (ev_ixNG 1 rfl rfl (ev_var (i := 5) rfl) (ev_int)) c_lt (ev_lenLm (ev_var (i := 2) rfl)) c_lt))) (fun hb =>
sm_as <|
sm_none) (fun hb =>
sm_nil <|
sm_nil <|
sm_some (sev_go (wk_e <| wk_e <| wk_e <| wk_e <| wk_u <| wk_u <| wk_n)))) fun s6 h_s6 =>
sm_as <|
sm_fld (i := 0) (es' := [.obo (some p) A.c_Arm [(("joints" : Str), .tup (List.map (d_Joint A) joints))], .d (.lst (List.map (d_Joint A) joints)), .d (.lst (List.map (d_Capsule A) capsules)), .d (.lst (List.map (dT2 Dt.int Dt.int) beside)), .un, .un]) rfl (ev_tupL (ev_var (i := 1) rfl)) T.cl_Arm T.n_Arm_joints (by simp) rfl <|
sm_as <|
sm_fld (i := 0) (es' := [.obo (some p) A.c_Arm [(("joints" : Str), .tup (List.map (d_Joint A) joints)), (("capsules" : Str), .tup (List.map (d_Capsule A) capsules))], .d (.lst (List.map (d_Joint A) joints)), .d (.lst (List.map (d_Capsule A) capsules)), .d (.lst (List.map (dT2 Dt.int Dt.int) beside)), .un, .un]) rfl (ev_tupL (ev_var (i := 2) rfl)) T.cl_Arm T.n_Arm_capsules (by simp) rfl <|
sm_as <|
sm_bind fun t8 h_t8 =>
sm_fld (i := 0) (es' := [.obo (some p) A.c_Arm [(("joints" : Str), .tup (List.map (d_Joint A) joints)), (("capsules" : Str), .tup (List.map (d_Capsule A) capsules)), (("beside" : Str), .tup (List.map (dT2 Dt.int Dt.int) t8))], .d (.lst (List.map (d_Joint A) joints)), .d (.lst (List.map (d_Capsule A) capsules)), .d (.lst (List.map (dT2 Dt.int Dt.int) beside)), .un, .un]) rfl (ev_tupL (ev_new (el_hide (es' := [.un, .d (.lst (List.map (d_Joint A) joints)), .d (.lst (List.map (d_Capsule A) capsules)), .d (.lst (List.map (dT2 Dt.int Dt.int) beside)), .un, .un]) rfl (el_mapP (vs := [5]) (em := (dT2 Dt.int Dt.int)) (em2 := (dT2 Dt.int Dt.int)) (en2 := fun (pair7 : (Int × Int)) => [.un, .d (.lst (List.map (d_Joint A) joints)), .d (.lst (List.map (d_Capsule A) capsules)), .d (.lst (List.map (dT2 Dt.int Dt.int) beside)), .un, .d ((dT2 Dt.int Dt.int) pair7)]) (ei_list (ev_var (i := 3) rfl)) (fun pair7 => eg_name (vs := [5]) (by simp)) (fun pair7 => ev_tupV (ev_var (i := 5) rfl)) rfl h_t8)))) T.cl_Arm T.n_Arm_beside (by simp) rfl <|
sm_nil <|
sm_some (sev_nx (wk_e <| wk_uns rfl))))⟩
theorem sc__law_arm : FnScope ["_law_rows_here", "_law_at", "_law_error", "_law_many", "_law_joints", "_law_k", "_law_capsules", "_law_beside"] ["_law_rows_here", "_law_at", "_law_error"] (defScope (topS 53)) := ⟨rfl, rfl, rfl, by decide +kernel, rfl, by decide +kernel, by decide +kernel⟩
theorem b__law_arm (T : Top P K mg A) : Binds K A.d__law_arm ["_law_rows_here", "_law_at", "_law_error"] [] := T.F__law_arm.binds (ps := ["_law_rows_here", "_law_at", "_law_error"]) fun _ _ _ _ _ _ us hl => match us, hl with | [_, _, _], _ => rfl
def P__law_arm (A : Ads) (ds : List Dt) (d : Dt) : Prop := ∃ (rows_here : (List Int)) (at_ : Int) (error : Int) (r : Arm), ds = [.lst (List.map Dt.int rows_here), .int at_, .int error] ∧ m__law_arm rows_here at_ error = some r ∧ d = (d_Arm A) r
set_option maxHeartbeats 4000000 in
theorem ok__law_arm (T : Top P K mg A) : FnOk P w K mg base CX0 5 A.f__law_arm A.d__law_arm ["_law_rows_here", "_law_at", "_law_error"] (FSpec K (RD (P__law_arm A))) :=
  fn_D T.F__law_arm sc__law_arm (fun ds d h => by obtain ⟨rows_here, at_, error, r, rfl, _, _⟩ := h; rfl) fun cdv A1 outer s H E hr => ⟨_, pss_cons (ps_set (i := 3) sc__law_arm.nd rfl (by first | exact Or.inl rfl | exact Or.inr rfl) (pe_op op_add (pe_int) (pe_op op_mod (pe_callTy cr_int (by rfl) T.z_int bt_int (pa_cons (pe_ix ix_list (pv 0) (pv 1) (fun _ _ => rfl)) (pa_nil))) (pe_int))))
 (pss_cons (ps_setLc (i := 4) (own := [("_law_k", 5)]) (g := gName 5) (tt := tYes) rfl sc__law_arm.nd rfl rfl (sw_true rfl rfl rfl (by decide +kernel)) (pi_range1 (by rfl) T.z_range (pa_cons (pv 3) (pa_nil))) (blkOk_by (N := ["_law_rows_here", "_law_at", "_law_error", "_law_many", "_law_joints", "_law_k", "_law_capsules", "_law_beside"]) (sc := defScope (topS 53)) (by decide +kernel)) (fun _ _ _ _ _ => pg_name (i := 5) sc__law_arm.nd rfl (by first | exact Or.inl rfl | exact Or.inr rfl)) (fun _ _ _ _ _ => pts_nil) (fun _ _ _ _ _ => pe_call (ok__law_joint T) (hr.mono (by decide)) (by rfl) T.g__law_joint T.F__law_joint.kp (b__law_joint T) .nil pass0 (pa_cons (pe_ix ix_list (pv 0) (pe_op op_add (pe_op op_add (pv 1) (pe_int)) (pv 5)) (fun _ _ => rfl)) (pa_cons (pe_op op_mod (pe_callTy cr_int (by rfl) T.z_int bt_int (pa_cons (pv 2) (pa_nil))) (pe_op op_add (pe_int) (pe_op op_mulG (pe_int) (pv 5)))) (pa_nil)))))
 (pss_cons (ps_setLc (i := 6) (own := [("_law_k", 5)]) (g := gName 5) (tt := tYes) rfl sc__law_arm.nd rfl rfl (sw_true rfl rfl rfl (by decide +kernel)) (pi_range1 (by rfl) T.z_range (pa_cons (pe_op op_add (pe_int) (pe_op op_mod (pe_callTy cr_int (by rfl) T.z_int bt_int (pa_cons (pe_op op_fdivW (pe_ix ix_list (pv 0) (pv 1) (fun _ _ => rfl)) (pe_int)) (pa_nil))) (pe_int))) (pa_nil))) (blkOk_by (N := ["_law_rows_here", "_law_at", "_law_error", "_law_many", "_law_joints", "_law_k", "_law_capsules", "_law_beside"]) (sc := defScope (topS 53)) (by decide +kernel)) (fun _ _ _ _ _ => pg_name (i := 5) sc__law_arm.nd rfl (by first | exact Or.inl rfl | exact Or.inr rfl)) (fun _ _ _ _ _ => pts_nil) (fun _ _ _ _ _ => pe_call (ok__law_capsule T) (hr.mono (by decide)) (by rfl) T.g__law_capsule T.F__law_capsule.kp (b__law_capsule T) .nil pass0 (pa_cons (pe_ix ix_list (pv 0) (pe_op op_add (pe_op op_add (pv 1) (pe_int)) (pv 5)) (fun _ _ => rfl)) (pa_cons (pv 3) (pa_nil)))))
 (pss_cons (ps_set (i := 7) sc__law_arm.nd rfl (by first | exact Or.inl rfl | exact Or.inr rfl) (pe_lst (pa_nil)))
 (pss_cons (ps_if (PW.pt (pw_and (pt_cmpR op_gt (pe_callB cr_lenS (by rfl) T.z_len bt_len (pa_cons (pv 6) (pa_nil))) (pe_int) (nomark _)) (pw_and1 (pt_cmpR op_eq (pe_op op_mod (pe_op op_fdivW (pe_ix ix_list (pv 0) (pv 1) (fun _ _ => rfl)) (pe_int)) (pe_int)) (pe_int) (nomark _))))) (pss_cons (ps_set (i := 7) sc__law_arm.nd rfl (by first | exact Or.inl rfl | exact Or.inr rfl) (pe_lst (pa_cons (pe_tup (pa_cons (pe_int) (pa_cons (pe_int) (pa_nil)))) (pa_nil))))
 (pss_nil)) (pss_nil))
 (pss_cons (ps_ret (pe_makeK T.mk_Arm (ok_Arm_init T) (hr.mono (by decide)) (by rfl) T.gc_Arm (kb_Arm_init_beside T).choose_spec pass0 (pa_cons (pv 4) (pa_cons (pv 6) (pa_nil))) (pk_cons (pv 7) (pk_nil))))
 (pss_nil)))))), fun ds d h => by
    obtain ⟨rows_here, at_, error, r, rfl, h, rfl⟩ := h
    unfold m__law_arm at h
    refine ⟨_, List.replicate 8 .un, sm_run (es := [.d (.lst (List.map Dt.int rows_here)), .d (.int at_), .d (.int error), .un, .un, .un, .un, .un]) (oc := fun (r : Arm) => .rt ((d_Arm A) r) (List.replicate 8 .un)) h ?_, .inl rfl⟩
    exact sm_one <|
sm_as <|
sm_bind fun t1 h_t1 =>
sm_bind fun t2 h_t2 =>
sm_lt fun many3 h_many3 =>
sm_set (es' := [.d (.lst (List.map Dt.int rows_here)), .d (.int at_), .d (.int error), .d (.int many3), .un, .un, .un, .un]) (ev_is (ev_add (ev_int) (ev_mod (ev_intI (ev_ixLC (em := Dt.int) (ev_var (i := 0) rfl) (ev_var (i := 1) rfl) h_t1)) (ev_int) h_t2)) (congrArg Dt.int h_many3)) rfl <|
sm_as <|
sm_bind fun r4 h_r4 =>
sm_bind fun t10 h_t10 =>
sm_set (es' := [.d (.lst (List.map Dt.int rows_here)), .d (.int at_), .d (.int error), .d (.int many3), .d (.lst (List.map (d_Joint A) t10)), .un, .un, .un]) (ev_new (el_map (vs := [5]) (em := Dt.int) (em2 := (d_Joint A)) (en2 := fun (k5 : Int) => [.d (.lst (List.map Dt.int rows_here)), .d (.int at_), .d (.int error), .d (.int many3), .un, .d (.int k5), .un, .un]) (ei_rng1 (ea_cons (ev_var (i := 3) rfl) (ea_nil)) h_r4) (fun k5 => eg_name (vs := [5]) (by simp)) (fun k5 => ev_bnd fun t6 h_t6 => ev_bnd fun t7 h_t7 => ev_bnd fun t8 h_t8 => ev_bnd fun t9 h_t9 => ev_pure (ev_call (ea_cons (ev_ixLC (em := Dt.int) (ev_var (i := 0) rfl) (ev_add (ev_add (ev_var (i := 1) rfl) (ev_int)) (ev_var (i := 5) rfl)) h_t6) (ea_cons (ev_mod (ev_intI (ev_var (i := 2) rfl)) (ev_add (ev_int) (ev_mul (ev_int) (ev_var (i := 5) rfl) h_t7)) h_t8) (ea_nil))) ⟨t6, t8, t9, rfl, h_t9, rfl⟩)) rfl h_t10)) rfl <|
sm_as <|
sm_bind fun t11 h_t11 =>
sm_bind fun t12 h_t12 =>
sm_bind fun t13 h_t13 =>
sm_bind fun r14 h_r14 =>
sm_bind fun t18 h_t18 =>
sm_set (es' := [.d (.lst (List.map Dt.int rows_here)), .d (.int at_), .d (.int error), .d (.int many3), .d (.lst (List.map (d_Joint A) t10)), .un, .d (.lst (List.map (d_Capsule A) t18)), .un]) (ev_new (el_map (vs := [5]) (em := Dt.int) (em2 := (d_Capsule A)) (en2 := fun (k15 : Int) => [.d (.lst (List.map Dt.int rows_here)), .d (.int at_), .d (.int error), .d (.int many3), .d (.lst (List.map (d_Joint A) t10)), .d (.int k15), .un, .un]) (ei_rng1 (ea_cons (ev_add (ev_int) (ev_mod (ev_intI (ev_div (ev_ixLC (em := Dt.int) (ev_var (i := 0) rfl) (ev_var (i := 1) rfl) h_t11) (ev_int) h_t12)) (ev_int) h_t13)) (ea_nil)) h_r14) (fun k15 => eg_name (vs := [5]) (by simp)) (fun k15 => ev_bnd fun t16 h_t16 => ev_bnd fun t17 h_t17 => ev_pure (ev_call (ea_cons (ev_ixLC (em := Dt.int) (ev_var (i := 0) rfl) (ev_add (ev_add (ev_var (i := 1) rfl) (ev_int)) (ev_var (i := 5) rfl)) h_t16) (ea_cons (ev_var (i := 3) rfl) (ea_nil))) ⟨t16, many3, t17, rfl, h_t17, rfl⟩)) rfl h_t18)) rfl <|
sm_as <|
sm_lt fun beside19 h_beside19 =>
sm_set (es' := [.d (.lst (List.map Dt.int rows_here)), .d (.int at_), .d (.int error), .d (.int many3), .d (.lst (List.map (d_Joint A) t10)), .un, .d (.lst (List.map (d_Capsule A) t18)), .d (.lst (List.map (dT2 Dt.int Dt.int) beside19))]) (ev_is (ev_new (el_lst (ds := List.map (dT2 Dt.int Dt.int) []) (ea_nil) (by simp))) (congrArg (dL (dT2 Dt.int Dt.int)) h_beside19)) rfl <|
sm_as <|
sm_bind fun b23 h_b23 =>
sm_seq (env := fun (s : (List (Int × Int))) => [.d (.lst (List.map Dt.int rows_here)), .d (.int at_), .d (.int error), .d (.int many3), .d (.lst (List.map (d_Joint A) t10)), .un, .d (.lst (List.map (d_Capsule A) t18)), .d (.lst (List.map (dT2 Dt.int Dt.int) s))]) (sm_one <| sm_if (et_andC (et_test (ev_gt (ev_lenLm (ev_var (i := 6) rfl)) (ev_int))) (fun _ => et_bnd fun t20 h_t20 => et_bnd fun t21 h_t21 => et_bnd fun t22 h_t22 => et_pure (et_test (ev_eqI (ev_mod (ev_div (ev_ixLC (em := Dt.int) (ev_var (i := 0) rfl) (ev_var (i := 1) rfl) h_t20) (ev_int) h_t21) (ev_int) h_t22) (ev_int)))) h_b23) (fun hb =>
sm_as <|
sm_lt fun beside24 h_beside24 =>
sm_set (es' := [.d (.lst (List.map Dt.int rows_here)), .d (.int at_), .d (.int error), .d (.int many3), .d (.lst (List.map (d_Joint A) t10)), .un, .d (.lst (List.map (d_Capsule A) t18)), .d (.lst (List.map (dT2 Dt.int Dt.int) beside24))]) (ev_is (ev_new (el_lst (ds := List.map (dT2 Dt.int Dt.int) [(0, 2)]) (ea_cons (ev_tup (ea_cons (ev_int) (ea_cons (ev_int) (ea_nil))) (by simp)) (ea_nil)) (by simp))) (congrArg (dL (dT2 Dt.int Dt.int)) h_beside24)) rfl <|
sm_nil <|
sm_some (sev_nx (wk_e <| wk_e <| wk_e <| wk_e <| wk_e <| wk_u <| wk_e <| wk_e <| wk_n))) (fun hb =>
sm_nil <|
sm_some (sev_nx (wk_e <| wk_e <| wk_e <| wk_e <| wk_e <| wk_u <| wk_e <| wk_e <| wk_n)))) fun s25 h_s25 =>
sm_as <|
sm_bind fun t26 h_t26 =>
sm_some (sev_rt (ev_makeK (n := 2) (m := 1) (fV := fun vs zs => vs ++ (zs.drop 0).take 1) (ds' := [.lst (List.map (d_Joint A) t10), .lst (List.map (d_Capsule A) t18), .lst (List.map (dT2 Dt.int Dt.int) s25)]) (ea_cons (ev_var (i := 4) rfl) (ea_cons (ev_var (i := 6) rfl) (ea_nil))) (ea_cons (ev_var (i := 7) rfl) (ea_nil)) rfl rfl (fun _ _ _ _ _ => rfl) (fun G vs zs r1 r2 => (r1.append ((r2.drop 0).take 1))) ⟨t10, t18, s25, t26, rfl, h_t26, rfl⟩) (wk_uns rfl))⟩
theorem sc__law_values : FnScope ["_law_joints", "_law_row", "_law_values_here", "_law_k", "_law_size"] ["_law_joints", "_law_row"] (defScope (topS 52)) := ⟨rfl, rfl, rfl, by decide +kernel, rfl, by decide +kernel, by decide +kernel⟩
theorem b__law_values (T : Top P K mg A) : Binds K A.d__law_values ["_law_joints", "_law_row"] [] := T.F__law_values.binds (ps := ["_law_joints", "_law_row"]) fun _ _ _ _ _ _ us hl => match us, hl with | [_, _], _ => rfl
def P__law_values (A : Ads) (ds : List Dt) (d : List Dt) : Prop := ∃ (joints : (List Joint)) (row : Int) (r : (List Int)), ds = [.tup (List.map (d_Joint A) joints), .int row] ∧ m__law_values joints row = some r ∧ d = List.map Dt.int r
set_option maxHeartbeats 4000000 in
theorem ok__law_values (T : Top P K mg A) : FnOk P w K mg base CX0 1 A.f__law_values A.d__law_values ["_law_joints", "_law_row"] (FSpecL K (P__law_values A)) :=
  fn_L T.F__law_values sc__law_values (fun ds d h => by obtain ⟨joints, row, r, rfl, _, _⟩ := h; rfl) fun cdv A1 outer s H E hr => ⟨_, pss_cons (ps_set (i := 2) sc__law_values.nd rfl (by first | exact Or.inl rfl | exact Or.inr rfl) (pe_lst (pa_nil)))
 (pss_cons (ps_for PassesOwn.never rfl (pi_range1 (by rfl) T.z_range (pa_cons (pe_callB cr_lenS (by rfl) T.z_len bt_len (pa_cons (pv 0) (pa_nil))) (pa_nil))) (pg_name (i := 3) sc__law_values.nd rfl (by first | exact Or.inl rfl | exact Or.inr rfl)) (pss_cons (ps_set (i := 4) sc__law_values.nd rfl (by first | exact Or.inl rfl | exact Or.inr rfl) (pe_op op_add (pe_op op_sub (pe_fld (pe_ix ix_tup (pv 0) (pv 3) (fun _ _ => rfl)) (by rfl)) (pe_fld (pe_ix ix_tup (pv 0) (pv 3) (fun _ _ => rfl)) (by rfl))) (pe_int)))
 (pss_cons (ps_expr (pe_bm PySem.F.plainAttrs_list PySem.F.slot_list_append PySem.F.type_list_append mt_append (pv 2) (pa_cons (pe_op op_add (pe_fld (pe_ix ix_tup (pv 0) (pv 3) (fun _ _ => rfl)) (by rfl)) (pe_op op_mod (pe_callTy cr_int (by rfl) T.z_int bt_int (pa_cons (pe_op op_add (pe_op op_fdivW (pv 1) (pe_op op_add (pv 3) (pe_int))) (pe_op op_mulG (pe_op op_fdivW (pv 1) (pe_int)) (pe_op op_add (pv 3) (pe_int)))) (pa_nil))) (pv 4))) pa_nil)))
 (pss_nil))))
 (pss_cons (ps_ret (pv 2))
 (pss_nil))), fun ds d h => by
    obtain ⟨joints, row, r, rfl, h, rfl⟩ := h
    unfold m__law_values at h
    refine ⟨List.replicate 5 .un, sm_run (es := [.d (.tup (List.map (d_Joint A) joints)), .d (.int row), .un, .un, .un]) (oc := fun (r : (List Int)) => .rl (List.map Dt.int r) (List.replicate 5 .un)) h ?_⟩
    exact sm_one <|
sm_as <|
sm_lt fun values_here1 h_values_here1 =>
sm_own (es' := [.d (.tup (List.map (d_Joint A) joints)), .d (.int row), .own none (List.map Dt.int values_here1), .un, .un]) (el_is (el_lst (ds := List.map Dt.int []) (ea_nil) (by simp)) (congrArg (List.map Dt.int) h_values_here1)) rfl <|
sm_as <|
sm_bind fun r2 h_r2 =>
sm_seq (env := fun (s : (List Int)) => [.d (.tup (List.map (d_Joint A) joints)), .d (.int row), .own none (List.map Dt.int s), .un, .un]) (sm_forL (xs := r2) (em := Dt.int) (env := fun (s : (List Int)) => [.d (.tup (List.map (d_Joint A) joints)), .d (.int row), .own none (List.map Dt.int s), .un, .un]) (en2 := fun (k4 : Int) (s3 : (List Int)) => [.d (.tup (List.map (d_Joint A) joints)), .d (.int row), .own none (List.map Dt.int s3), .d (.int k4), .un]) (ei_rng1 (ea_cons (ev_lenVm (ev_var (i := 0) rfl)) (ea_nil)) h_r2) (wk_e <| wk_e <| wk_e <| wk_u <| wk_u <| wk_n) (fun k4 s3 => eg_name (vs := [3]) (by simp)) fun k4 s3 h_k4 => sm_one <|
sm_as <|
sm_bind fun t5 h_t5 =>
sm_bind fun t6 h_t6 =>
sm_lt fun size7 h_size7 =>
sm_set (es' := [.d (.tup (List.map (d_Joint A) joints)), .d (.int row), .own none (List.map Dt.int s3), .d (.int k4), .d (.int size7)]) (ev_is (ev_add (ev_sub (ev_fld (ev_ixTC (em := (d_Joint A)) (ev_var (i := 0) rfl) (ev_var (i := 3) rfl) h_t5) T.cl_Joint T.n_Joint_most rfl) (ev_fld (ev_ixTC (em := (d_Joint A)) (ev_var (i := 0) rfl) (ev_var (i := 3) rfl) h_t6) T.cl_Joint T.n_Joint_least rfl)) (ev_int)) (congrArg Dt.int h_size7)) rfl <|
sm_as <|
sm_bind fun t8 h_t8 =>
sm_bind fun t9 h_t9 =>
sm_bind fun t10 h_t10 =>
sm_bind fun t11 h_t11 =>
sm_bind fun t12 h_t12 =>
sm_bind fun values_here13 h_values_here13 =>
sm_app (i := 2) (x := (t8.least + t12)) (es' := [.d (.tup (List.map (d_Joint A) joints)), .d (.int row), .own none (List.map Dt.int values_here13), .d (.int k4), .d (.int size7)]) (em := Dt.int) rfl (ev_add (ev_fld (ev_ixTC (em := (d_Joint A)) (ev_var (i := 0) rfl) (ev_var (i := 3) rfl) h_t8) T.cl_Joint T.n_Joint_least rfl) (ev_mod (ev_intI (ev_add (ev_div (ev_var (i := 1) rfl) (ev_add (ev_var (i := 3) rfl) (ev_int)) h_t9) (ev_mul (ev_div (ev_var (i := 1) rfl) (ev_int) h_t10) (ev_add (ev_var (i := 3) rfl) (ev_int)) h_t11))) (ev_var (i := 4) rfl) h_t12)) h_values_here13 rfl <|
sm_nil <|
sm_some (sev_go (wk_e <| wk_e <| wk_e <| wk_u <| wk_u <| wk_n))) fun s14 h_s14 =>
sm_as <|
sm_some (sev_rtO (i := 2) rfl (wk_uns rfl))⟩
theorem sc_Arm_fits : FnScope ["self", "row", "k"] ["self", "row"] (defScope (inClass (topS 39) 1)) := ⟨rfl, rfl, rfl, by decide +kernel, rfl, by decide +kernel, by decide +kernel⟩
theorem b_Arm_fits (T : Top P K mg A) : Binds K A.d_Arm_fits ["self", "row"] [] := T.F_Arm_fits.binds (ps := ["self", "row"]) fun _ _ _ _ _ _ us hl => match us, hl with | [_, _], _ => rfl
def P_Arm_fits (A : Ads) (ds : List Dt) (d : Dt) : Prop := ∃ (self : Arm) (row : (List Int)) (r : Bool), ds = [(d_Arm A) self, .lst (List.map Dt.int row)] ∧ m_Arm_fits self row = some r ∧ d = .bl r
set_option maxHeartbeats 4000000 in
theorem ok_Arm_fits (T : Top P K mg A) : FnOk P w K mg base CX0 1 A.f_Arm_fits A.d_Arm_fits ["self", "row"] (FSpec K (RD (P_Arm_fits A))) :=
  fn_D T.F_Arm_fits sc_Arm_fits (fun ds d h => by obtain ⟨self, row, r, rfl, _, _⟩ := h; rfl) fun cdv A1 outer s H E hr => ⟨_, pss_cons (ps_if (pt_cmpR op_ne (pe_callB cr_lenS (by rfl) T.z_len bt_len (pa_cons (pv 1) (pa_nil))) (pe_callB cr_lenS (by rfl) T.z_len bt_len (pa_cons (pe_fld (pv 0) (by rfl)) (pa_nil))) (nomark _)) (pss_cons (ps_ret (pe_bl))
 (pss_nil)) (pss_nil))
 (pss_cons (ps_ret (pe_callB (cr_all rfl) (by rfl) T.z_all bt_all (pa_cons (pe_lc (own := [("k", 2)]) (g := gName 2) (tt := tYes) rfl sc_Arm_fits.nd (pi_range1 (by rfl) T.z_range (pa_cons (pe_callB cr_lenS (by rfl) T.z_len bt_len (pa_cons (pv 1) (pa_nil))) (pa_nil))) (blkOk_by (N := ["self", "row", "k"]) (sc := defScope (inClass (topS 39) 1)) (by decide +kernel)) (fun _ _ _ _ _ => pg_name (i := 2) sc_Arm_fits.nd rfl (by first | exact Or.inl rfl | exact Or.inr rfl)) (fun _ _ _ _ _ => pts_nil) (fun _ _ _ _ _ => pe_chain op_le op_le (pe_fldK (K := K) ("least" : Str) (pe_ix ix_tup (pe_fldK (K := K) ("joints" : Str) (pv 0) (by rfl) (by rfl)) (pv 2) (fun _ _ => rfl)) (by rfl) (by rfl)) (pe_ix ix_list (pv 1) (pv 2) (fun _ _ => rfl)) (pe_fldK (K := K) ("most" : Str) (pe_ix ix_tup (pe_fldK (K := K) ("joints" : Str) (pv 0) (by rfl) (by rfl)) (pv 2) (fun _ _ => rfl)) (by rfl) (by rfl)))) (pa_nil))))
 (pss_nil)), fun ds d h => by
    obtain ⟨self, row, r, rfl, h, rfl⟩ := h
    unfold m_Arm_fits at h
    refine ⟨_, List.replicate 3 .un, sm_run (es := [.d ((d_Arm A) self), .d (.lst (List.map Dt.int row)), .un]) (oc := fun (r : Bool) => .rt (.bl r) (List.replicate 3 .un)) h ?_, .inl rfl⟩
    exact sm_one <|
sm_as <|
sm_if (et_test (ev_neI (ev_lenLm (ev_var (i := 1) rfl)) (ev_lenVm (ev_fld (ev_var (i := 0) rfl) T.cl_Arm T.n_Arm_joints rfl)))) (fun hb =>
sm_as <|
sm_some (sev_rt (ev_bl) (wk_uns rfl))) (fun hb =>
sm_nil <|
sm_as <|
sm_bind fun r1 h_r1 =>
sm_bind fun t8 h_t8 =>
sm_some (sev_rt (ev_all (ns := t8) (ev_new (el_map (vs := [2]) (em := Dt.int) (em2 := Dt.bl) (en2 := fun (k2 : Int) => [.d ((d_Arm A) self), .d (.lst (List.map Dt.int row)), .d (.int k2)]) (ei_rng1 (ea_cons (ev_lenLm (ev_var (i := 1) rfl)) (ea_nil)) h_r1) (fun k2 => eg_name (vs := [2]) (by simp)) (fun k2 => ev_bnd fun t3 h_t3 => ev_bnd fun t4 h_t4 => ev_bnd fun t7 h_t7 => ev_pure (ev_chainC (em := Dt.int) (ev_fld (ev_ixTC (em := (d_Joint A)) (ev_fld (ev_var (i := 0) rfl) T.cl_Arm T.n_Arm_joints rfl) (ev_var (i := 2) rfl) h_t3) T.cl_Joint T.n_Joint_least rfl) (ev_ixLC (em := Dt.int) (ev_var (i := 1) rfl) (ev_var (i := 2) rfl) h_t4) c_le (fun _ => ev_bnd fun t5 h_t5 => ev_pure (ev_fld (ev_ixTC (em := (d_Joint A)) (ev_fld (ev_var (i := 0) rfl) T.cl_Arm T.n_Arm_joints rfl) (ev_var (i := 2) rfl) h_t5) T.cl_Joint T.n_Joint_most rfl)) (fun y6 => c_le) h_t7)) rfl h_t8))) (wk_uns rfl)))⟩
theorem sc_Move_init : FnScope ["self", "arm", "first", "last"] ["self", "arm", "first", "last"] (defScope (inClass (topS 13) 0)) := ⟨rfl, rfl, rfl, by decide +kernel, rfl, by decide +kernel, by decide +kernel⟩
theorem b_Move_init (T : Top P K mg A) : Binds K A.d_Move_init ["self", "arm", "first", "last"] [] := T.F_Move_init.binds (ps := ["self", "arm", "first", "last"]) fun _ _ _ _ _ _ us hl => match us, hl with | [_, _, _, _], _ => rfl
def P_Move_init (A : Ads) (ds : List Dt) (fs : List (Str × Dt)) : Prop := ∃ (arm : Arm) (first : (List Int)) (last : (List Int)) (r : Move), ds = [(d_Arm A) arm, .lst (List.map Dt.int first), .lst (List.map Dt.int last)] ∧ m_Move_init arm first last = some r ∧ fs = [(("first" : Str), .tup (List.map Dt.int r.first)), (("last" : Str), .tup (List.map Dt.int r.last))]
set_option maxHeartbeats 4000000 in
theorem ok_Move_init (T : Top P K mg A) : FnOk P w K mg base CX0 2 A.f_Move_init A.d_Move_init ["self", "arm", "first", "last"] (FSpec K (RI A.c_Move (P_Move_init A))) :=
  fn_I T.F_Move_init sc_Move_init (fun ds fs h => by obtain ⟨arm, first, last, r, rfl, _, _⟩ := h; rfl) fun cdv A1 outer s H E hr => ⟨_, pss_cons (ps_if (pt_not (pt_val (pe_meth (pv 1) T.cl_Arm T.m_Arm_fits (ok_Arm_fits T) (hr.mono (by decide)) (b_Arm_fits T) .nil pass0 (pa_cons (pv 2) (pa_nil))))) (pss_cons (ps_never)
 (pss_nil)) (pss_nil))
 (pss_cons (ps_if (pt_not (pt_val (pe_meth (pv 1) T.cl_Arm T.m_Arm_fits (ok_Arm_fits T) (hr.mono (by decide)) (b_Arm_fits T) .nil pass0 (pa_cons (pv 3) (pa_nil))))) (pss_cons (ps_never)
 (pss_nil)) (pss_nil))
 (pss_cons (ps_fld (pv 0) (pe_callTy cr_tupS (by rfl) T.z_tuple bt_tuple (pa_cons (pv 2) (pa_nil))) rfl)
 (pss_cons (ps_fld (pv 0) (pe_callTy cr_tupS (by rfl) T.z_tuple bt_tuple (pa_cons (pv 3) (pa_nil))) rfl)
 (pss_nil)))), fun p ds fs h => by
    obtain ⟨arm, first, last, r, rfl, h, rfl⟩ := h
    unfold m_Move_init at h
    refine ⟨_, List.replicate 3 .un, sm_run (es := [.obo (some p) A.c_Move [], .d ((d_Arm A) arm), .d (.lst (List.map Dt.int first)), .d (.lst (List.map Dt.int last))]) (oc := fun (r : Move) => .nx (.obo (some p) A.c_Move [(("first" : Str), .tup (List.map Dt.int r.first)), (("last" : Str), .tup (List.map Dt.int r.last))] :: List.replicate 3 .un)) h ?_, .inr ⟨rfl, rfl⟩⟩
    exact sm_one <|
sm_as <|
sm_bind fun t1 h_t1 =>
sm_if (et_not (et_B (ev_meth (ev_var (i := 1) rfl) rfl (ea_cons (ev_var (i := 2) rfl) (ea_nil)) ⟨arm, first, t1, rfl, h_t1, rfl⟩))) (fun hb =>
sm_as <|
sm_none) (fun hb =>
sm_nil <|
sm_as <|
sm_bind fun t2 h_t2 =>
sm_if (et_not (et_B (ev_meth (ev_var (i := 1) rfl) rfl (ea_cons (ev_var (i := 3) rfl) (ea_nil)) ⟨arm, last, t2, rfl, h_t2, rfl⟩))) (fun hb =>
sm_as <|
sm_none) (fun hb =>
sm_nil <|
sm_as <|
sm_fld (i := 0) (es' := [.obo (some p) A.c_Move [(("first" : Str), .tup (List.map Dt.int first))], .d ((d_Arm A) arm), .d (.lst (List.map Dt.int first)), .d (.lst (List.map Dt.int last))]) rfl (ev_tupL (ev_var (i := 2) rfl)) T.cl_Move T.n_Move_first (by simp) rfl <|
sm_as <|
sm_fld (i := 0) (es' := [.obo (some p) A.c_Move [(("first" : Str), .tup (List.map Dt.int first)), (("last" : Str), .tup (List.map Dt.int last))], .d ((d_Arm A) arm), .d (.lst (List.map Dt.int first)), .d (.lst (List.map Dt.int last))]) rfl (ev_tupL (ev_var (i := 3) rfl)) T.cl_Move T.n_Move_last (by simp) rfl <|
sm_nil <|
sm_some (sev_nx (wk_e <| wk_uns rfl))))⟩
theorem sc_Mover_init : FnScope ["self", "arm", "move", "held"] ["self", "arm", "move", "held"] (defScope (inClass (topS 24) 0)) := ⟨rfl, rfl, rfl, by decide +kernel, rfl, by decide +kernel, by decide +kernel⟩
theorem b0_Mover_init (T : Top P K mg A) : ∃ ds, L2.Vals [] ds ∧ Binds K A.d_Mover_init ["self", "arm", "move", "held"] ds := T.F_Mover_init.binds1 (ps := ["self", "arm", "move", "held"]) 4 1 (by simp) rfl fun TT kV doc pm an cdv ct us its h1 h2 => match us, h1, its, h2 with | [_, _, _, _], _, [_], _ => ⟨_, rfl, rfl⟩
theorem b1_Mover_init (T : Top P K mg A) : ∃ ds, L2.Vals [V.ref A.t_Mover_init_held] ds ∧ Binds K A.d_Mover_init ["self", "arm", "move", "held"] ds := T.F_Mover_init.binds1 (ps := ["self", "arm", "move", "held"]) 3 0 (by simp) rfl fun TT kV doc pm an cdv ct us its h1 h2 => match us, h1, its, h2 with | [_, _, _], _, [_], _ => ⟨_, rfl, rfl⟩
theorem b_Mover_init (T : Top P K mg A) : Binds K A.d_Mover_init ["self", "arm", "move", "held"] [] := by
  obtain ⟨ds, v, b⟩ := b0_Mover_init T
  cases v
  exact b
def P_Mover_init (A : Ads) (ds : List Dt) (fs : List (Str × Dt)) : Prop := ∃ (arm : Arm) (move : Move) (held : (List Body)) (r : Mover), ds = [(d_Arm A) arm, (d_Move A) move, .tup (List.map (d_Body A) held)] ∧ m_Mover_init arm move held = some r ∧ fs = [(("arm" : Str), (d_Arm A) r.arm), (("move" : Str), (d_Move A) r.move), (("held" : Str), .tup (List.map (d_Body A) r.held))]
set_option maxHeartbeats 4000000 in
theorem ok_Mover_init (T : Top P K mg A) : FnOk P w K mg base CX0 1 A.f_Mover_init A.d_Mover_init ["self", "arm", "move", "held"] (FSpec K (RI A.c_Mover (P_Mover_init A))) :=
  fn_ID T.F_Mover_init sc_Mover_init (fun ds fs h => by obtain ⟨arm, move, held, r, rfl, _, _⟩ := h; rfl) fun cdv A1 outer s H E hr => ⟨_, pss_cons (ps_fld (pv 0) (pv 1) rfl)
 (pss_cons (ps_fld (pv 0) (pv 2) rfl)
 (pss_cons (ps_fld (pv 0) (pe_callTy cr_tupS (by rfl) T.z_tuple bt_tuple (pa_cons (pv 3) (pa_nil))) rfl)
 (pss_nil))), fun p ds fs h => by
    obtain ⟨arm, move, held, r, rfl, h, rfl⟩ := h
    unfold m_Mover_init at h
    refine ⟨_, List.replicate 3 .un, sm_run (es := [.obo (some p) A.c_Mover [], .d ((d_Arm A) arm), .d ((d_Move A) move), .d (.tup (List.map (d_Body A) held))]) (oc := fun (r : Mover) => .nx (.obo (some p) A.c_Mover [(("arm" : Str), (d_Arm A) r.arm), (("move" : Str), (d_Move A) r.move), (("held" : Str), .tup (List.map (d_Body A) r.held))] :: List.replicate 3 .un)) h ?_, .inr ⟨rfl, rfl⟩⟩
    exact sm_one <|
sm_as <|
sm_fld (i := 0) (es' := [.obo (some p) A.c_Mover [(("arm" : Str), (d_Arm A) arm)], .d ((d_Arm A) arm), .d ((d_Move A) move), .d (.tup (List.map (d_Body A) held))]) rfl (ev_var (i := 1) rfl) T.cl_Mover T.n_Mover_arm (by simp) rfl <|
sm_as <|
sm_fld (i := 0) (es' := [.obo (some p) A.c_Mover [(("arm" : Str), (d_Arm A) arm), (("move" : Str), (d_Move A) move)], .d ((d_Arm A) arm), .d ((d_Move A) move), .d (.tup (List.map (d_Body A) held))]) rfl (ev_var (i := 2) rfl) T.cl_Mover T.n_Mover_move (by simp) rfl <|
sm_as <|
sm_fld (i := 0) (es' := [.obo (some p) A.c_Mover [(("arm" : Str), (d_Arm A) arm), (("move" : Str), (d_Move A) move), (("held" : Str), .tup (List.map (d_Body A) held))], .d ((d_Arm A) arm), .d ((d_Move A) move), .d (.tup (List.map (d_Body A) held))]) rfl (ev_tupV (ev_var (i := 3) rfl)) T.cl_Mover T.n_Mover_held (by simp) rfl <|
sm_nil <|
sm_some (sev_nx (wk_e <| wk_uns rfl))⟩
theorem sc__law_mover : FnScope ["_law_rows_here", "_law_at", "_law_error", "_law_arm_here", "_law_first", "_law_last", "_law_k", "_law_held"] ["_law_rows_here", "_law_at", "_law_error"] (defScope (topS 54)) := ⟨rfl, rfl, rfl, by decide +kernel, rfl, by decide +kernel, by decide +kernel⟩
theorem b__law_mover (T : Top P K mg A) : Binds K A.d__law_mover ["_law_rows_here", "_law_at", "_law_error"] [] := T.F__law_mover.binds (ps := ["_law_rows_here", "_law_at", "_law_error"]) fun _ _ _ _ _ _ us hl => match us, hl with | [_, _, _], _ => rfl
def P__law_mover (A : Ads) (ds : List Dt) (d : Dt) : Prop := ∃ (rows_here : (List Int)) (at_ : Int) (error : Int) (r : Mover), ds = [.lst (List.map Dt.int rows_here), .int at_, .int error] ∧ m__law_mover rows_here at_ error = some r ∧ d = (d_Mover A) r
set_option maxHeartbeats 4000000 in
theorem ok__law_mover (T : Top P K mg A) : FnOk P w K mg base CX0 6 A.f__law_mover A.d__law_mover ["_law_rows_here", "_law_at", "_law_error"] (FSpec K (RD (P__law_mover A))) :=
  fn_D T.F__law_mover sc__law_mover (fun ds d h => by obtain ⟨rows_here, at_, error, r, rfl, _, _⟩ := h; rfl) fun cdv A1 outer s H E hr => ⟨_, pss_cons (ps_set (i := 3) sc__law_mover.nd rfl (by first | exact Or.inl rfl | exact Or.inr rfl) (pe_call (ok__law_arm T) (hr.mono (by decide)) (by rfl) T.g__law_arm T.F__law_arm.kp (b__law_arm T) .nil pass0 (pa_cons (pv 0) (pa_cons (pv 1) (pa_cons (pv 2) (pa_nil))))))
 (pss_cons (ps_set (i := 4) sc__law_mover.nd rfl (by first | exact Or.inl rfl | exact Or.inr rfl) (pe_call (ok__law_values T) (hr.mono (by decide)) (by rfl) T.g__law_values T.F__law_values.kp (b__law_values T) .nil pass0 (pa_cons (pe_fld (pv 3) (by rfl)) (pa_cons (pe_ix ix_list (pv 0) (pe_op op_add (pv 1) (pe_int)) (fun _ _ => rfl)) (pa_nil)))))
 (pss_cons (ps_set (i := 5) sc__law_mover.nd rfl (by first | exact Or.inl rfl | exact Or.inr rfl) (pe_call (ok__law_values T) (hr.mono (by decide)) (by rfl) T.g__law_values T.F__law_values.kp (b__law_values T) .nil pass0 (pa_cons (pe_fld (pv 3) (by rfl)) (pa_cons (pe_ix ix_list (pv 0) (pe_op op_add (pv 1) (pe_int)) (fun _ _ => rfl)) (pa_nil)))))
 (pss_cons (ps_if (pt_cmpR op_eq (pe_op op_mod (pe_op op_fdivW (pe_ix ix_list (pv 0) (pv 1) (fun _ _ => rfl)) (pe_int)) (pe_int)) (pe_int) (nomark _)) (pss_cons (ps_set (i := 5) sc__law_mover.nd rfl (by first | exact Or.inl rfl | exact Or.inr rfl) (pe_callTy cr_listS (by rfl) T.z_list bt_list (pa_cons (pv 4) (pa_nil))))
 (pss_nil)) (pss_nil))
 (pss_cons (ps_for PassesOwn.never rfl (pi_range1 (by rfl) T.z_range (pa_cons (pe_callB cr_lenS (by rfl) T.z_len bt_len (pa_cons (pv 4) (pa_nil))) (pa_nil))) (pg_name (i := 6) sc__law_mover.nd rfl (by first | exact Or.inl rfl | exact Or.inr rfl)) (pss_cons (ps_if (pt_cmpR op_gt (pe_op op_mod (pe_op op_fdivW (pe_ix ix_list (pv 0) (pv 1) (fun _ _ => rfl)) (pe_int)) (pe_int)) (pe_int) (nomark _)) (pss_cons (ps_asg (pe_op op_add (pe_ix ix_list (pv 4) (pv 6) (fun _ _ => rfl)) (pe_op op_fdivW (pe_op op_sub (pe_ix ix_list (pv 5) (pv 6) (fun _ _ => rfl)) (pe_ix ix_list (pv 4) (pv 6) (fun _ _ => rfl))) (pe_int))) (pg_sub (pv 5) (pv 6) set_list))
 (pss_nil)) (pss_nil))
 (pss_nil)))
 (pss_cons (ps_set (i := 7) sc__law_mover.nd rfl (by first | exact Or.inl rfl | exact Or.inr rfl) (pe_lst (pa_nil)))
 (pss_cons (ps_if (pt_cmpR op_eq (pe_op op_mod (pe_op op_fdivW (pe_ix ix_list (pv 0) (pv 1) (fun _ _ => rfl)) (pe_int)) (pe_int)) (pe_int) (nomark _)) (pss_cons (ps_set (i := 7) sc__law_mover.nd rfl (by first | exact Or.inl rfl | exact Or.inr rfl) (pe_lst (pa_cons (pe_make T.mk_Body (ok_Body_init T) (hr.mono (by decide)) (by rfl) T.gc_Body (b_Body_init T) .nil pass0 (pa_cons (pe_tup (pa_cons (pe_int) (pa_cons (pe_int) (pa_cons (pe_int) (pa_nil))))) (pa_cons (pe_tup (pa_cons (pe_op op_mod (pe_callTy cr_int (by rfl) T.z_int bt_int (pa_cons (pe_ix ix_list (pv 0) (pe_op op_add (pv 1) (pe_int)) (fun _ _ => rfl)) (pa_nil))) (pe_int)) (pa_cons (pe_int) (pa_cons (pe_int) (pa_nil))))) (pa_cons (pe_op op_mod (pe_callTy cr_int (by rfl) T.z_int bt_int (pa_cons (pe_ix ix_list (pv 0) (pe_op op_add (pv 1) (pe_int)) (fun _ _ => rfl)) (pa_nil))) (pe_int)) (pa_nil))))) (pa_nil))))
 (pss_nil)) (pss_nil))
 (pss_cons (ps_ret (pe_make T.mk_Mover (ok_Mover_init T) (hr.mono (by decide)) (by rfl) T.gc_Mover (b_Mover_init T) .nil pass0 (pa_cons (pv 3) (pa_cons (pe_make T.mk_Move (ok_Move_init T) (hr.mono (by decide)) (by rfl) T.gc_Move (b_Move_init T) .nil pass0 (pa_cons (pv 3) (pa_cons (pv 4) (pa_cons (pv 5) (pa_nil))))) (pa_cons (pe_callTy cr_tupS (by rfl) T.z_tuple bt_tuple (pa_cons (pv 7) (pa_nil))) (pa_nil))))))
 (pss_nil)))))))), fun ds d h => by
    obtain ⟨rows_here, at_, error, r, rfl, h, rfl⟩ := h
    unfold m__law_mover at h
    refine ⟨_, List.replicate 8 .un, sm_run (es := [.d (.lst (List.map Dt.int rows_here)), .d (.int at_), .d (.int error), .un, .un, .un, .un, .un]) (oc := fun (r : Mover) => .rt ((d_Mover A) r) (List.replicate 8 .un)) h ?_, .inl rfl⟩
    exact sm_one <|
sm_as <|
sm_bind fun t1 h_t1 =>
sm_set (es' := [.d (.lst (List.map Dt.int rows_here)), .d (.int at_), .d (.int error), .d ((d_Arm A) t1), .un, .un, .un, .un]) (ev_call (ea_cons (ev_var (i := 0) rfl) (ea_cons (ev_var (i := 1) rfl) (ea_cons (ev_var (i := 2) rfl) (ea_nil)))) ⟨rows_here, at_, error, t1, rfl, h_t1, rfl⟩) rfl <|
sm_as <|
sm_bind fun t2 h_t2 =>
sm_bind fun t3 h_t3 =>
sm_set (es' := [.d (.lst (List.map Dt.int rows_here)), .d (.int at_), .d (.int error), .d ((d_Arm A) t1), .d (.lst (List.map Dt.int t3)), .un, .un, .un]) (ev_new (el_call (ea_cons (ev_fld (ev_var (i := 3) rfl) T.cl_Arm T.n_Arm_joints rfl) (ea_cons (ev_ixLC (em := Dt.int) (ev_var (i := 0) rfl) (ev_add (ev_var (i := 1) rfl) (ev_int)) h_t2) (ea_nil))) ⟨t1.joints, t2, t3, rfl, h_t3, rfl⟩)) rfl <|
sm_as <|
sm_bind fun t4 h_t4 =>
sm_bind fun t5 h_t5 =>
sm_own (es' := [.d (.lst (List.map Dt.int rows_here)), .d (.int at_), .d (.int error), .d ((d_Arm A) t1), .d (.lst (List.map Dt.int t3)), .own none (List.map Dt.int t5), .un, .un]) (el_call (ea_cons (ev_fld (ev_var (i := 3) rfl) T.cl_Arm T.n_Arm_joints rfl) (ea_cons (ev_ixLC (em := Dt.int) (ev_var (i := 0) rfl) (ev_add (ev_var (i := 1) rfl) (ev_int)) h_t4) (ea_nil))) ⟨t1.joints, t4, t5, rfl, h_t5, rfl⟩) rfl <|
sm_as <|
sm_bind fun t7 h_t7 =>
sm_bind fun t8 h_t8 =>
sm_bind fun t9 h_t9 =>
sm_seq (env := fun (s : (List Int)) => [.d (.lst (List.map Dt.int rows_here)), .d (.int at_), .d (.int error), .d ((d_Arm A) t1), .d (.lst (List.map Dt.int t3)), .own none (List.map Dt.int s), .un, .un]) (sm_one <| sm_if (et_test (ev_eqI (ev_mod (ev_div (ev_ixLC (em := Dt.int) (ev_var (i := 0) rfl) (ev_var (i := 1) rfl) h_t7) (ev_int) h_t8) (ev_int) h_t9) (ev_int))) (fun hb =>
sm_as <|
sm_own (es' := [.d (.lst (List.map Dt.int rows_here)), .d (.int at_), .d (.int error), .d ((d_Arm A) t1), .d (.lst (List.map Dt.int t3)), .own none (List.map Dt.int t3), .un, .un]) (el_listL (ev_var (i := 4) rfl)) rfl <|
sm_nil <|
sm_some (sev_nx (wk_e <| wk_e <| wk_e <| wk_e <| wk_e <| wk_e <| wk_u <| wk_u <| wk_n))) (fun hb =>
sm_nil <|
sm_some (sev_nx (wk_e <| wk_e <| wk_e <| wk_e <| wk_e <| wk_e <| wk_u <| wk_u <| wk_n)))) fun s11 h_s11 =>
sm_as <|
sm_bind fun r12 h_r12 =>
sm_seq (env := fun (s : (List Int)) => [.d (.lst (List.map Dt.int rows_here)), .d (.int at_), .d (.int error), .d ((d_Arm A) t1), .d (.lst (List.map Dt.int t3)), .own none (List.map Dt.int s), .un, .un]) (sm_forL (xs := r12) (em := Dt.int) (env := fun (s : (List Int)) => [.d (.lst (List.map Dt.int rows_here)), .d (.int at_), .d (.int error), .d ((d_Arm A) t1), .d (.lst (List.map Dt.int t3)), .own none (List.map Dt.int s), .un, .un]) (en2 := fun (k14 : Int) (s13 : (List Int)) => [.d (.lst (List.map Dt.int rows_here)), .d (.int at_), .d (.int error), .d ((d_Arm A) t1), .d (.lst (List.map Dt.int t3)), .own none (List.map Dt.int s13), .d (.int k14), .un]) (ei_rng1 (ea_cons (ev_lenLm (ev_var (i := 4) rfl)) (ea_nil)) h_r12) (wk_e <| wk_e <| wk_e <| wk_e <| wk_e <| wk_e <| wk_u <| wk_u <| wk_n) (fun k14 s13 => eg_name (vs := [6]) (by simp)) fun k14 s13 h_k14 => sm_one <|
sm_as <|
sm_bind fun t15 h_t15 =>
sm_bind fun t16 h_t16 =>
sm_bind fun t17 h_t17 =>
sm_seq (env := fun (s : (List Int)) => [.d (.lst (List.map Dt.int rows_here)), .d (.int at_), .d (.int error), .d ((d_Arm A) t1), .d (.lst (List.map Dt.int t3)), .own none (List.map Dt.int s), .d (.int k14), .un]) (sm_one <| sm_if (et_test (ev_gt (ev_mod (ev_div (ev_ixLC (em := Dt.int) (ev_var (i := 0) rfl) (ev_var (i := 1) rfl) h_t15) (ev_int) h_t16) (ev_int) h_t17) (ev_int))) (fun hb =>
sm_as <|
sm_bind fun t18 h_t18 =>
sm_bind fun t19 h_t19 =>
sm_bind fun t20 h_t20 =>
sm_bind fun t21 h_t21 =>
sm_bind fun last22 h_last22 =>
sm_setL (i := 5) (es' := [.d (.lst (List.map Dt.int rows_here)), .d (.int at_), .d (.int error), .d ((d_Arm A) t1), .d (.lst (List.map Dt.int t3)), .own none (List.map Dt.int last22), .d (.int k14), .un]) (em := Dt.int) rfl (ev_add (ev_ixLC (em := Dt.int) (ev_var (i := 4) rfl) (ev_var (i := 6) rfl) h_t18) (ev_div (ev_sub (ev_ixOC (j := 5) (em := Dt.int) rfl (ev_var (i := 6) rfl) h_t19) (ev_ixLC (em := Dt.int) (ev_var (i := 4) rfl) (ev_var (i := 6) rfl) h_t20)) (ev_int) h_t21)) (ev_var (i := 6) rfl) h_last22 rfl <|
sm_nil <|
sm_some (sev_nx (wk_e <| wk_e <| wk_e <| wk_e <| wk_e <| wk_e <| wk_e <| wk_u <| wk_n))) (fun hb =>
sm_nil <|
sm_some (sev_nx (wk_e <| wk_e <| wk_e <| wk_e <| wk_e <| wk_e <| wk_e <| wk_u <| wk_n)))) fun s23 h_s23 =>
sm_nil <|
sm_some (sev_go (wk_e <| wk_e <| wk_e <| wk_e <| wk_e <| wk_e <| wk_u <| wk_u <| wk_n))) fun s24 h_s24 =>
sm_as <|
sm_set (es' := [.d (.lst (List.map Dt.int rows_here)), .d (.int at_), .d (.int error), .d ((d_Arm A) t1), .d (.lst (List.map Dt.int t3)), .own none (List.map Dt.int s24), .un, .d (.lst (List.map dN ([] : List Unit)))]) (ev_new (el_lst ea_nil (by simp))) rfl <|
sm_as <|
sm_bind fun t25 h_t25 =>
sm_bind fun t26 h_t26 =>
sm_bind fun t27 h_t27 =>
sm_seq (env := fun (s : (List Body)) => [.d (.lst (List.map Dt.int rows_here)), .d (.int at_), .d (.int error), .d ((d_Arm A) t1), .d (.lst (List.map Dt.int t3)), .own none (List.map Dt.int s24), .un, .d (.lst (List.map (d_Body A) s))]) (sm_one <| sm_if (et_test (ev_eqI (ev_mod (ev_div (ev_ixLC (em := Dt.int) (ev_var (i := 0) rfl) (ev_var (i := 1) rfl) h_t25) (ev_int) h_t26) (ev_int) h_t27) (ev_int))) (fun hb =>
sm_as <|
sm_bind fun t28 h_t28 =>
sm_bind fun t29 h_t29 =>
sm_bind fun t30 h_t30 =>
sm_bind fun t31 h_t31 =>
sm_bind fun t32 h_t32 =>
sm_set (es' := [.d (.lst (List.map Dt.int rows_here)), .d (.int at_), .d (.int error), .d ((d_Arm A) t1), .d (.lst (List.map Dt.int t3)), .own none (List.map Dt.int s24), .un, .d ((dF1 (d_Body A)) t32)]) (ev_new (el_lst (ea_cons (ev_make (P := P_Body_init A) (C := A.c_Body) (ea_cons (ev_tup (ea_cons (ev_int) (ea_cons (ev_int) (ea_cons (ev_int) (ea_nil)))) (by simp)) (ea_cons (ev_tup (ea_cons (ev_mod (ev_intI (ev_ixLC (em := Dt.int) (ev_var (i := 0) rfl) (ev_add (ev_var (i := 1) rfl) (ev_int)) h_t28)) (ev_int) h_t29) (ea_cons (ev_int) (ea_cons (ev_int) (ea_nil)))) (by simp)) (ea_cons (ev_mod (ev_intI (ev_ixLC (em := Dt.int) (ev_var (i := 0) rfl) (ev_add (ev_var (i := 1) rfl) (ev_int)) h_t30)) (ev_int) h_t31) (ea_nil)))) ⟨(0, 0, 20), (t29, 0, 30), t31, t32, rfl, h_t32, rfl⟩) (ea_nil)) (by simp))) rfl <|
sm_nil <|
sm_some (sev_nx (wk_e <| wk_e <| wk_e <| wk_e <| wk_e <| wk_e <| wk_u <| wk_e <| wk_n))) (fun hb =>
sm_nil <|
sm_some (sev_nx (wk_e <| wk_e <| wk_e <| wk_e <| wk_e <| wk_e <| wk_u <| wk_e <| wk_n)))) fun s33 h_s33 =>
sm_as <|
sm_frz (i := 5) (es' := [.d (.lst (List.map Dt.int rows_here)), .d (.int at_), .d (.int error), .d ((d_Arm A) t1), .d (.lst (List.map Dt.int t3)), .d (.lst (List.map Dt.int s24)), .un, .d (.lst (List.map (d_Body A) s33))]) rfl rfl <|
sm_bind fun t34 h_t34 =>
sm_bind fun t35 h_t35 =>
sm_some (sev_rt (ev_make (P := P_Mover_init A) (C := A.c_Mover) (ea_cons (ev_var (i := 3) rfl) (ea_cons (ev_make (P := P_Move_init A) (C := A.c_Move) (ea_cons (ev_var (i := 3) rfl) (ea_cons (ev_var (i := 4) rfl) (ea_cons (ev_var (i := 5) rfl) (ea_nil)))) ⟨t1, t3, s24, t34, rfl, h_t34, rfl⟩) (ea_cons (ev_tupL (ev_var (i := 7) rfl)) (ea_nil)))) ⟨t1, t34, s33, t35, rfl, h_t35, rfl⟩) (wk_uns rfl))⟩
theorem sc_dot : FnScope ["first", "second"] ["first", "second"] (defScope (topS 10)) := ⟨rfl, rfl, rfl, by decide +kernel, rfl, by decide +kernel, by decide +kernel⟩
theorem b_dot (T : Top P K mg A) : Binds K A.d_dot ["first", "second"] [] := T.F_dot.binds (ps := ["first", "second"]) fun _ _ _ _ _ _ us hl => match us, hl with | [_, _], _ => rfl
def P_dot (A : Ads) (ds : List Dt) (d : Dt) : Prop := ∃ (first : (Int × Int × Int)) (second : (Int × Int × Int)) (r : Int), ds = [(dT3 Dt.int Dt.int Dt.int) first, (dT3 Dt.int Dt.int Dt.int) second] ∧ m_dot first second = some r ∧ d = .int r
set_option maxHeartbeats 4000000 in
theorem ok_dot (T : Top P K mg A) : FnOk P w K mg base CX0 1 A.f_dot A.d_dot ["first", "second"] (FSpec K (RD (P_dot A))) :=
  fn_D T.F_dot sc_dot (fun ds d h => by obtain ⟨first, second, r, rfl, _, _⟩ := h; rfl) fun cdv A1 outer s H E hr => ⟨_, pss_cons (ps_ret (pe_op op_add (pe_op op_add (pe_op op_mulG (pe_ix ix_tup (pv 0) (pe_int) (fun _ _ => rfl)) (pe_ix ix_tup (pv 1) (pe_int) (fun _ _ => rfl))) (pe_op op_mulG (pe_ix ix_tup (pv 0) (pe_int) (fun _ _ => rfl)) (pe_ix ix_tup (pv 1) (pe_int) (fun _ _ => rfl)))) (pe_op op_mulG (pe_ix ix_tup (pv 0) (pe_int) (fun _ _ => rfl)) (pe_ix ix_tup (pv 1) (pe_int) (fun _ _ => rfl)))))
 (pss_nil), fun ds d h => by
    obtain ⟨first, second, r, rfl, h, rfl⟩ := h
    unfold m_dot at h
    refine ⟨_, List.replicate 2 .un, sm_run (es := [.d ((dT3 Dt.int Dt.int Dt.int) first), .d ((dT3 Dt.int Dt.int Dt.int) second)]) (oc := fun (r : Int) => .rt (.int r) (List.replicate 2 .un)) h ?_, .inl rfl⟩
    exact sm_one <|
sm_as <|
sm_bind fun t1 h_t1 =>
sm_bind fun t2 h_t2 =>
sm_bind fun t3 h_t3 =>
sm_some (sev_rt (ev_add (ev_add (ev_mul (ev_ixNG 0 rfl rfl (ev_var (i := 0) rfl) (ev_int)) (ev_ixNG 0 rfl rfl (ev_var (i := 1) rfl) (ev_int)) h_t1) (ev_mul (ev_ixNG 1 rfl rfl (ev_var (i := 0) rfl) (ev_int)) (ev_ixNG 1 rfl rfl (ev_var (i := 1) rfl) (ev_int)) h_t2)) (ev_mul (ev_ixNG 2 rfl rfl (ev_var (i := 0) rfl) (ev_int)) (ev_ixNG 2 rfl rfl (ev_var (i := 1) rfl) (ev_int)) h_t3)) (wk_uns rfl))⟩
theorem sc_root_up : FnScope ["number", "root"] ["number"] (defScope (topS 8)) := ⟨rfl, rfl, rfl, by decide +kernel, rfl, by decide +kernel, by decide +kernel⟩
theorem b_root_up (T : Top P K mg A) : Binds K A.d_root_up ["number"] [] := T.F_root_up.binds (ps := ["number"]) fun _ _ _ _ _ _ us hl => match us, hl with | [_], _ => rfl
def P_root_up (A : Ads) (ds : List Dt) (d : Dt) : Prop := ∃ (number : Int) (r : Int), ds = [.int number] ∧ m_root_up number = some r ∧ d = .int r
set_option maxHeartbeats 4000000 in
theorem ok_root_up (T : Top P K mg A) : FnOk P w K mg base CX0 1 A.f_root_up A.d_root_up ["number"] (FSpec K (RD (P_root_up A))) :=
  fn_D T.F_root_up sc_root_up (fun ds d h => by obtain ⟨number, r, rfl, _, _⟩ := h; rfl) fun cdv A1 outer s H E hr => ⟨_, pss_cons (ps_set (i := 1) sc_root_up.nd rfl (by first | exact Or.inl rfl | exact Or.inr rfl) (pe_callBfun cr_isqrt (by rfl) T.i_isqrt (pa_cons (pv 0) (pa_nil))))
 (pss_cons (ps_if (pt_cmpR op_eq (pe_op op_mulG (pv 1) (pv 1)) (pv 0) (nomark _)) (pss_cons (ps_ret (pv 1))
 (pss_nil)) (pss_nil))
 (pss_cons (ps_ret (pe_op op_add (pv 1) (pe_int)))
 (pss_nil))), fun ds d h => by
    obtain ⟨number, r, rfl, h, rfl⟩ := h
    unfold m_root_up at h
    refine ⟨_, List.replicate 2 .un, sm_run (es := [.d (.int number), .un]) (oc := fun (r : Int) => .rt (.int r) (List.replicate 2 .un)) h ?_, .inl rfl⟩
    exact sm_one <|
sm_as <|
sm_bind fun t1 h_t1 =>
sm_set (es' := [.d (.int number), .d (.int t1)]) (ev_isqrt (ev_var (i := 0) rfl) h_t1) rfl <|
sm_as <|
sm_bind fun t2 h_t2 =>
sm_if (et_test (ev_eqI (ev_mul (ev_var (i := 1) rfl) (ev_var (i := 1) rfl) h_t2) (ev_var (i := 0) rfl))) (fun hb =>
sm_as <|
sm_some (sev_rt (ev_var (i := 1) rfl) (wk_uns rfl))) (fun hb =>
sm_nil <|
sm_as <|
sm_some (sev_rt (ev_add (ev_var (i := 1) rfl) (ev_int)) (wk_uns rfl)))⟩
theorem sc_length_up : FnScope ["vector"] ["vector"] (defScope (topS 11)) := ⟨rfl, rfl, rfl, by decide +kernel, rfl, by decide +kernel, by decide +kernel⟩
theorem b_length_up (T : Top P K mg A) : Binds K A.d_length_up ["vector"] [] := T.F_length_up.binds (ps := ["vector"]) fun _ _ _ _ _ _ us hl => match us, hl with | [_], _ => rfl
def P_length_up (A : Ads) (ds : List Dt) (d : Dt) : Prop := ∃ (vector : (Int × Int × Int)) (r : Int), ds = [(dT3 Dt.int Dt.int Dt.int) vector] ∧ m_length_up vector = some r ∧ d = .int r
set_option maxHeartbeats 4000000 in
theorem ok_length_up (T : Top P K mg A) : FnOk P w K mg base CX0 2 A.f_length_up A.d_length_up ["vector"] (FSpec K (RD (P_length_up A))) :=
  fn_D T.F_length_up sc_length_up (fun ds d h => by obtain ⟨vector, r, rfl, _, _⟩ := h; rfl) fun cdv A1 outer s H E hr => ⟨_, pss_cons (ps_ret (pe_call (ok_root_up T) (hr.mono (by decide)) (by rfl) T.g_root_up T.F_root_up.kp (b_root_up T) .nil pass0 (pa_cons (pe_call (ok_dot T) (hr.mono (by decide)) (by rfl) T.g_dot T.F_dot.kp (b_dot T) .nil pass0 (pa_cons (pv 0) (pa_cons (pv 0) (pa_nil)))) (pa_nil))))
 (pss_nil), fun ds d h => by
    obtain ⟨vector, r, rfl, h, rfl⟩ := h
    unfold m_length_up at h
    refine ⟨_, List.replicate 1 .un, sm_run (es := [.d ((dT3 Dt.int Dt.int Dt.int) vector)]) (oc := fun (r : Int) => .rt (.int r) (List.replicate 1 .un)) h ?_, .inl rfl⟩
    exact sm_one <|
sm_as <|
sm_bind fun t1 h_t1 =>
sm_bind fun t2 h_t2 =>
sm_some (sev_rt (ev_call (ea_cons (ev_call (ea_cons (ev_var (i := 0) rfl) (ea_cons (ev_var (i := 0) rfl) (ea_nil))) ⟨vector, vector, t1, rfl, h_t1, rfl⟩) (ea_nil)) ⟨t1, t2, rfl, h_t2, rfl⟩) (wk_uns rfl))⟩
theorem sc_Move_middle : FnScope ["self", "part", "depth", "at", "row", "k", "way"] ["self", "part"] (defScope (inClass (topS 13) 1)) := ⟨rfl, rfl, rfl, by decide +kernel, rfl, by decide +kernel, by decide +kernel⟩
theorem b_Move_middle (T : Top P K mg A) : Binds K A.d_Move_middle ["self", "part"] [] := T.F_Move_middle.binds (ps := ["self", "part"]) fun _ _ _ _ _ _ us hl => match us, hl with | [_, _], _ => rfl
def P_Move_middle (A : Ads) (ds : List Dt) (d : Dt) : Prop := ∃ (self : Move) (part : (Int × Int)) (r : (List Int)), ds = [(d_Move A) self, (dT2 Dt.int Dt.int) part] ∧ m_Move_middle self part = some r ∧ d = .lst (List.map Dt.int r)
set_option maxHeartbeats 4000000 in
theorem ok_Move_middle (T : Top P K mg A) : FnOk P w K mg base CX0 1 A.f_Move_middle A.d_Move_middle ["self", "part"] (FSpec K (RD (P_Move_middle A))) :=
  fn_D T.F_Move_middle sc_Move_middle (fun ds d h => by obtain ⟨self, part, r, rfl, _, _⟩ := h; rfl) fun cdv A1 outer s H E hr => ⟨_, pss_cons (ps_asg (pv 1) (pg_tup rfl (pgs_cons (pg_name (i := 2) sc_Move_middle.nd rfl (by first | exact Or.inl rfl | exact Or.inr rfl)) (pgs_cons (pg_name (i := 3) sc_Move_middle.nd rfl (by first | exact Or.inl rfl | exact Or.inr rfl)) (pgs_nil)))))
 (pss_cons (ps_set (i := 4) sc_Move_middle.nd rfl (by first | exact Or.inl rfl | exact Or.inr rfl) (pe_lst (pa_nil)))
 (pss_cons (ps_for PassesOwn.never rfl (pi_range1 (by rfl) T.z_range (pa_cons (pe_callB cr_lenS (by rfl) T.z_len bt_len (pa_cons (pe_fld (pv 0) (by rfl)) (pa_nil))) (pa_nil))) (pg_name (i := 5) sc_Move_middle.nd rfl (by first | exact Or.inl rfl | exact Or.inr rfl)) (pss_cons (ps_set (i := 6) sc_Move_middle.nd rfl (by first | exact Or.inl rfl | exact Or.inr rfl) (pe_op op_mulG (pe_op op_sub (pe_ix ix_tup (pe_fld (pv 0) (by rfl)) (pv 5) (fun _ _ => rfl)) (pe_ix ix_tup (pe_fld (pv 0) (by rfl)) (pv 5) (fun _ _ => rfl))) (pe_op op_add (pe_op op_mulG (pe_int) (pv 3)) (pe_int))))
 (pss_cons (ps_expr (pe_bm PySem.F.plainAttrs_list PySem.F.slot_list_append PySem.F.type_list_append mt_append (pv 4) (pa_cons (pe_op op_add (pe_ix ix_tup (pe_fld (pv 0) (by rfl)) (pv 5) (fun _ _ => rfl)) (pe_op op_shr (pv 6) (pe_op op_add (pv 2) (pe_int)))) pa_nil)))
 (pss_nil))))
 (pss_cons (ps_ret (pv 4))
 (pss_nil)))), fun ds d h => by
    obtain ⟨self, part, r, rfl, h, rfl⟩ := h
    unfold m_Move_middle at h
    refine ⟨_, List.replicate 7 .un, sm_run (es := [.d ((d_Move A) self), .d ((dT2 Dt.int Dt.int) part), .un, .un, .un, .un, .un]) (oc := fun (r : (List Int)) => .rt (.lst (List.map Dt.int r)) (List.replicate 7 .un)) h ?_, .inl rfl⟩
    exact sm_one <|
sm_as <|
sm_asgG (es' := [.d ((d_Move A) self), .d ((dT2 Dt.int Dt.int) part), .d (.int part.1), .d (.int part.2), .un, .un, .un]) (ev_var (i := 1) rfl) (eg_tup (egs_cons (eg_name (vs := [2, 3]) (by simp)) (egs_cons (eg_name (vs := [2, 3]) (by simp)) (egs_nil))) rfl) <|
sm_as <|
sm_lt fun row1 h_row1 =>
sm_own (es' := [.d ((d_Move A) self), .d ((dT2 Dt.int Dt.int) part), .d (.int part.1), .d (.int part.2), .own none (List.map Dt.int row1), .un, .un]) (el_is (el_lst (ds := List.map Dt.int []) (ea_nil) (by simp)) (congrArg (List.map Dt.int) h_row1)) rfl <|
sm_as <|
sm_bind fun r2 h_r2 =>
sm_seq (env := fun (s : (List Int)) => [.d ((d_Move A) self), .d ((dT2 Dt.int Dt.int) part), .d (.int part.1), .d (.int part.2), .own none (List.map Dt.int s), .un, .un]) (sm_forL (xs := r2) (em := Dt.int) (env := fun (s : (List Int)) => [.d ((d_Move A) self), .d ((dT2 Dt.int Dt.int) part), .d (.int part.1), .d (.int part.2), .own none (List.map Dt.int s), .un, .un]) (en2 := fun (k4 : Int) (s3 : (List Int)) => [.d ((d_Move A) self), .d ((dT2 Dt.int Dt.int) part), .d (.int part.1), .d (.int part.2), .own none (List.map Dt.int s3), .d (.int k4), .un]) (ei_rng1 (ea_cons (ev_lenVm (ev_fld (ev_var (i := 0) rfl) T.cl_Move T.n_Move_first rfl)) (ea_nil)) h_r2) (wk_e <| wk_e <| wk_e <| wk_e <| wk_e <| wk_u <| wk_u <| wk_n) (fun k4 s3 => eg_name (vs := [5]) (by simp)) fun k4 s3 h_k4 => sm_one <|
sm_as <|
sm_bind fun t5 h_t5 =>
sm_bind fun t6 h_t6 =>
sm_bind fun t7 h_t7 =>
sm_bind fun t8 h_t8 =>
sm_set (es' := [.d ((d_Move A) self), .d ((dT2 Dt.int Dt.int) part), .d (.int part.1), .d (.int part.2), .own none (List.map Dt.int s3), .d (.int k4), .d (.int t8)]) (ev_mul (ev_sub (ev_ixTC (em := Dt.int) (ev_fld (ev_var (i := 0) rfl) T.cl_Move T.n_Move_last rfl) (ev_var (i := 5) rfl) h_t5) (ev_ixTC (em := Dt.int) (ev_fld (ev_var (i := 0) rfl) T.cl_Move T.n_Move_first rfl) (ev_var (i := 5) rfl) h_t6)) (ev_add (ev_mul (ev_int) (ev_var (i := 3) rfl) h_t7) (ev_int)) h_t8) rfl <|
sm_as <|
sm_bind fun t9 h_t9 =>
sm_bind fun t10 h_t10 =>
sm_bind fun row11 h_row11 =>
sm_app (i := 4) (x := (t9 + t10)) (es' := [.d ((d_Move A) self), .d ((dT2 Dt.int Dt.int) part), .d (.int part.1), .d (.int part.2), .own none (List.map Dt.int row11), .d (.int k4), .d (.int t8)]) (em := Dt.int) rfl (ev_add (ev_ixTC (em := Dt.int) (ev_fld (ev_var (i := 0) rfl) T.cl_Move T.n_Move_first rfl) (ev_var (i := 5) rfl) h_t9) (ev_shr (ev_var (i := 6) rfl) (ev_add (ev_var (i := 2) rfl) (ev_int)) h_t10)) h_row11 rfl <|
sm_nil <|
sm_some (sev_go (wk_e <| wk_e <| wk_e <| wk_e <| wk_e <| wk_u <| wk_u <| wk_n))) fun s12 h_s12 =>
sm_as <|
sm_frz (i := 4) (es' := [.d ((d_Move A) self), .d ((dT2 Dt.int Dt.int) part), .d (.int part.1), .d (.int part.2), .d (.lst (List.map Dt.int s12)), .un, .un]) rfl rfl <|
sm_some (sev_rt (ev_var (i := 4) rfl) (wk_uns rfl))⟩
theorem sc_Mover_bodies : FnScope ["self", "row", "capsule", "body"] ["self"] (defScope (inClass (topS 24) 1)) := ⟨rfl, rfl, rfl, by decide +kernel, rfl, by decide +kernel, by decide +kernel⟩
theorem b_Mover_bodies (T : Top P K mg A) : Binds K A.d_Mover_bodies ["self"] [] := T.F_Mover_bodies.binds (ps := ["self"]) fun _ _ _ _ _ _ us hl => match us, hl with | [_], _ => rfl
def P_Mover_bodies (A : Ads) (ds : List Dt) (d : Dt) : Prop := ∃ (self : Mover) (r : (List (Int × Body))), ds = [(d_Mover A) self] ∧ m_Mover_bodies self = some r ∧ d = .lst (List.map (dT2 Dt.int (d_Body A)) r)
set_option maxHeartbeats 4000000 in
theorem ok_Mover_bodies (T : Top P K mg A) : FnOk P w K mg base CX0 1 A.f_Mover_bodies A.d_Mover_bodies ["self"] (FSpec K (RD (P_Mover_bodies A))) :=
  fn_D T.F_Mover_bodies sc_Mover_bodies (fun ds d h => by obtain ⟨self, r, rfl, _, _⟩ := h; rfl) fun cdv A1 outer s H E hr => ⟨_, pss_cons (ps_setLc (i := 1) (own := [("capsule", 2)]) (g := gName 2) (tt := tYes) rfl sc_Mover_bodies.nd rfl rfl (sw_true rfl rfl rfl (by decide +kernel)) (pi_tup (pe_fldK (K := K) ("capsules" : Str) (pe_fldK (K := K) ("arm" : Str) (pv 0) (by rfl) (by rfl)) (by rfl) (by rfl))) (blkOk_by (N := ["self", "row", "capsule", "body"]) (sc := defScope (inClass (topS 24) 1)) (by decide +kernel)) (fun _ _ _ _ _ => pg_name (i := 2) sc_Mover_bodies.nd rfl (by first | exact Or.inl rfl | exact Or.inr rfl)) (fun _ _ _ _ _ => pts_nil) (fun _ _ _ _ _ => pe_tup (pa_cons (pe_fldK (K := K) ("link" : Str) (pv 2) (by rfl) (by rfl)) (pa_cons (pe_fldK (K := K) ("body" : Str) (pv 2) (by rfl) (by rfl)) (pa_nil)))))
 (pss_cons (ps_for PassesOwn.never rfl (pi_tup (pe_fld (pv 0) (by rfl))) (pg_name (i := 3) sc_Mover_bodies.nd rfl (by first | exact Or.inl rfl | exact Or.inr rfl)) (pss_cons (ps_expr (pe_bm PySem.F.plainAttrs_list PySem.F.slot_list_append PySem.F.type_list_append mt_append (pv 1) (pa_cons (pe_tup (pa_cons (pe_callB cr_lenS (by rfl) T.z_len bt_len (pa_cons (pe_fld (pe_fld (pv 0) (by rfl)) (by rfl)) (pa_nil))) (pa_cons (pv 3) (pa_nil)))) pa_nil)))
 (pss_nil)))
 (pss_cons (ps_ret (pv 1))
 (pss_nil))), fun ds d h => by
    obtain ⟨self, r, rfl, h, rfl⟩ := h
    unfold m_Mover_bodies at h
    refine ⟨_, List.replicate 4 .un, sm_run (es := [.d ((d_Mover A) self), .un, .un, .un]) (oc := fun (r : (List (Int × Body))) => .rt (.lst (List.map (dT2 Dt.int (d_Body A)) r)) (List.replicate 4 .un)) h ?_, .inl rfl⟩
    exact sm_one <|
sm_as <|
sm_bind fun t2 h_t2 =>
sm_own (es' := [.d ((d_Mover A) self), .own none (List.map (dT2 Dt.int (d_Body A)) t2), .un, .un]) (el_mapP (vs := [2]) (em := (d_Capsule A)) (em2 := (dT2 Dt.int (d_Body A))) (en2 := fun (capsule1 : Capsule) => [.d ((d_Mover A) self), .un, .d ((d_Capsule A) capsule1), .un]) (ei_tup (ev_fld (ev_fld (ev_var (i := 0) rfl) T.cl_Mover T.n_Mover_arm rfl) T.cl_Arm T.n_Arm_capsules rfl)) (fun capsule1 => eg_name (vs := [2]) (by simp)) (fun capsule1 => ev_tup (ea_cons (ev_fld (ev_var (i := 2) rfl) T.cl_Capsule T.n_Capsule_link rfl) (ea_cons (ev_fld (ev_var (i := 2) rfl) T.cl_Capsule T.n_Capsule_body rfl) (ea_nil))) (by simp)) rfl h_t2) rfl <|
sm_as <|
sm_seq (env := fun (s : (List (Int × Body))) => [.d ((d_Mover A) self), .own none (List.map (dT2 Dt.int (d_Body A)) s), .un, .un]) (sm_forL (xs := self.held) (em := (d_Body A)) (env := fun (s : (List (Int × Body))) => [.d ((d_Mover A) self), .own none (List.map (dT2 Dt.int (d_Body A)) s), .un, .un]) (en2 := fun (body5 : Body) (s4 : (List (Int × Body))) => [.d ((d_Mover A) self), .own none (List.map (dT2 Dt.int (d_Body A)) s4), .un, .d ((d_Body A) body5)]) (ei_tup (ev_fld (ev_var (i := 0) rfl) T.cl_Mover T.n_Mover_held rfl)) (wk_e <| wk_e <| wk_u <| wk_u <| wk_n) (fun body5 s4 => eg_name (vs := [3]) (by simp)) fun body5 s4 h_body5 => sm_one <|
sm_as <|
sm_bind fun row6 h_row6 =>
sm_app (i := 1) (x := ((self.arm.joints.length : Int), body5)) (es' := [.d ((d_Mover A) self), .own none (List.map (dT2 Dt.int (d_Body A)) row6), .un, .d ((d_Body A) body5)]) (em := (dT2 Dt.int (d_Body A))) rfl (ev_tup (ea_cons (ev_lenVm (ev_fld (ev_fld (ev_var (i := 0) rfl) T.cl_Mover T.n_Mover_arm rfl) T.cl_Arm T.n_Arm_joints rfl)) (ea_cons (ev_var (i := 3) rfl) (ea_nil))) (by simp)) h_row6 rfl <|
sm_nil <|
sm_some (sev_go (wk_e <| wk_e <| wk_u <| wk_u <| wk_n))) fun s7 h_s7 =>
sm_as <|
sm_frz (i := 1) (es' := [.d ((d_Mover A) self), .d (.lst (List.map (dT2 Dt.int (d_Body A)) s7)), .un, .un]) rfl rfl <|
sm_some (sev_rt (ev_var (i := 1) rfl) (wk_uns rfl))⟩
theorem sc_turned : FnScope ["place", "axis", "value", "over", "under", "straight", "across", "whole", "one", "two", "out"] ["place", "axis", "value"] (defScope (topS 17)) := ⟨rfl, rfl, rfl, by decide +kernel, rfl, by decide +kernel, by decide +kernel⟩
theorem b_turned (T : Top P K mg A) : Binds K A.d_turned ["place", "axis", "value"] [] := T.F_turned.binds (ps := ["place", "axis", "value"]) fun _ _ _ _ _ _ us hl => match us, hl with | [_, _, _], _ => rfl
def P_turned (A : Ads) (ds : List Dt) (d : Dt) : Prop := ∃ (place : (Int × Int × Int × Int)) (axis : Int) (value : (Int × Int)) (r : (List Int)), ds = [(dT4 Dt.int Dt.int Dt.int Dt.int) place, .int axis, (dT2 Dt.int Dt.int) value] ∧ m_turned place axis value = some r ∧ d = .tup (List.map Dt.int r)
set_option maxHeartbeats 4000000 in
theorem ok_turned (T : Top P K mg A) : FnOk P w K mg base CX0 1 A.f_turned A.d_turned ["place", "axis", "value"] (FSpec K (RD (P_turned A))) :=
  fn_D T.F_turned sc_turned (fun ds d h => by obtain ⟨place, axis, value, r, rfl, _, _⟩ := h; rfl) fun cdv A1 outer s H E hr => ⟨_, pss_cons (ps_asg (pv 2) (pg_tup rfl (pgs_cons (pg_name (i := 3) sc_turned.nd rfl (by first | exact Or.inl rfl | exact Or.inr rfl)) (pgs_cons (pg_name (i := 4) sc_turned.nd rfl (by first | exact Or.inl rfl | exact Or.inr rfl)) (pgs_nil)))))
 (pss_cons (ps_set (i := 5) sc_turned.nd rfl (by first | exact Or.inl rfl | exact Or.inr rfl) (pe_op op_sub (pe_op op_mulG (pv 4) (pv 4)) (pe_op op_mulG (pv 3) (pv 3))))
 (pss_cons (ps_set (i := 6) sc_turned.nd rfl (by first | exact Or.inl rfl | exact Or.inr rfl) (pe_op op_mulG (pe_op op_mulG (pe_int) (pv 3)) (pv 4)))
 (pss_cons (ps_set (i := 7) sc_turned.nd rfl (by first | exact Or.inl rfl | exact Or.inr rfl) (pe_op op_add (pe_op op_mulG (pv 4) (pv 4)) (pe_op op_mulG (pv 3) (pv 3))))
 (pss_cons (ps_set (i := 8) sc_turned.nd rfl (by first | exact Or.inl rfl | exact Or.inr rfl) (pe_op op_mod (pe_op op_add (pv 1) (pe_int)) (pe_int)))
 (pss_cons (ps_set (i := 9) sc_turned.nd rfl (by first | exact Or.inl rfl | exact Or.inr rfl) (pe_op op_mod (pe_op op_add (pv 1) (pe_int)) (pe_int)))
 (pss_cons (ps_set (i := 10) sc_turned.nd rfl (by first | exact Or.inl rfl | exact Or.inr rfl) (pe_lst (pa_cons (pe_int) (pa_cons (pe_int) (pa_cons (pe_int) (pa_cons (pe_op op_mulG (pe_ix ix_tup (pv 0) (pe_int) (fun _ _ => rfl)) (pv 7)) (pa_nil)))))))
 (pss_cons (ps_asg (pe_op op_mulG (pe_ix ix_tup (pv 0) (pv 1) (fun _ _ => rfl)) (pv 7)) (pg_sub (pv 10) (pv 1) set_list))
 (pss_cons (ps_asg (pe_op op_sub (pe_op op_mulG (pe_ix ix_tup (pv 0) (pv 8) (fun _ _ => rfl)) (pv 5)) (pe_op op_mulG (pe_ix ix_tup (pv 0) (pv 9) (fun _ _ => rfl)) (pv 6))) (pg_sub (pv 10) (pv 8) set_list))
 (pss_cons (ps_asg (pe_op op_add (pe_op op_mulG (pe_ix ix_tup (pv 0) (pv 8) (fun _ _ => rfl)) (pv 6)) (pe_op op_mulG (pe_ix ix_tup (pv 0) (pv 9) (fun _ _ => rfl)) (pv 5))) (pg_sub (pv 10) (pv 9) set_list))
 (pss_cons (ps_ret (pe_callTy cr_tupS (by rfl) T.z_tuple bt_tuple (pa_cons (pv 10) pa_nil)))
 (pss_nil))))))))))), fun ds d h => by
    obtain ⟨place, axis, value, r, rfl, h, rfl⟩ := h
    unfold m_turned at h
    refine ⟨_, List.replicate 11 .un, sm_run (es := [.d ((dT4 Dt.int Dt.int Dt.int Dt.int) place), .d (.int axis), .d ((dT2 Dt.int Dt.int) value), .un, .un, .un, .un, .un, .un, .un, .un]) (oc := fun (r : (List Int)) => .rt (.tup (List.map Dt.int r)) (List.replicate 11 .un)) h ?_, .inl rfl⟩
    exact sm_one <|
sm_as <|
sm_asgG (es' := [.d ((dT4 Dt.int Dt.int Dt.int Dt.int) place), .d (.int axis), .d ((dT2 Dt.int Dt.int) value), .d (.int value.1), .d (.int value.2), .un, .un, .un, .un, .un, .un]) (ev_var (i := 2) rfl) (eg_tup (egs_cons (eg_name (vs := [3, 4]) (by simp)) (egs_cons (eg_name (vs := [3, 4]) (by simp)) (egs_nil))) rfl) <|
sm_as <|
sm_bind fun t1 h_t1 =>
sm_bind fun t2 h_t2 =>
sm_lt fun straight3 h_straight3 =>
sm_set (es' := [.d ((dT4 Dt.int Dt.int Dt.int Dt.int) place), .d (.int axis), .d ((dT2 Dt.int Dt.int) value), .d (.int value.1), .d (.int value.2), .d (.int straight3), .un, .un, .un, .un, .un]) (ev_is (ev_sub (ev_mul (ev_var (i := 4) rfl) (ev_var (i := 4) rfl) h_t1) (ev_mul (ev_var (i := 3) rfl) (ev_var (i := 3) rfl) h_t2)) (congrArg Dt.int h_straight3)) rfl <|
sm_as <|
sm_bind fun t4 h_t4 =>
sm_bind fun t5 h_t5 =>
sm_set (es' := [.d ((dT4 Dt.int Dt.int Dt.int Dt.int) place), .d (.int axis), .d ((dT2 Dt.int Dt.int) value), .d (.int value.1), .d (.int value.2), .d (.int straight3), .d (.int t5), .un, .un, .un, .un]) (ev_mul (ev_mul (ev_int) (ev_var (i := 3) rfl) h_t4) (ev_var (i := 4) rfl) h_t5) rfl <|
sm_as <|
sm_bind fun t6 h_t6 =>
sm_bind fun t7 h_t7 =>
sm_lt fun whole8 h_whole8 =>
sm_set (es' := [.d ((dT4 Dt.int Dt.int Dt.int Dt.int) place), .d (.int axis), .d ((dT2 Dt.int Dt.int) value), .d (.int value.1), .d (.int value.2), .d (.int straight3), .d (.int t5), .d (.int whole8), .un, .un, .un]) (ev_is (ev_add (ev_mul (ev_var (i := 4) rfl) (ev_var (i := 4) rfl) h_t6) (ev_mul (ev_var (i := 3) rfl) (ev_var (i := 3) rfl) h_t7)) (congrArg Dt.int h_whole8)) rfl <|
sm_as <|
sm_bind fun t9 h_t9 =>
sm_set (es' := [.d ((dT4 Dt.int Dt.int Dt.int Dt.int) place), .d (.int axis), .d ((dT2 Dt.int Dt.int) value), .d (.int value.1), .d (.int value.2), .d (.int straight3), .d (.int t5), .d (.int whole8), .d (.int t9), .un, .un]) (ev_mod (ev_add (ev_var (i := 1) rfl) (ev_int)) (ev_int) h_t9) rfl <|
sm_as <|
sm_bind fun t10 h_t10 =>
sm_set (es' := [.d ((dT4 Dt.int Dt.int Dt.int Dt.int) place), .d (.int axis), .d ((dT2 Dt.int Dt.int) value), .d (.int value.1), .d (.int value.2), .d (.int straight3), .d (.int t5), .d (.int whole8), .d (.int t9), .d (.int t10), .un]) (ev_mod (ev_add (ev_var (i := 1) rfl) (ev_int)) (ev_int) h_t10) rfl <|
sm_as <|
sm_bind fun t11 h_t11 =>
sm_lt fun out12 h_out12 =>
sm_own (es' := [.d ((dT4 Dt.int Dt.int Dt.int Dt.int) place), .d (.int axis), .d ((dT2 Dt.int Dt.int) value), .d (.int value.1), .d (.int value.2), .d (.int straight3), .d (.int t5), .d (.int whole8), .d (.int t9), .d (.int t10), .own none (List.map Dt.int out12)]) (el_is (el_lst (ds := List.map Dt.int [0, 0, 0, t11]) (ea_cons (ev_int) (ea_cons (ev_int) (ea_cons (ev_int) (ea_cons (ev_mul (ev_ixNG 3 rfl rfl (ev_var (i := 0) rfl) (ev_int)) (ev_var (i := 7) rfl) h_t11) (ea_nil))))) (by simp)) (congrArg (List.map Dt.int) h_out12)) rfl <|
sm_as <|
sm_bind fun t13 h_t13 =>
sm_bind fun t14 h_t14 =>
sm_bind fun out15 h_out15 =>
sm_setL (i := 10) (es' := [.d ((dT4 Dt.int Dt.int Dt.int Dt.int) place), .d (.int axis), .d ((dT2 Dt.int Dt.int) value), .d (.int value.1), .d (.int value.2), .d (.int straight3), .d (.int t5), .d (.int whole8), .d (.int t9), .d (.int t10), .own none (List.map Dt.int out15)]) (em := Dt.int) rfl (ev_mul (ev_ixTC (em := Dt.int) (xs := [place.1, place.2.1, place.2.2.1, place.2.2.2]) (ev_var (i := 0) rfl) (ev_var (i := 1) rfl) h_t13) (ev_var (i := 7) rfl) h_t14) (ev_var (i := 1) rfl) h_out15 rfl <|
sm_as <|
sm_bind fun t16 h_t16 =>
sm_bind fun t17 h_t17 =>
sm_bind fun t18 h_t18 =>
sm_bind fun t19 h_t19 =>
sm_bind fun out20 h_out20 =>
sm_setL (i := 10) (es' := [.d ((dT4 Dt.int Dt.int Dt.int Dt.int) place), .d (.int axis), .d ((dT2 Dt.int Dt.int) value), .d (.int value.1), .d (.int value.2), .d (.int straight3), .d (.int t5), .d (.int whole8), .d (.int t9), .d (.int t10), .own none (List.map Dt.int out20)]) (em := Dt.int) rfl (ev_sub (ev_mul (ev_ixTC (em := Dt.int) (xs := [place.1, place.2.1, place.2.2.1, place.2.2.2]) (ev_var (i := 0) rfl) (ev_var (i := 8) rfl) h_t16) (ev_var (i := 5) rfl) h_t17) (ev_mul (ev_ixTC (em := Dt.int) (xs := [place.1, place.2.1, place.2.2.1, place.2.2.2]) (ev_var (i := 0) rfl) (ev_var (i := 9) rfl) h_t18) (ev_var (i := 6) rfl) h_t19)) (ev_var (i := 8) rfl) h_out20 rfl <|
sm_as <|
sm_bind fun t21 h_t21 =>
sm_bind fun t22 h_t22 =>
sm_bind fun t23 h_t23 =>
sm_bind fun t24 h_t24 =>
sm_bind fun out25 h_out25 =>
sm_setL (i := 10) (es' := [.d ((dT4 Dt.int Dt.int Dt.int Dt.int) place), .d (.int axis), .d ((dT2 Dt.int Dt.int) value), .d (.int value.1), .d (.int value.2), .d (.int straight3), .d (.int t5), .d (.int whole8), .d (.int t9), .d (.int t10), .own none (List.map Dt.int out25)]) (em := Dt.int) rfl (ev_add (ev_mul (ev_ixTC (em := Dt.int) (xs := [place.1, place.2.1, place.2.2.1, place.2.2.2]) (ev_var (i := 0) rfl) (ev_var (i := 8) rfl) h_t21) (ev_var (i := 6) rfl) h_t22) (ev_mul (ev_ixTC (em := Dt.int) (xs := [place.1, place.2.1, place.2.2.1, place.2.2.2]) (ev_var (i := 0) rfl) (ev_var (i := 9) rfl) h_t23) (ev_var (i := 5) rfl) h_t24)) (ev_var (i := 9) rfl) h_out25 rfl <|
sm_as <|
sm_some (sev_rt (ev_tupO (i := 10) rfl) (wk_uns rfl))⟩
theorem sc_shifted : FnScope ["place", "axis", "value", "over", "under", "out"] ["place", "axis", "value"] (defScope (topS 18)) := ⟨rfl, rfl, rfl, by decide +kernel, rfl, by decide +kernel, by decide +kernel⟩
theorem b_shifted (T : Top P K mg A) : Binds K A.d_shifted ["place", "axis", "value"] [] := T.F_shifted.binds (ps := ["place", "axis", "value"]) fun _ _ _ _ _ _ us hl => match us, hl with | [_, _, _], _ => rfl
def P_shifted (A : Ads) (ds : List Dt) (d : Dt) : Prop := ∃ (place : (Int × Int × Int × Int)) (axis : Int) (value : (Int × Int)) (r : (List Int)), ds = [(dT4 Dt.int Dt.int Dt.int Dt.int) place, .int axis, (dT2 Dt.int Dt.int) value] ∧ m_shifted place axis value = some r ∧ d = .tup (List.map Dt.int r)
set_option maxHeartbeats 4000000 in
theorem ok_shifted (T : Top P K mg A) : FnOk P w K mg base CX0 1 A.f_shifted A.d_shifted ["place", "axis", "value"] (FSpec K (RD (P_shifted A))) :=
  fn_D T.F_shifted sc_shifted (fun ds d h => by obtain ⟨place, axis, value, r, rfl, _, _⟩ := h; rfl) fun cdv A1 outer s H E hr => ⟨_, pss_cons (ps_asg (pv 2) (pg_tup rfl (pgs_cons (pg_name (i := 3) sc_shifted.nd rfl (by first | exact Or.inl rfl | exact Or.inr rfl)) (pgs_cons (pg_name (i := 4) sc_shifted.nd rfl (by first | exact Or.inl rfl | exact Or.inr rfl)) (pgs_nil)))))
 (pss_cons (ps_set (i := 5) sc_shifted.nd rfl (by first | exact Or.inl rfl | exact Or.inr rfl) (pe_lst (pa_cons (pe_op op_mulG (pe_ix ix_tup (pv 0) (pe_int) (fun _ _ => rfl)) (pv 4)) (pa_cons (pe_op op_mulG (pe_ix ix_tup (pv 0) (pe_int) (fun _ _ => rfl)) (pv 4)) (pa_cons (pe_op op_mulG (pe_ix ix_tup (pv 0) (pe_int) (fun _ _ => rfl)) (pv 4)) (pa_cons (pe_op op_mulG (pe_ix ix_tup (pv 0) (pe_int) (fun _ _ => rfl)) (pv 4)) (pa_nil)))))))
 (pss_cons (ps_asg (pe_op op_add (pe_ix ix_list (pv 5) (pv 1) (fun _ _ => rfl)) (pe_op op_mulG (pv 3) (pe_ix ix_tup (pv 0) (pe_int) (fun _ _ => rfl)))) (pg_sub (pv 5) (pv 1) set_list))
 (pss_cons (ps_ret (pe_callTy cr_tupS (by rfl) T.z_tuple bt_tuple (pa_cons (pv 5) pa_nil)))
 (pss_nil)))), fun ds d h => by
    obtain ⟨place, axis, value, r, rfl, h, rfl⟩ := h
    unfold m_shifted at h
    refine ⟨_, List.replicate 6 .un, sm_run (es := [.d ((dT4 Dt.int Dt.int Dt.int Dt.int) place), .d (.int axis), .d ((dT2 Dt.int Dt.int) value), .un, .un, .un]) (oc := fun (r : (List Int)) => .rt (.tup (List.map Dt.int r)) (List.replicate 6 .un)) h ?_, .inl rfl⟩
    exact sm_one <|
sm_as <|
sm_asgG (es' := [.d ((dT4 Dt.int Dt.int Dt.int Dt.int) place), .d (.int axis), .d ((dT2 Dt.int Dt.int) value), .d (.int value.1), .d (.int value.2), .un]) (ev_var (i := 2) rfl) (eg_tup (egs_cons (eg_name (vs := [3, 4]) (by simp)) (egs_cons (eg_name (vs := [3, 4]) (by simp)) (egs_nil))) rfl) <|
sm_as <|
sm_bind fun t1 h_t1 =>
sm_bind fun t2 h_t2 =>
sm_bind fun t3 h_t3 =>
sm_bind fun t4 h_t4 =>
sm_lt fun out5 h_out5 =>
sm_own (es' := [.d ((dT4 Dt.int Dt.int Dt.int Dt.int) place), .d (.int axis), .d ((dT2 Dt.int Dt.int) value), .d (.int value.1), .d (.int value.2), .own none (List.map Dt.int out5)]) (el_is (el_lst (ds := List.map Dt.int [t1, t2, t3, t4]) (ea_cons (ev_mul (ev_ixNG 0 rfl rfl (ev_var (i := 0) rfl) (ev_int)) (ev_var (i := 4) rfl) h_t1) (ea_cons (ev_mul (ev_ixNG 1 rfl rfl (ev_var (i := 0) rfl) (ev_int)) (ev_var (i := 4) rfl) h_t2) (ea_cons (ev_mul (ev_ixNG 2 rfl rfl (ev_var (i := 0) rfl) (ev_int)) (ev_var (i := 4) rfl) h_t3) (ea_cons (ev_mul (ev_ixNG 3 rfl rfl (ev_var (i := 0) rfl) (ev_int)) (ev_var (i := 4) rfl) h_t4) (ea_nil))))) (by simp)) (congrArg (List.map Dt.int) h_out5)) rfl <|
sm_as <|
sm_bind fun t6 h_t6 =>
sm_bind fun t7 h_t7 =>
sm_bind fun out8 h_out8 =>
sm_setL (i := 5) (es' := [.d ((dT4 Dt.int Dt.int Dt.int Dt.int) place), .d (.int axis), .d ((dT2 Dt.int Dt.int) value), .d (.int value.1), .d (.int value.2), .own none (List.map Dt.int out8)]) (em := Dt.int) rfl (ev_add (ev_ixOC (j := 5) (em := Dt.int) rfl (ev_var (i := 1) rfl) h_t6) (ev_mul (ev_var (i := 3) rfl) (ev_ixNG 3 rfl rfl (ev_var (i := 0) rfl) (ev_int)) h_t7)) (ev_var (i := 1) rfl) h_out8 rfl <|
sm_as <|
sm_some (sev_rt (ev_tupO (i := 5) rfl) (wk_uns rfl))⟩
theorem sc_added : FnScope ["place", "other", "sums", "k"] ["place", "other"] (defScope (topS 19)) := ⟨rfl, rfl, rfl, by decide +kernel, rfl, by decide +kernel, by decide +kernel⟩
theorem b_added (T : Top P K mg A) : Binds K A.d_added ["place", "other"] [] := T.F_added.binds (ps := ["place", "other"]) fun _ _ _ _ _ _ us hl => match us, hl with | [_, _], _ => rfl
def P_added (A : Ads) (ds : List Dt) (d : Dt) : Prop := ∃ (place : (List Int)) (other : (Int × Int × Int × Int)) (r : (Int × Int × Int × Int)), ds = [.tup (List.map Dt.int place), (dT4 Dt.int Dt.int Dt.int Dt.int) other] ∧ m_added place other = some r ∧ d = (dT4 Dt.int Dt.int Dt.int Dt.int) r
set_option maxHeartbeats 4000000 in
theorem ok_added (T : Top P K mg A) : FnOk P w K mg base CX0 1 A.f_added A.d_added ["place", "other"] (FSpec K (RD (P_added A))) :=
  fn_D T.F_added sc_added (fun ds d h => by obtain ⟨place, other, r, rfl, _, _⟩ := h; rfl) fun cdv A1 outer s H E hr => ⟨_, pss_cons (ps_setLc (i := 2) (own := [("k", 3)]) (g := gName 3) (tt := tYes) rfl sc_added.nd rfl rfl (sw_true rfl rfl rfl (by decide +kernel)) (pi_range1 (by rfl) T.z_range (pa_cons (pe_int) (pa_nil))) (blkOk_by (N := ["place", "other", "sums", "k"]) (sc := defScope (topS 19)) (by decide +kernel)) (fun _ _ _ _ _ => pg_name (i := 3) sc_added.nd rfl (by first | exact Or.inl rfl | exact Or.inr rfl)) (fun _ _ _ _ _ => pts_nil) (fun _ _ _ _ _ => pe_op op_add (pe_op op_mulG (pe_ix ix_tup (pv 0) (pv 3) (fun _ _ => rfl)) (pe_ix ix_tup (pv 1) (pe_int) (fun _ _ => rfl))) (pe_op op_mulG (pe_ix ix_tup (pv 1) (pv 3) (fun _ _ => rfl)) (pe_ix ix_tup (pv 0) (pe_int) (fun _ _ => rfl)))))
 (pss_cons (ps_ret (pe_tup (pa_cons (pe_ix ix_list (pv 2) (pe_int) (fun _ _ => rfl)) (pa_cons (pe_ix ix_list (pv 2) (pe_int) (fun _ _ => rfl)) (pa_cons (pe_ix ix_list (pv 2) (pe_int) (fun _ _ => rfl)) (pa_cons (pe_op op_mulG (pe_ix ix_tup (pv 0) (pe_int) (fun _ _ => rfl)) (pe_ix ix_tup (pv 1) (pe_int) (fun _ _ => rfl))) (pa_nil)))))))
 (pss_nil)), fun ds d h => by
    obtain ⟨place, other, r, rfl, h, rfl⟩ := h
    unfold m_added at h
    refine ⟨_, List.replicate 4 .un, sm_run (es := [.d (.tup (List.map Dt.int place)), .d ((dT4 Dt.int Dt.int Dt.int Dt.int) other), .un, .un]) (oc := fun (r : (Int × Int × Int × Int)) => .rt ((dT4 Dt.int Dt.int Dt.int Dt.int) r) (List.replicate 4 .un)) h ?_, .inl rfl⟩
    exact sm_one <|
sm_as <|
sm_bind fun t2 h_t2 =>
sm_bind fun t3 h_t3 =>
sm_bind fun t4 h_t4 =>
sm_bind fun t5 h_t5 =>
sm_bind fun t6 h_t6 =>
sm_bind fun t7 h_t7 =>
sm_bind fun t8 h_t8 =>
sm_bind fun t9 h_t9 =>
sm_bind fun t10 h_t10 =>
sm_bind fun t11 h_t11 =>
sm_bind fun t12 h_t12 =>
sm_bind fun t13 h_t13 =>
sm_lt fun sums14 h_sums14 =>
sm_set (es' := [.d (.tup (List.map Dt.int place)), .d ((dT4 Dt.int Dt.int Dt.int Dt.int) other), .d ((dF3 Dt.int Dt.int Dt.int) sums14), .un]) (ev_is (ev_new (el_fix (vs := [3]) (xs := [0, 1, 2]) (em := Dt.int) (ds := [Dt.int (t3 + t5), Dt.int (t7 + t9), Dt.int (t11 + t13)]) (en2 := fun (k1 : Int) => [.d (.tup (List.map Dt.int place)), .d ((dT4 Dt.int Dt.int Dt.int Dt.int) other), .un, .d (.int k1)]) (ei_rng1 (xs := [0, 1, 2]) (ea_cons (ev_int) (ea_nil)) (by decide)) (by simp) (fun k1 => eg_name (vs := [3]) (by simp)) (ae_c (ev_add (ev_mul (ev_ixTC (em := Dt.int) (ev_var (i := 0) rfl) (ev_var (i := 3) rfl) h_t2) (ev_ixNG 3 rfl rfl (ev_var (i := 1) rfl) (ev_int)) h_t3) (ev_mul (ev_ixNG 0 rfl rfl (ev_var (i := 1) rfl) (ev_var (i := 3) rfl)) (ev_ixTC (em := Dt.int) (ev_var (i := 0) rfl) (ev_int) h_t4) h_t5)) <| ae_c (ev_add (ev_mul (ev_ixTC (em := Dt.int) (ev_var (i := 0) rfl) (ev_var (i := 3) rfl) h_t6) (ev_ixNG 3 rfl rfl (ev_var (i := 1) rfl) (ev_int)) h_t7) (ev_mul (ev_ixNG 1 rfl rfl (ev_var (i := 1) rfl) (ev_var (i := 3) rfl)) (ev_ixTC (em := Dt.int) (ev_var (i := 0) rfl) (ev_int) h_t8) h_t9)) <| ae_c (ev_add (ev_mul (ev_ixTC (em := Dt.int) (ev_var (i := 0) rfl) (ev_var (i := 3) rfl) h_t10) (ev_ixNG 3 rfl rfl (ev_var (i := 1) rfl) (ev_int)) h_t11) (ev_mul (ev_ixNG 2 rfl rfl (ev_var (i := 1) rfl) (ev_var (i := 3) rfl)) (ev_ixTC (em := Dt.int) (ev_var (i := 0) rfl) (ev_int) h_t12) h_t13)) <| ae_n) rfl)) (congrArg (dF3 Dt.int Dt.int Dt.int) h_sums14)) rfl <|
sm_as <|
sm_bind fun t15 h_t15 =>
sm_bind fun t16 h_t16 =>
sm_some (sev_rt (ev_tup (ea_cons (ev_ixLG 0 rfl rfl (ev_var (i := 2) rfl) (ev_int)) (ea_cons (ev_ixLG 1 rfl rfl (ev_var (i := 2) rfl) (ev_int)) (ea_cons (ev_ixLG 2 rfl rfl (ev_var (i := 2) rfl) (ev_int)) (ea_cons (ev_mul (ev_ixTC (em := Dt.int) (ev_var (i := 0) rfl) (ev_int) h_t15) (ev_ixNG 3 rfl rfl (ev_var (i := 1) rfl) (ev_int)) h_t16) (ea_nil))))) (by simp)) (wk_uns rfl))⟩
theorem sc_reduced : FnScope ["place", "common", "part"] ["place"] (defScope (topS 16)) := ⟨rfl, rfl, rfl, by decide +kernel, rfl, by decide +kernel, by decide +kernel⟩
theorem b_reduced (T : Top P K mg A) : Binds K A.d_reduced ["place"] [] := T.F_reduced.binds (ps := ["place"]) fun _ _ _ _ _ _ us hl => match us, hl with | [_], _ => rfl
def P_reduced (A : Ads) (ds : List Dt) (d : Dt) : Prop := ∃ (place : (Int × Int × Int × Int)) (r : (Int × Int × Int × Int)), ds = [(dT4 Dt.int Dt.int Dt.int Dt.int) place] ∧ m_reduced place = some r ∧ d = (dT4 Dt.int Dt.int Dt.int Dt.int) r
set_option maxHeartbeats 4000000 in
theorem ok_reduced (T : Top P K mg A) : FnOk P w K mg base CX0 1 A.f_reduced A.d_reduced ["place"] (FSpec K (RD (P_reduced A))) :=
  fn_D T.F_reduced sc_reduced (fun ds d h => by obtain ⟨place, r, rfl, _, _⟩ := h; rfl) fun cdv A1 outer s H E hr => ⟨_, pss_cons (ps_set (i := 1) sc_reduced.nd rfl (by first | exact Or.inl rfl | exact Or.inr rfl) (pe_callBfun cr_gcd (by rfl) T.i_gcd (pa_cons (pe_callBfun cr_gcd (by rfl) T.i_gcd (pa_cons (pe_ix ix_tup (pv 0) (pe_int) (fun _ _ => rfl)) (pa_cons (pe_ix ix_tup (pv 0) (pe_int) (fun _ _ => rfl)) (pa_nil)))) (pa_cons (pe_callBfun cr_gcd (by rfl) T.i_gcd (pa_cons (pe_ix ix_tup (pv 0) (pe_int) (fun _ _ => rfl)) (pa_cons (pe_ix ix_tup (pv 0) (pe_int) (fun _ _ => rfl)) (pa_nil)))) (pa_nil)))))
 (pss_cons (ps_ret (pe_callTy cr_tupS (by rfl) T.z_tuple bt_tuple (pa_cons (pe_lc (own := [("part", 2)]) (g := gName 2) (tt := tYes) rfl sc_reduced.nd (pi_tup (pv 0)) (blkOk_by (N := ["place", "common", "part"]) (sc := defScope (topS 16)) (by decide +kernel)) (fun _ _ _ _ _ => pg_name (i := 2) sc_reduced.nd rfl (by first | exact Or.inl rfl | exact Or.inr rfl)) (fun _ _ _ _ _ => pts_nil) (fun _ _ _ _ _ => pe_op op_fdivW (pv 2) (pv 1))) (pa_nil))))
 (pss_nil)), fun ds d h => by
    obtain ⟨place, r, rfl, h, rfl⟩ := h
    unfold m_reduced at h
    refine ⟨_, List.replicate 3 .un, sm_run (es := [.d ((dT4 Dt.int Dt.int Dt.int Dt.int) place), .un, .un]) (oc := fun (r : (Int × Int × Int × Int)) => .rt ((dT4 Dt.int Dt.int Dt.int Dt.int) r) (List.replicate 3 .un)) h ?_, .inl rfl⟩
    exact sm_one <|
sm_as <|
sm_lt fun common1 h_common1 =>
sm_set (es' := [.d ((dT4 Dt.int Dt.int Dt.int Dt.int) place), .d (.int common1), .un]) (ev_is (ev_gcd (ev_gcd (ev_ixNG 0 rfl rfl (ev_var (i := 0) rfl) (ev_int)) (ev_ixNG 1 rfl rfl (ev_var (i := 0) rfl) (ev_int))) (ev_gcd (ev_ixNG 2 rfl rfl (ev_var (i := 0) rfl) (ev_int)) (ev_ixNG 3 rfl rfl (ev_var (i := 0) rfl) (ev_int)))) (congrArg Dt.int h_common1)) rfl <|
sm_as <|
sm_bind fun t3 h_t3 =>
sm_bind fun t4 h_t4 =>
sm_bind fun t5 h_t5 =>
sm_bind fun t6 h_t6 =>
sm_some (sev_rt (ev_tupL (ev_new (el_fix (vs := [2]) (xs := [place.1, place.2.1, place.2.2.1, place.2.2.2]) (em := Dt.int) (ds := [Dt.int t3, Dt.int t4, Dt.int t5, Dt.int t6]) (en2 := fun (part2 : Int) => [.d ((dT4 Dt.int Dt.int Dt.int Dt.int) place), .d (.int common1), .d (.int part2)]) (ei_tup (ds := List.map Dt.int [place.1, place.2.1, place.2.2.1, place.2.2.2]) (ev_var (i := 0) rfl)) (by simp) (fun part2 => eg_name (vs := [2]) (by simp)) (ae_c (ev_div (ev_var (i := 2) rfl) (ev_var (i := 1) rfl) h_t3) <| ae_c (ev_div (ev_var (i := 2) rfl) (ev_var (i := 1) rfl) h_t4) <| ae_c (ev_div (ev_var (i := 2) rfl) (ev_var (i := 1) rfl) h_t5) <| ae_c (ev_div (ev_var (i := 2) rfl) (ev_var (i := 1) rfl) h_t6) <| ae_n) rfl))) (wk_uns rfl))⟩
theorem sc_true_place : FnScope ["arm", "values", "offsets", "link", "point", "place", "k", "joint", "over", "under"] ["arm", "values", "offsets", "link", "point"] (defScope (topS 20)) := ⟨rfl, rfl, rfl, by decide +kernel, rfl, by decide +kernel, by decide +kernel⟩
theorem b_true_place (T : Top P K mg A) : Binds K A.d_true_place ["arm", "values", "offsets", "link", "point"] [] := T.F_true_place.binds (ps := ["arm", "values", "offsets", "link", "point"]) fun _ _ _ _ _ _ us hl => match us, hl with | [_, _, _, _, _], _ => rfl
def P_true_place (A : Ads) (ds : List Dt) (d : Dt) : Prop := ∃ (arm : Arm) (values : (List (Int × Int))) (offsets : (List (Int × Int × Int × Int))) (link : Int) (point : (Int × Int × Int)) (r : (Int × Int × Int × Int)), ds = [(d_Arm A) arm, .lst (List.map (dT2 Dt.int Dt.int) values), .lst (List.map (dT4 Dt.int Dt.int Dt.int Dt.int) offsets), .int link, (dT3 Dt.int Dt.int Dt.int) point] ∧ m_true_place arm values offsets link point = some r ∧ d = (dT4 Dt.int Dt.int Dt.int Dt.int) r
set_option maxHeartbeats 4000000 in
theorem ok_true_place (T : Top P K mg A) : FnOk P w K mg base CX0 2 A.f_true_place A.d_true_place ["arm", "values", "offsets", "link", "point"] (FSpec K (RD (P_true_place A))) :=
  fn_D T.F_true_place sc_true_place (fun ds d h => by obtain ⟨arm, values, offsets, link, point, r, rfl, _, _⟩ := h; rfl) fun cdv A1 outer s H E hr => ⟨_, pss_cons (ps_set (i := 5) sc_true_place.nd rfl (by first | exact Or.inl rfl | exact Or.inr rfl) (pe_tup (pa_cons (pe_ix ix_tup (pv 4) (pe_int) (fun _ _ => rfl)) (pa_cons (pe_ix ix_tup (pv 4) (pe_int) (fun _ _ => rfl)) (pa_cons (pe_ix ix_tup (pv 4) (pe_int) (fun _ _ => rfl)) (pa_cons (pe_int) (pa_nil)))))))
 (pss_cons (ps_for PassesOwn.never rfl (pi_range3 (by rfl) T.z_range (pa_cons (pe_op op_sub (pv 3) (pe_int)) (pa_cons (pe_un un_neg pe_int) (pa_cons (pe_un un_neg pe_int) (pa_nil))))) (pg_name (i := 6) sc_true_place.nd rfl (by first | exact Or.inl rfl | exact Or.inr rfl)) (pss_cons (ps_set (i := 7) sc_true_place.nd rfl (by first | exact Or.inl rfl | exact Or.inr rfl) (pe_ix ix_tup (pe_fld (pv 0) (by rfl)) (pv 6) (fun _ _ => rfl)))
 (pss_cons (ps_asg (pe_ix ix_list (pv 1) (pv 6) (fun _ _ => rfl)) (pg_tup rfl (pgs_cons (pg_name (i := 8) sc_true_place.nd rfl (by first | exact Or.inl rfl | exact Or.inr rfl)) (pgs_cons (pg_name (i := 9) sc_true_place.nd rfl (by first | exact Or.inl rfl | exact Or.inr rfl)) (pgs_nil)))))
 (pss_cons (ps_if (pt_val (pe_fld (pv 7) (by rfl))) (pss_cons (ps_set (i := 5) sc_true_place.nd rfl (by first | exact Or.inl rfl | exact Or.inr rfl) (pe_call (ok_turned T) (hr.mono (by decide)) (by rfl) T.g_turned T.F_turned.kp (b_turned T) .nil pass0 (pa_cons (pv 5) (pa_cons (pe_fld (pv 7) (by rfl)) (pa_cons (pe_tup (pa_cons (pv 8) (pa_cons (pe_op op_mulG (pv 9) (pe_glob (v := .int 1000000) (by rfl) T.g_UNIT.choose_spec ⟨_, rfl⟩)) (pa_nil)))) (pa_nil))))))
 (pss_nil)) (pss_cons (ps_set (i := 5) sc_true_place.nd rfl (by first | exact Or.inl rfl | exact Or.inr rfl) (pe_call (ok_shifted T) (hr.mono (by decide)) (by rfl) T.g_shifted T.F_shifted.kp (b_shifted T) .nil pass0 (pa_cons (pv 5) (pa_cons (pe_fld (pv 7) (by rfl)) (pa_cons (pe_tup (pa_cons (pv 8) (pa_cons (pv 9) (pa_nil)))) (pa_nil))))))
 (pss_nil)))
 (pss_cons (ps_set (i := 5) sc_true_place.nd rfl (by first | exact Or.inl rfl | exact Or.inr rfl) (pe_call (ok_reduced T) (hr.mono (by decide)) (by rfl) T.g_reduced T.F_reduced.kp (b_reduced T) .nil pass0 (pa_cons (pe_call (ok_added T) (hr.mono (by decide)) (by rfl) T.g_added T.F_added.kp (b_added T) .nil pass0 (pa_cons (pv 5) (pa_cons (pe_ix ix_list (pv 2) (pv 6) (fun _ _ => rfl)) (pa_nil)))) (pa_nil))))
 (pss_nil))))))
 (pss_cons (ps_ret (pv 5))
 (pss_nil))), fun ds d h => by
    obtain ⟨arm, values, offsets, link, point, r, rfl, h, rfl⟩ := h
    unfold m_true_place at h
    refine ⟨_, List.replicate 10 .un, sm_run (es := [.d ((d_Arm A) arm), .d (.lst (List.map (dT2 Dt.int Dt.int) values)), .d (.lst (List.map (dT4 Dt.int Dt.int Dt.int Dt.int) offsets)), .d (.int link), .d ((dT3 Dt.int Dt.int Dt.int) point), .un, .un, .un, .un, .un]) (oc := fun (r : (Int × Int × Int × Int)) => .rt ((dT4 Dt.int Dt.int Dt.int Dt.int) r) (List.replicate 10 .un)) h ?_, .inl rfl⟩
    exact sm_one <|
sm_as <|
sm_lt fun place1 h_place1 =>
sm_set (es' := [.d ((d_Arm A) arm), .d (.lst (List.map (dT2 Dt.int Dt.int) values)), .d (.lst (List.map (dT4 Dt.int Dt.int Dt.int Dt.int) offsets)), .d (.int link), .d ((dT3 Dt.int Dt.int Dt.int) point), .d ((dT4 Dt.int Dt.int Dt.int Dt.int) place1), .un, .un, .un, .un]) (ev_is (ev_tup (ea_cons (ev_ixNG 0 rfl rfl (ev_var (i := 4) rfl) (ev_int)) (ea_cons (ev_ixNG 1 rfl rfl (ev_var (i := 4) rfl) (ev_int)) (ea_cons (ev_ixNG 2 rfl rfl (ev_var (i := 4) rfl) (ev_int)) (ea_cons (ev_int) (ea_nil))))) (by simp)) (congrArg (dT4 Dt.int Dt.int Dt.int Dt.int) h_place1)) rfl <|
sm_as <|
sm_bind fun r2 h_r2 =>
sm_seq (env := fun (s : (Int × Int × Int × Int)) => [.d ((d_Arm A) arm), .d (.lst (List.map (dT2 Dt.int Dt.int) values)), .d (.lst (List.map (dT4 Dt.int Dt.int Dt.int Dt.int) offsets)), .d (.int link), .d ((dT3 Dt.int Dt.int Dt.int) point), .d ((dT4 Dt.int Dt.int Dt.int Dt.int) s), .un, .un, .un, .un]) (sm_forL (xs := r2) (em := Dt.int) (env := fun (s : (Int × Int × Int × Int)) => [.d ((d_Arm A) arm), .d (.lst (List.map (dT2 Dt.int Dt.int) values)), .d (.lst (List.map (dT4 Dt.int Dt.int Dt.int Dt.int) offsets)), .d (.int link), .d ((dT3 Dt.int Dt.int Dt.int) point), .d ((dT4 Dt.int Dt.int Dt.int Dt.int) s), .un, .un, .un, .un]) (en2 := fun (k4 : Int) (s3 : (Int × Int × Int × Int)) => [.d ((d_Arm A) arm), .d (.lst (List.map (dT2 Dt.int Dt.int) values)), .d (.lst (List.map (dT4 Dt.int Dt.int Dt.int Dt.int) offsets)), .d (.int link), .d ((dT3 Dt.int Dt.int Dt.int) point), .d ((dT4 Dt.int Dt.int Dt.int Dt.int) s3), .d (.int k4), .un, .un, .un]) (ei_rngD (ea_cons (ev_sub (ev_var (i := 3) rfl) (ev_int)) (ea_cons (ev_neg ev_int) (ea_cons (ev_neg ev_int) (ea_nil)))) h_r2) (wk_e <| wk_e <| wk_e <| wk_e <| wk_e <| wk_e <| wk_u <| wk_u <| wk_u <| wk_u <| wk_n) (fun k4 s3 => eg_name (vs := [6]) (by simp)) fun k4 s3 h_k4 => sm_one <|
sm_as <|
sm_bind fun t5 h_t5 =>
sm_set (es' := [.d ((d_Arm A) arm), .d (.lst (List.map (dT2 Dt.int Dt.int) values)), .d (.lst (List.map (dT4 Dt.int Dt.int Dt.int Dt.int) offsets)), .d (.int link), .d ((dT3 Dt.int Dt.int Dt.int) point), .d ((dT4 Dt.int Dt.int Dt.int Dt.int) s3), .d (.int k4), .d ((d_Joint A) t5), .un, .un]) (ev_ixTC (em := (d_Joint A)) (ev_fld (ev_var (i := 0) rfl) T.cl_Arm T.n_Arm_joints rfl) (ev_var (i := 6) rfl) h_t5) rfl <|
sm_as <|
sm_bind fun t6 h_t6 =>
sm_asgG (es' := [.d ((d_Arm A) arm), .d (.lst (List.map (dT2 Dt.int Dt.int) values)), .d (.lst (List.map (dT4 Dt.int Dt.int Dt.int Dt.int) offsets)), .d (.int link), .d ((dT3 Dt.int Dt.int Dt.int) point), .d ((dT4 Dt.int Dt.int Dt.int Dt.int) s3), .d (.int k4), .d ((d_Joint A) t5), .d (.int t6.1), .d (.int t6.2)]) (ev_ixLC (em := (dT2 Dt.int Dt.int)) (ev_var (i := 1) rfl) (ev_var (i := 6) rfl) h_t6) (eg_tup (egs_cons (eg_name (vs := [8, 9]) (by simp)) (egs_cons (eg_name (vs := [8, 9]) (by simp)) (egs_nil))) rfl) <|
sm_as <|
sm_seq (env := fun (s : (List Int)) => [.d ((d_Arm A) arm), .d (.lst (List.map (dT2 Dt.int Dt.int) values)), .d (.lst (List.map (dT4 Dt.int Dt.int Dt.int Dt.int) offsets)), .d (.int link), .d ((dT3 Dt.int Dt.int Dt.int) point), .d (.tup (List.map Dt.int s)), .d (.int k4), .d ((d_Joint A) t5), .d (.int t6.1), .d (.int t6.2)]) (sm_one <| sm_if (et_B (ev_fld (ev_var (i := 7) rfl) T.cl_Joint T.n_Joint_turns rfl)) (fun hb =>
sm_as <|
sm_bind fun t7 h_t7 =>
sm_bind fun t8 h_t8 =>
sm_set (es' := [.d ((d_Arm A) arm), .d (.lst (List.map (dT2 Dt.int Dt.int) values)), .d (.lst (List.map (dT4 Dt.int Dt.int Dt.int Dt.int) offsets)), .d (.int link), .d ((dT3 Dt.int Dt.int Dt.int) point), .d (.tup (List.map Dt.int t8)), .d (.int k4), .d ((d_Joint A) t5), .d (.int t6.1), .d (.int t6.2)]) (ev_call (ea_cons (ev_var (i := 5) rfl) (ea_cons (ev_fld (ev_var (i := 7) rfl) T.cl_Joint T.n_Joint_axis rfl) (ea_cons (ev_tup (ea_cons (ev_var (i := 8) rfl) (ea_cons (ev_mul (ev_var (i := 9) rfl) (ev_int) h_t7) (ea_nil))) (by simp)) (ea_nil)))) ⟨s3, t5.axis, (t6.1, t7), t8, rfl, h_t8, rfl⟩) rfl <|
sm_nil <|
sm_some (sev_nx (wk_e <| wk_e <| wk_e <| wk_e <| wk_e <| wk_e <| wk_e <| wk_e <| wk_e <| wk_e <| wk_n))) (fun hb =>
sm_as <|
sm_bind fun t9 h_t9 =>
sm_set (es' := [.d ((d_Arm A) arm), .d (.lst (List.map (dT2 Dt.int Dt.int) values)), .d (.lst (List.map (dT4 Dt.int Dt.int Dt.int Dt.int) offsets)), .d (.int link), .d ((dT3 Dt.int Dt.int Dt.int) point), .d (.tup (List.map Dt.int t9)), .d (.int k4), .d ((d_Joint A) t5), .d (.int t6.1), .d (.int t6.2)]) (ev_call (ea_cons (ev_var (i := 5) rfl) (ea_cons (ev_fld (ev_var (i := 7) rfl) T.cl_Joint T.n_Joint_axis rfl) (ea_cons (ev_tup (ea_cons (ev_var (i := 8) rfl) (ea_cons (ev_var (i := 9) rfl) (ea_nil))) (by simp)) (ea_nil)))) ⟨s3, t5.axis, (t6.1, t6.2), t9, rfl, h_t9, rfl⟩) rfl <|
sm_nil <|
sm_some (sev_nx (wk_e <| wk_e <| wk_e <| wk_e <| wk_e <| wk_e <| wk_e <| wk_e <| wk_e <| wk_e <| wk_n)))) fun s10 h_s10 =>
sm_as <|
sm_bind fun t11 h_t11 =>
sm_bind fun t12 h_t12 =>
sm_bind fun t13 h_t13 =>
sm_set (es' := [.d ((d_Arm A) arm), .d (.lst (List.map (dT2 Dt.int Dt.int) values)), .d (.lst (List.map (dT4 Dt.int Dt.int Dt.int Dt.int) offsets)), .d (.int link), .d ((dT3 Dt.int Dt.int Dt.int) point), .d ((dT4 Dt.int Dt.int Dt.int Dt.int) t13), .d (.int k4), .d ((d_Joint A) t5), .d (.int t6.1), .d (.int t6.2)]) (ev_call (ea_cons (ev_call (ea_cons (ev_var (i := 5) rfl) (ea_cons (ev_ixLC (em := (dT4 Dt.int Dt.int Dt.int Dt.int)) (ev_var (i := 2) rfl) (ev_var (i := 6) rfl) h_t11) (ea_nil))) ⟨s10, t11, t12, rfl, h_t12, rfl⟩) (ea_nil)) ⟨t12, t13, rfl, h_t13, rfl⟩) rfl <|
sm_nil <|
sm_some (sev_go (wk_e <| wk_e <| wk_e <| wk_e <| wk_e <| wk_e <| wk_u <| wk_u <| wk_u <| wk_u <| wk_n))) fun s14 h_s14 =>
sm_as <|
sm_some (sev_rt (ev_var (i := 5) rfl) (wk_uns rfl))⟩
theorem sc_spot : FnScope ["arm", "row", "link", "point", "offsets", "joint", "place", "value"] ["arm", "row", "link", "point"] (defScope (topS 21)) := ⟨rfl, rfl, rfl, by decide +kernel, rfl, by decide +kernel, by decide +kernel⟩
theorem b_spot (T : Top P K mg A) : Binds K A.d_spot ["arm", "row", "link", "point"] [] := T.F_spot.binds (ps := ["arm", "row", "link", "point"]) fun _ _ _ _ _ _ us hl => match us, hl with | [_, _, _, _], _ => rfl
def P_spot (A : Ads) (ds : List Dt) (d : Dt) : Prop := ∃ (arm : Arm) (row : (List Int)) (link : Int) (point : (Int × Int × Int)) (r : (Int × Int × Int)), ds = [(d_Arm A) arm, .lst (List.map Dt.int row), .int link, (dT3 Dt.int Dt.int Dt.int) point] ∧ m_spot arm row link point = some r ∧ d = (dT3 Dt.int Dt.int Dt.int) r
set_option maxHeartbeats 4000000 in
theorem ok_spot (T : Top P K mg A) : FnOk P w K mg base CX0 3 A.f_spot A.d_spot ["arm", "row", "link", "point"] (FSpec K (RD (P_spot A))) :=
  fn_D T.F_spot sc_spot (fun ds d h => by obtain ⟨arm, row, link, point, r, rfl, _, _⟩ := h; rfl) fun cdv A1 outer s H E hr => ⟨_, pss_cons (ps_setLc (i := 4) (own := [("joint", 5)]) (g := gName 5) (tt := tYes) rfl sc_spot.nd rfl rfl (sw_true rfl rfl rfl (by decide +kernel)) (pi_tup (pe_fldK (K := K) ("joints" : Str) (pv 0) (by rfl) (by rfl))) (blkOk_by (N := ["arm", "row", "link", "point", "offsets", "joint", "place", "value"]) (sc := defScope (topS 21)) (by decide +kernel)) (fun _ _ _ _ _ => pg_name (i := 5) sc_spot.nd rfl (by first | exact Or.inl rfl | exact Or.inr rfl)) (fun _ _ _ _ _ => pts_nil) (fun _ _ _ _ _ => pe_tup (pa_cons (pe_ix ix_tup (pe_fldK (K := K) ("offset" : Str) (pv 5) (by rfl) (by rfl)) (pe_int) (fun _ _ => rfl)) (pa_cons (pe_ix ix_tup (pe_fldK (K := K) ("offset" : Str) (pv 5) (by rfl) (by rfl)) (pe_int) (fun _ _ => rfl)) (pa_cons (pe_ix ix_tup (pe_fldK (K := K) ("offset" : Str) (pv 5) (by rfl) (by rfl)) (pe_int) (fun _ _ => rfl)) (pa_cons (pe_int) (pa_nil)))))))
 (pss_cons (ps_set (i := 6) sc_spot.nd rfl (by first | exact Or.inl rfl | exact Or.inr rfl) (pe_call (ok_true_place T) (hr.mono (by decide)) (by rfl) T.g_true_place T.F_true_place.kp (b_true_place T) .nil pass0 (pa_cons (pv 0) (pa_cons (pe_lc (own := [("value", 7)]) (g := gName 7) (tt := tYes) rfl sc_spot.nd (pi_list (pv 1)) (blkOk_by (N := ["arm", "row", "link", "point", "offsets", "joint", "place", "value"]) (sc := defScope (topS 21)) (by decide +kernel)) (fun _ _ _ _ _ => pg_name (i := 7) sc_spot.nd rfl (by first | exact Or.inl rfl | exact Or.inr rfl)) (fun _ _ _ _ _ => pts_nil) (fun _ _ _ _ _ => pe_tup (pa_cons (pv 7) (pa_cons (pe_int) (pa_nil))))) (pa_cons (pv 4) (pa_cons (pv 2) (pa_cons (pv 3) (pa_nil))))))))
 (pss_cons (ps_ret (pe_tup (pa_cons (pe_op op_fdivW (pe_ix ix_tup (pv 6) (pe_int) (fun _ _ => rfl)) (pe_ix ix_tup (pv 6) (pe_int) (fun _ _ => rfl))) (pa_cons (pe_op op_fdivW (pe_ix ix_tup (pv 6) (pe_int) (fun _ _ => rfl)) (pe_ix ix_tup (pv 6) (pe_int) (fun _ _ => rfl))) (pa_cons (pe_op op_fdivW (pe_ix ix_tup (pv 6) (pe_int) (fun _ _ => rfl)) (pe_ix ix_tup (pv 6) (pe_int) (fun _ _ => rfl))) (pa_nil))))))
 (pss_nil))), fun ds d h => by
    obtain ⟨arm, row, link, point, r, rfl, h, rfl⟩ := h
    unfold m_spot at h
    refine ⟨_, List.replicate 8 .un, sm_run (es := [.d ((d_Arm A) arm), .d (.lst (List.map Dt.int row)), .d (.int link), .d ((dT3 Dt.int Dt.int Dt.int) point), .un, .un, .un, .un]) (oc := fun (r : (Int × Int × Int)) => .rt ((dT3 Dt.int Dt.int Dt.int) r) (List.replicate 8 .un)) h ?_, .inl rfl⟩
    exact sm_one <|
sm_as <|
sm_bind fun t2 h_t2 =>
sm_set (es' := [.d ((d_Arm A) arm), .d (.lst (List.map Dt.int row)), .d (.int link), .d ((dT3 Dt.int Dt.int Dt.int) point), .d (.lst (List.map (dT4 Dt.int Dt.int Dt.int Dt.int) t2)), .un, .un, .un]) (ev_new (el_mapP (vs := [5]) (em := (d_Joint A)) (em2 := (dT4 Dt.int Dt.int Dt.int Dt.int)) (en2 := fun (joint1 : Joint) => [.d ((d_Arm A) arm), .d (.lst (List.map Dt.int row)), .d (.int link), .d ((dT3 Dt.int Dt.int Dt.int) point), .un, .d ((d_Joint A) joint1), .un, .un]) (ei_tup (ev_fld (ev_var (i := 0) rfl) T.cl_Arm T.n_Arm_joints rfl)) (fun joint1 => eg_name (vs := [5]) (by simp)) (fun joint1 => ev_tup (ea_cons (ev_ixNG 0 rfl rfl (ev_fld (ev_var (i := 5) rfl) T.cl_Joint T.n_Joint_offset rfl) (ev_int)) (ea_cons (ev_ixNG 1 rfl rfl (ev_fld (ev_var (i := 5) rfl) T.cl_Joint T.n_Joint_offset rfl) (ev_int)) (ea_cons (ev_ixNG 2 rfl rfl (ev_fld (ev_var (i := 5) rfl) T.cl_Joint T.n_Joint_offset rfl) (ev_int)) (ea_cons (ev_int) (ea_nil))))) (by simp)) rfl h_t2)) rfl <|
sm_as <|
sm_bind fun t4 h_t4 =>
sm_bind fun t5 h_t5 =>
sm_set (es' := [.d ((d_Arm A) arm), .d (.lst (List.map Dt.int row)), .d (.int link), .d ((dT3 Dt.int Dt.int Dt.int) point), .d (.lst (List.map (dT4 Dt.int Dt.int Dt.int Dt.int) t2)), .un, .d ((dT4 Dt.int Dt.int Dt.int Dt.int) t5), .un]) (ev_call (ea_cons (ev_var (i := 0) rfl) (ea_cons (ev_new (el_mapP (vs := [7]) (em := Dt.int) (em2 := (dT2 Dt.int Dt.int)) (en2 := fun (value3 : Int) => [.d ((d_Arm A) arm), .d (.lst (List.map Dt.int row)), .d (.int link), .d ((dT3 Dt.int Dt.int Dt.int) point), .d (.lst (List.map (dT4 Dt.int Dt.int Dt.int Dt.int) t2)), .un, .un, .d (.int value3)]) (ei_list (ev_var (i := 1) rfl)) (fun value3 => eg_name (vs := [7]) (by simp)) (fun value3 => ev_tup (ea_cons (ev_var (i := 7) rfl) (ea_cons (ev_int) (ea_nil))) (by simp)) rfl h_t4)) (ea_cons (ev_var (i := 4) rfl) (ea_cons (ev_var (i := 2) rfl) (ea_cons (ev_var (i := 3) rfl) (ea_nil)))))) ⟨arm, t4, t2, link, point, t5, rfl, h_t5, rfl⟩) rfl <|
sm_as <|
sm_bind fun t6 h_t6 =>
sm_bind fun t7 h_t7 =>
sm_bind fun t8 h_t8 =>
sm_some (sev_rt (ev_tup (ea_cons (ev_div (ev_ixNG 0 rfl rfl (ev_var (i := 6) rfl) (ev_int)) (ev_ixNG 3 rfl rfl (ev_var (i := 6) rfl) (ev_int)) h_t6) (ea_cons (ev_div (ev_ixNG 1 rfl rfl (ev_var (i := 6) rfl) (ev_int)) (ev_ixNG 3 rfl rfl (ev_var (i := 6) rfl) (ev_int)) h_t7) (ea_cons (ev_div (ev_ixNG 2 rfl rfl (ev_var (i := 6) rfl) (ev_int)) (ev_ixNG 3 rfl rfl (ev_var (i := 6) rfl) (ev_int)) h_t8) (ea_nil)))) (by simp)) (wk_uns rfl))⟩
theorem sc_Mover_lines : FnScope ["self", "part", "values", "row", "link", "body"] ["self", "part"] (defScope (inClass (topS 24) 2)) := ⟨rfl, rfl, rfl, by decide +kernel, rfl, by decide +kernel, by decide +kernel⟩
theorem b_Mover_lines (T : Top P K mg A) : Binds K A.d_Mover_lines ["self", "part"] [] := T.F_Mover_lines.binds (ps := ["self", "part"]) fun _ _ _ _ _ _ us hl => match us, hl with | [_, _], _ => rfl
def P_Mover_lines (A : Ads) (ds : List Dt) (d : Dt) : Prop := ∃ (self : Mover) (part : (Int × Int)) (r : (List ((Int × Int × Int) × (Int × Int × Int)))), ds = [(d_Mover A) self, (dT2 Dt.int Dt.int) part] ∧ m_Mover_lines self part = some r ∧ d = .lst (List.map (dT2 (dT3 Dt.int Dt.int Dt.int) (dT3 Dt.int Dt.int Dt.int)) r)
set_option maxHeartbeats 4000000 in
theorem ok_Mover_lines (T : Top P K mg A) : FnOk P w K mg base CX0 4 A.f_Mover_lines A.d_Mover_lines ["self", "part"] (FSpec K (RD (P_Mover_lines A))) :=
  fn_D T.F_Mover_lines sc_Mover_lines (fun ds d h => by obtain ⟨self, part, r, rfl, _, _⟩ := h; rfl) fun cdv A1 outer s H E hr => ⟨_, pss_cons (ps_set (i := 2) sc_Mover_lines.nd rfl (by first | exact Or.inl rfl | exact Or.inr rfl) (pe_meth (pe_fld (pv 0) (by rfl)) T.cl_Move T.m_Move_middle (ok_Move_middle T) (hr.mono (by decide)) (b_Move_middle T) .nil pass0 (pa_cons (pv 1) (pa_nil))))
 (pss_cons (ps_set (i := 3) sc_Mover_lines.nd rfl (by first | exact Or.inl rfl | exact Or.inr rfl) (pe_lst (pa_nil)))
 (pss_cons (ps_for PassesOwn.never rfl (pi_list (pe_meth0 (pv 0) T.cl_Mover T.m_Mover_bodies (ok_Mover_bodies T) (hr.mono (by decide)) (b_Mover_bodies T) .nil pass0)) (pg_tup rfl (pgs_cons (pg_name (i := 4) sc_Mover_lines.nd rfl (by first | exact Or.inl rfl | exact Or.inr rfl)) (pgs_cons (pg_name (i := 5) sc_Mover_lines.nd rfl (by first | exact Or.inl rfl | exact Or.inr rfl)) (pgs_nil)))) (pss_cons (ps_expr (pe_bm PySem.F.plainAttrs_list PySem.F.slot_list_append PySem.F.type_list_append mt_append (pv 3) (pa_cons (pe_tup (pa_cons (pe_call (ok_spot T) (hr.mono (by decide)) (by rfl) T.g_spot T.F_spot.kp (b_spot T) .nil pass0 (pa_cons (pe_fld (pv 0) (by rfl)) (pa_cons (pv 2) (pa_cons (pv 4) (pa_cons (pe_fld (pv 5) (by rfl)) (pa_nil)))))) (pa_cons (pe_call (ok_spot T) (hr.mono (by decide)) (by rfl) T.g_spot T.F_spot.kp (b_spot T) .nil pass0 (pa_cons (pe_fld (pv 0) (by rfl)) (pa_cons (pv 2) (pa_cons (pv 4) (pa_cons (pe_fld (pv 5) (by rfl)) (pa_nil)))))) (pa_nil)))) pa_nil)))
 (pss_nil)))
 (pss_cons (ps_ret (pv 3))
 (pss_nil)))), fun ds d h => by
    obtain ⟨self, part, r, rfl, h, rfl⟩ := h
    unfold m_Mover_lines at h
    refine ⟨_, List.replicate 6 .un, sm_run (es := [.d ((d_Mover A) self), .d ((dT2 Dt.int Dt.int) part), .un, .un, .un, .un]) (oc := fun (r : (List ((Int × Int × Int) × (Int × Int × Int)))) => .rt (.lst (List.map (dT2 (dT3 Dt.int Dt.int Dt.int) (dT3 Dt.int Dt.int Dt.int)) r)) (List.replicate 6 .un)) h ?_, .inl rfl⟩
    exact sm_one <|
sm_as <|
sm_bind fun t1 h_t1 =>
sm_set (es' := [.d ((d_Mover A) self), .d ((dT2 Dt.int Dt.int) part), .d (.lst (List.map Dt.int t1)), .un, .un, .un]) (ev_meth (ev_fld (ev_var (i := 0) rfl) T.cl_Mover T.n_Mover_move rfl) rfl (ea_cons (ev_var (i := 1) rfl) (ea_nil)) ⟨self.move, part, t1, rfl, h_t1, rfl⟩) rfl <|
sm_as <|
sm_lt fun row2 h_row2 =>
sm_own (es' := [.d ((d_Mover A) self), .d ((dT2 Dt.int Dt.int) part), .d (.lst (List.map Dt.int t1)), .own none (List.map (dT2 (dT3 Dt.int Dt.int Dt.int) (dT3 Dt.int Dt.int Dt.int)) row2), .un, .un]) (el_is (el_lst (ds := List.map (dT2 (dT3 Dt.int Dt.int Dt.int) (dT3 Dt.int Dt.int Dt.int)) []) (ea_nil) (by simp)) (congrArg (List.map (dT2 (dT3 Dt.int Dt.int Dt.int) (dT3 Dt.int Dt.int Dt.int))) h_row2)) rfl <|
sm_as <|
sm_bind fun t3 h_t3 =>
sm_seq (env := fun (s : (List ((Int × Int × Int) × (Int × Int × Int)))) => [.d ((d_Mover A) self), .d ((dT2 Dt.int Dt.int) part), .d (.lst (List.map Dt.int t1)), .own none (List.map (dT2 (dT3 Dt.int Dt.int Dt.int) (dT3 Dt.int Dt.int Dt.int)) s), .un, .un]) (sm_forL (xs := t3) (em := (dT2 Dt.int (d_Body A))) (env := fun (s : (List ((Int × Int × Int) × (Int × Int × Int)))) => [.d ((d_Mover A) self), .d ((dT2 Dt.int Dt.int) part), .d (.lst (List.map Dt.int t1)), .own none (List.map (dT2 (dT3 Dt.int Dt.int Dt.int) (dT3 Dt.int Dt.int Dt.int)) s), .un, .un]) (en2 := fun (x5 : (Int × Body)) (s4 : (List ((Int × Int × Int) × (Int × Int × Int)))) => [.d ((d_Mover A) self), .d ((dT2 Dt.int Dt.int) part), .d (.lst (List.map Dt.int t1)), .own none (List.map (dT2 (dT3 Dt.int Dt.int Dt.int) (dT3 Dt.int Dt.int Dt.int)) s4), .d (.int x5.1), .d ((d_Body A) x5.2)]) (ei_list (ev_meth (ev_var (i := 0) rfl) rfl (ea_nil) ⟨self, t3, rfl, h_t3, rfl⟩)) (wk_e <| wk_e <| wk_e <| wk_e <| wk_u <| wk_u <| wk_n) (fun x5 s4 => eg_tup (egs_cons (eg_name (vs := [4, 5]) (by simp)) (egs_cons (eg_name (vs := [4, 5]) (by simp)) (egs_nil))) rfl) fun x5 s4 h_x5 => sm_one <|
sm_as <|
sm_bind fun t6 h_t6 =>
sm_bind fun t7 h_t7 =>
sm_bind fun row8 h_row8 =>
sm_app (i := 3) (x := (t6, t7)) (es' := [.d ((d_Mover A) self), .d ((dT2 Dt.int Dt.int) part), .d (.lst (List.map Dt.int t1)), .own none (List.map (dT2 (dT3 Dt.int Dt.int Dt.int) (dT3 Dt.int Dt.int Dt.int)) row8), .d (.int x5.1), .d ((d_Body A) x5.2)]) (em := (dT2 (dT3 Dt.int Dt.int Dt.int) (dT3 Dt.int Dt.int Dt.int))) rfl (ev_tup (ea_cons (ev_call (ea_cons (ev_fld (ev_var (i := 0) rfl) T.cl_Mover T.n_Mover_arm rfl) (ea_cons (ev_var (i := 2) rfl) (ea_cons (ev_var (i := 4) rfl) (ea_cons (ev_fld (ev_var (i := 5) rfl) T.cl_Body T.n_Body_first rfl) (ea_nil))))) ⟨self.arm, t1, x5.1, x5.2.first, t6, rfl, h_t6, rfl⟩) (ea_cons (ev_call (ea_cons (ev_fld (ev_var (i := 0) rfl) T.cl_Mover T.n_Mover_arm rfl) (ea_cons (ev_var (i := 2) rfl) (ea_cons (ev_var (i := 4) rfl) (ea_cons (ev_fld (ev_var (i := 5) rfl) T.cl_Body T.n_Body_last rfl) (ea_nil))))) ⟨self.arm, t1, x5.1, x5.2.last, t7, rfl, h_t7, rfl⟩) (ea_nil))) (by simp)) h_row8 rfl <|
sm_nil <|
sm_some (sev_go (wk_e <| wk_e <| wk_e <| wk_e <| wk_u <| wk_u <| wk_n))) fun s9 h_s9 =>
sm_as <|
sm_frz (i := 3) (es' := [.d ((d_Mover A) self), .d ((dT2 Dt.int Dt.int) part), .d (.lst (List.map Dt.int t1)), .d (.lst (List.map (dT2 (dT3 Dt.int Dt.int Dt.int) (dT3 Dt.int Dt.int Dt.int)) s9)), .un, .un]) rfl rfl <|
sm_some (sev_rt (ev_var (i := 3) rfl) (wk_uns rfl))⟩
theorem sc_divide_up : FnScope ["number", "divisor"] ["number", "divisor"] (defScope (topS 9)) := ⟨rfl, rfl, rfl, by decide +kernel, rfl, by decide +kernel, by decide +kernel⟩
theorem b_divide_up (T : Top P K mg A) : Binds K A.d_divide_up ["number", "divisor"] [] := T.F_divide_up.binds (ps := ["number", "divisor"]) fun _ _ _ _ _ _ us hl => match us, hl with | [_, _], _ => rfl
def P_divide_up (A : Ads) (ds : List Dt) (d : Dt) : Prop := ∃ (number : Int) (divisor : Int) (r : Int), ds = [.int number, .int divisor] ∧ m_divide_up number divisor = some r ∧ d = .int r
set_option maxHeartbeats 4000000 in
theorem ok_divide_up (T : Top P K mg A) : FnOk P w K mg base CX0 1 A.f_divide_up A.d_divide_up ["number", "divisor"] (FSpec K (RD (P_divide_up A))) :=
  fn_D T.F_divide_up sc_divide_up (fun ds d h => by obtain ⟨number, divisor, r, rfl, _, _⟩ := h; rfl) fun cdv A1 outer s H E hr => ⟨_, pss_cons (ps_ret (pe_un un_neg (pe_op op_fdivW (pe_un un_neg (pv 0)) (pv 1))))
 (pss_nil), fun ds d h => by
    obtain ⟨number, divisor, r, rfl, h, rfl⟩ := h
    unfold m_divide_up at h
    refine ⟨_, List.replicate 2 .un, sm_run (es := [.d (.int number), .d (.int divisor)]) (oc := fun (r : Int) => .rt (.int r) (List.replicate 2 .un)) h ?_, .inl rfl⟩
    exact sm_one <|
sm_as <|
sm_bind fun t1 h_t1 =>
sm_some (sev_rt (ev_neg (ev_div (ev_neg (ev_var (i := 0) rfl)) (ev_var (i := 1) rfl) h_t1)) (wk_uns rfl))⟩
theorem sc_Move_halves : FnScope ["self", "depth", "row", "k", "far"] ["self", "depth"] (defScope (inClass (topS 13) 2)) := ⟨rfl, rfl, rfl, by decide +kernel, rfl, by decide +kernel, by decide +kernel⟩
theorem b_Move_halves (T : Top P K mg A) : Binds K A.d_Move_halves ["self", "depth"] [] := T.F_Move_halves.binds (ps := ["self", "depth"]) fun _ _ _ _ _ _ us hl => match us, hl with | [_, _], _ => rfl
def P_Move_halves (A : Ads) (ds : List Dt) (d : Dt) : Prop := ∃ (self : Move) (depth : Int) (r : (List Int)), ds = [(d_Move A) self, .int depth] ∧ m_Move_halves self depth = some r ∧ d = .lst (List.map Dt.int r)
set_option maxHeartbeats 4000000 in
theorem ok_Move_halves (T : Top P K mg A) : FnOk P w K mg base CX0 2 A.f_Move_halves A.d_Move_halves ["self", "depth"] (FSpec K (RD (P_Move_halves A))) :=
  fn_D T.F_Move_halves sc_Move_halves (fun ds d h => by obtain ⟨self, depth, r, rfl, _, _⟩ := h; rfl) fun cdv A1 outer s H E hr => ⟨_, pss_cons (ps_set (i := 2) sc_Move_halves.nd rfl (by first | exact Or.inl rfl | exact Or.inr rfl) (pe_lst (pa_nil)))
 (pss_cons (ps_for PassesOwn.never rfl (pi_range1 (by rfl) T.z_range (pa_cons (pe_callB cr_lenS (by rfl) T.z_len bt_len (pa_cons (pe_fld (pv 0) (by rfl)) (pa_nil))) (pa_nil))) (pg_name (i := 3) sc_Move_halves.nd rfl (by first | exact Or.inl rfl | exact Or.inr rfl)) (pss_cons (ps_set (i := 4) sc_Move_halves.nd rfl (by first | exact Or.inl rfl | exact Or.inr rfl) (pe_callB cr_abs (by rfl) T.z_abs bt_abs (pa_cons (pe_op op_sub (pe_ix ix_tup (pe_fld (pv 0) (by rfl)) (pv 3) (fun _ _ => rfl)) (pe_ix ix_tup (pe_fld (pv 0) (by rfl)) (pv 3) (fun _ _ => rfl))) (pa_nil))))
 (pss_cons (ps_expr (pe_bm PySem.F.plainAttrs_list PySem.F.slot_list_append PySem.F.type_list_append mt_append (pv 2) (pa_cons (pe_ifExp (pt_cmpR op_gt (pv 4) (pe_int) (nomark _)) (pe_op op_add (pe_call (ok_divide_up T) (hr.mono (by decide)) (by rfl) T.g_divide_up T.F_divide_up.kp (b_divide_up T) .nil pass0 (pa_cons (pv 4) (pa_cons (pe_op op_shlG (pe_int) (pe_op op_add (pv 1) (pe_int))) (pa_nil)))) (pe_int)) (pe_int)) pa_nil)))
 (pss_nil))))
 (pss_cons (ps_ret (pv 2))
 (pss_nil))), fun ds d h => by
    obtain ⟨self, depth, r, rfl, h, rfl⟩ := h
    unfold m_Move_halves at h
    refine ⟨_, List.replicate 5 .un, sm_run (es := [.d ((d_Move A) self), .d (.int depth), .un, .un, .un]) (oc := fun (r : (List Int)) => .rt (.lst (List.map Dt.int r)) (List.replicate 5 .un)) h ?_, .inl rfl⟩
    exact sm_one <|
sm_as <|
sm_lt fun row1 h_row1 =>
sm_own (es' := [.d ((d_Move A) self), .d (.int depth), .own none (List.map Dt.int row1), .un, .un]) (el_is (el_lst (ds := List.map Dt.int []) (ea_nil) (by simp)) (congrArg (List.map Dt.int) h_row1)) rfl <|
sm_as <|
sm_bind fun r2 h_r2 =>
sm_seq (env := fun (s : (List Int)) => [.d ((d_Move A) self), .d (.int depth), .own none (List.map Dt.int s), .un, .un]) (sm_forL (xs := r2) (em := Dt.int) (env := fun (s : (List Int)) => [.d ((d_Move A) self), .d (.int depth), .own none (List.map Dt.int s), .un, .un]) (en2 := fun (k4 : Int) (s3 : (List Int)) => [.d ((d_Move A) self), .d (.int depth), .own none (List.map Dt.int s3), .d (.int k4), .un]) (ei_rng1 (ea_cons (ev_lenVm (ev_fld (ev_var (i := 0) rfl) T.cl_Move T.n_Move_first rfl)) (ea_nil)) h_r2) (wk_e <| wk_e <| wk_e <| wk_u <| wk_u <| wk_n) (fun k4 s3 => eg_name (vs := [3]) (by simp)) fun k4 s3 h_k4 => sm_one <|
sm_as <|
sm_bind fun t5 h_t5 =>
sm_bind fun t6 h_t6 =>
sm_lt fun far7 h_far7 =>
sm_set (es' := [.d ((d_Move A) self), .d (.int depth), .own none (List.map Dt.int s3), .d (.int k4), .d (.int far7)]) (ev_is (ev_abs (ev_sub (ev_ixTC (em := Dt.int) (ev_fld (ev_var (i := 0) rfl) T.cl_Move T.n_Move_last rfl) (ev_var (i := 3) rfl) h_t5) (ev_ixTC (em := Dt.int) (ev_fld (ev_var (i := 0) rfl) T.cl_Move T.n_Move_first rfl) (ev_var (i := 3) rfl) h_t6))) (congrArg Dt.int h_far7)) rfl <|
sm_as <|
sm_bind fun t10 h_t10 =>
sm_bind fun row11 h_row11 =>
sm_app (i := 2) (x := t10) (es' := [.d ((d_Move A) self), .d (.int depth), .own none (List.map Dt.int row11), .d (.int k4), .d (.int far7)]) (em := Dt.int) rfl (ev_ifC (em := Dt.int) (et_test (ev_gt (ev_var (i := 4) rfl) (ev_int))) (fun _ => ev_bnd fun t8 h_t8 => ev_bnd fun t9 h_t9 => ev_pure (ev_add (ev_call (ea_cons (ev_var (i := 4) rfl) (ea_cons (ev_shl (ev_int) (ev_add (ev_var (i := 1) rfl) (ev_int)) h_t8) (ea_nil))) ⟨far7, t8, t9, rfl, h_t9, rfl⟩) (ev_int))) (fun _ => ev_pure (ev_int)) h_t10) h_row11 rfl <|
sm_nil <|
sm_some (sev_go (wk_e <| wk_e <| wk_e <| wk_u <| wk_u <| wk_n))) fun s12 h_s12 =>
sm_as <|
sm_frz (i := 2) (es' := [.d ((d_Move A) self), .d (.int depth), .d (.lst (List.map Dt.int s12)), .un, .un]) rfl rfl <|
sm_some (sev_rt (ev_var (i := 2) rfl) (wk_uns rfl))⟩
theorem sc_unknown : FnScope ["arm", "halves", "link", "body", "apart", "lever", "k", "joint", "loose"] ["arm", "halves", "link", "body"] (defScope (topS 22)) := ⟨rfl, rfl, rfl, by decide +kernel, rfl, by decide +kernel, by decide +kernel⟩
theorem b_unknown (T : Top P K mg A) : Binds K A.d_unknown ["arm", "halves", "link", "body"] [] := T.F_unknown.binds (ps := ["arm", "halves", "link", "body"]) fun _ _ _ _ _ _ us hl => match us, hl with | [_, _, _, _], _ => rfl
def P_unknown (A : Ads) (ds : List Dt) (d : Dt) : Prop := ∃ (arm : Arm) (halves : (List Int)) (link : Int) (body : Body) (r : Int), ds = [(d_Arm A) arm, .lst (List.map Dt.int halves), .int link, (d_Body A) body] ∧ m_unknown arm halves link body = some r ∧ d = .int r
set_option maxHeartbeats 4000000 in
theorem ok_unknown (T : Top P K mg A) : FnOk P w K mg base CX0 3 A.f_unknown A.d_unknown ["arm", "halves", "link", "body"] (FSpec K (RD (P_unknown A))) :=
  fn_D T.F_unknown sc_unknown (fun ds d h => by obtain ⟨arm, halves, link, body, r, rfl, _, _⟩ := h; rfl) fun cdv A1 outer s H E hr => ⟨_, pss_cons (ps_set (i := 4) sc_unknown.nd rfl (by first | exact Or.inl rfl | exact Or.inr rfl) (pe_int))
 (pss_cons (ps_set (i := 5) sc_unknown.nd rfl (by first | exact Or.inl rfl | exact Or.inr rfl) (pe_callB (cr_max2 rfl) (by rfl) T.z_max bt_max (pa_cons (pe_call (ok_length_up T) (hr.mono (by decide)) (by rfl) T.g_length_up T.F_length_up.kp (b_length_up T) .nil pass0 (pa_cons (pe_fld (pv 3) (by rfl)) (pa_nil))) (pa_cons (pe_call (ok_length_up T) (hr.mono (by decide)) (by rfl) T.g_length_up T.F_length_up.kp (b_length_up T) .nil pass0 (pa_cons (pe_fld (pv 3) (by rfl)) (pa_nil))) (pa_nil)))))
 (pss_cons (ps_for PassesOwn.never rfl (pi_range3 (by rfl) T.z_range (pa_cons (pe_op op_sub (pv 2) (pe_int)) (pa_cons (pe_un un_neg pe_int) (pa_cons (pe_un un_neg pe_int) (pa_nil))))) (pg_name (i := 6) sc_unknown.nd rfl (by first | exact Or.inl rfl | exact Or.inr rfl)) (pss_cons (ps_set (i := 7) sc_unknown.nd rfl (by first | exact Or.inl rfl | exact Or.inr rfl) (pe_ix ix_tup (pe_fld (pv 0) (by rfl)) (pv 6) (fun _ _ => rfl)))
 (pss_cons (ps_set (i := 8) sc_unknown.nd rfl (by first | exact Or.inl rfl | exact Or.inr rfl) (pe_op op_add (pe_ix ix_list (pv 1) (pv 6) (fun _ _ => rfl)) (pe_fld (pv 7) (by rfl))))
 (pss_cons (ps_if (pt_val (pe_fld (pv 7) (by rfl))) (pss_cons (ps_set (i := 4) sc_unknown.nd rfl (by first | exact Or.inl rfl | exact Or.inr rfl) (pe_op op_add (pv 4) (pe_call (ok_divide_up T) (hr.mono (by decide)) (by rfl) T.g_divide_up T.F_divide_up.kp (b_divide_up T) .nil pass0 (pa_cons (pe_op op_mulG (pe_op op_mulG (pe_int) (pv 5)) (pv 8)) (pa_cons (pe_glob (v := .int 1000000) (by rfl) T.g_UNIT.choose_spec ⟨_, rfl⟩) (pa_nil))))))
 (pss_nil)) (pss_cons (ps_set (i := 4) sc_unknown.nd rfl (by first | exact Or.inl rfl | exact Or.inr rfl) (pe_op op_add (pv 4) (pv 8)))
 (pss_cons (ps_set (i := 5) sc_unknown.nd rfl (by first | exact Or.inl rfl | exact Or.inr rfl) (pe_op op_add (pe_op op_add (pv 5) (pe_callB (cr_max2 rfl) (by rfl) T.z_max bt_max (pa_cons (pe_callB cr_abs (by rfl) T.z_abs bt_abs (pa_cons (pe_fld (pv 7) (by rfl)) (pa_nil))) (pa_cons (pe_callB cr_abs (by rfl) T.z_abs bt_abs (pa_cons (pe_fld (pv 7) (by rfl)) (pa_nil))) (pa_nil))))) (pe_fld (pv 7) (by rfl))))
 (pss_nil))))
 (pss_cons (ps_set (i := 4) sc_unknown.nd rfl (by first | exact Or.inl rfl | exact Or.inr rfl) (pe_op op_add (pv 4) (pe_op op_mulG (pe_int) (pe_fld (pv 7) (by rfl)))))
 (pss_cons (ps_set (i := 5) sc_unknown.nd rfl (by first | exact Or.inl rfl | exact Or.inr rfl) (pe_op op_add (pe_op op_add (pv 5) (pe_call (ok_length_up T) (hr.mono (by decide)) (by rfl) T.g_length_up T.F_length_up.kp (b_length_up T) .nil pass0 (pa_cons (pe_fld (pv 7) (by rfl)) (pa_nil)))) (pe_op op_mulG (pe_int) (pe_fld (pv 7) (by rfl)))))
 (pss_nil)))))))
 (pss_cons (ps_ret (pv 4))
 (pss_nil)))), fun ds d h => by
    obtain ⟨arm, halves, link, body, r, rfl, h, rfl⟩ := h
    unfold m_unknown at h
    refine ⟨_, List.replicate 9 .un, sm_run (es := [.d ((d_Arm A) arm), .d (.lst (List.map Dt.int halves)), .d (.int link), .d ((d_Body A) body), .un, .un, .un, .un, .un]) (oc := fun (r : Int) => .rt (.int r) (List.replicate 9 .un)) h ?_, .inl rfl⟩
    exact sm_one <|
sm_as <|
sm_lt fun apart1 h_apart1 =>
sm_set (es' := [.d ((d_Arm A) arm), .d (.lst (List.map Dt.int halves)), .d (.int link), .d ((d_Body A) body), .d (.int apart1), .un, .un, .un, .un]) (ev_is (ev_int) (congrArg Dt.int h_apart1)) rfl <|
sm_as <|
sm_bind fun t2 h_t2 =>
sm_bind fun t3 h_t3 =>
sm_lt fun lever4 h_lever4 =>
sm_set (es' := [.d ((d_Arm A) arm), .d (.lst (List.map Dt.int halves)), .d (.int link), .d ((d_Body A) body), .d (.int apart1), .d (.int lever4), .un, .un, .un]) (ev_is (ev_max2 (ev_call (ea_cons (ev_fld (ev_var (i := 3) rfl) T.cl_Body T.n_Body_first rfl) (ea_nil)) ⟨body.first, t2, rfl, h_t2, rfl⟩) (ev_call (ea_cons (ev_fld (ev_var (i := 3) rfl) T.cl_Body T.n_Body_last rfl) (ea_nil)) ⟨body.last, t3, rfl, h_t3, rfl⟩)) (congrArg Dt.int h_lever4)) rfl <|
sm_as <|
sm_bind fun r5 h_r5 =>
sm_seq (env := fun (s : Int × Int) => [.d ((d_Arm A) arm), .d (.lst (List.map Dt.int halves)), .d (.int link), .d ((d_Body A) body), .d (.int s.1), .d (.int s.2), .un, .un, .un]) (sm_forL (xs := r5) (em := Dt.int) (env := fun (s : Int × Int) => [.d ((d_Arm A) arm), .d (.lst (List.map Dt.int halves)), .d (.int link), .d ((d_Body A) body), .d (.int s.1), .d (.int s.2), .un, .un, .un]) (en2 := fun (k7 : Int) (s6 : Int × Int) => [.d ((d_Arm A) arm), .d (.lst (List.map Dt.int halves)), .d (.int link), .d ((d_Body A) body), .d (.int s6.1), .d (.int s6.2), .d (.int k7), .un, .un]) (ei_rngD (ea_cons (ev_sub (ev_var (i := 2) rfl) (ev_int)) (ea_cons (ev_neg ev_int) (ea_cons (ev_neg ev_int) (ea_nil)))) h_r5) (wk_e <| wk_e <| wk_e <| wk_e <| wk_e <| wk_e <| wk_u <| wk_u <| wk_u <| wk_n) (fun k7 s6 => eg_name (vs := [6]) (by simp)) fun k7 s6 h_k7 => sm_one <|
sm_as <|
sm_bind fun t8 h_t8 =>
sm_set (es' := [.d ((d_Arm A) arm), .d (.lst (List.map Dt.int halves)), .d (.int link), .d ((d_Body A) body), .d (.int s6.1), .d (.int s6.2), .d (.int k7), .d ((d_Joint A) t8), .un]) (ev_ixTC (em := (d_Joint A)) (ev_fld (ev_var (i := 0) rfl) T.cl_Arm T.n_Arm_joints rfl) (ev_var (i := 6) rfl) h_t8) rfl <|
sm_as <|
sm_bind fun t9 h_t9 =>
sm_lt fun loose10 h_loose10 =>
sm_set (es' := [.d ((d_Arm A) arm), .d (.lst (List.map Dt.int halves)), .d (.int link), .d ((d_Body A) body), .d (.int s6.1), .d (.int s6.2), .d (.int k7), .d ((d_Joint A) t8), .d (.int loose10)]) (ev_is (ev_add (ev_ixLC (em := Dt.int) (ev_var (i := 1) rfl) (ev_var (i := 6) rfl) h_t9) (ev_fld (ev_var (i := 7) rfl) T.cl_Joint T.n_Joint_error rfl)) (congrArg Dt.int h_loose10)) rfl <|
sm_as <|
sm_seq (env := fun (s : Int × Int) => [.d ((d_Arm A) arm), .d (.lst (List.map Dt.int halves)), .d (.int link), .d ((d_Body A) body), .d (.int s.1), .d (.int s.2), .d (.int k7), .d ((d_Joint A) t8), .d (.int loose10)]) (sm_one <| sm_if (et_B (ev_fld (ev_var (i := 7) rfl) T.cl_Joint T.n_Joint_turns rfl)) (fun hb =>
sm_as <|
sm_bind fun t11 h_t11 =>
sm_bind fun t12 h_t12 =>
sm_bind fun t13 h_t13 =>
sm_lt fun apart14 h_apart14 =>
sm_set (es' := [.d ((d_Arm A) arm), .d (.lst (List.map Dt.int halves)), .d (.int link), .d ((d_Body A) body), .d (.int apart14), .d (.int s6.2), .d (.int k7), .d ((d_Joint A) t8), .d (.int loose10)]) (ev_is (ev_add (ev_var (i := 4) rfl) (ev_call (ea_cons (ev_mul (ev_mul (ev_int) (ev_var (i := 5) rfl) h_t11) (ev_var (i := 8) rfl) h_t12) (ea_cons (ev_int) (ea_nil))) ⟨t12, 1000000, t13, rfl, h_t13, rfl⟩)) (congrArg Dt.int h_apart14)) rfl <|
sm_nil <|
sm_some (sev_nx (wk_e <| wk_e <| wk_e <| wk_e <| wk_e <| wk_e <| wk_e <| wk_e <| wk_e <| wk_n))) (fun hb =>
sm_as <|
sm_lt fun apart15 h_apart15 =>
sm_set (es' := [.d ((d_Arm A) arm), .d (.lst (List.map Dt.int halves)), .d (.int link), .d ((d_Body A) body), .d (.int apart15), .d (.int s6.2), .d (.int k7), .d ((d_Joint A) t8), .d (.int loose10)]) (ev_is (ev_add (ev_var (i := 4) rfl) (ev_var (i := 8) rfl)) (congrArg Dt.int h_apart15)) rfl <|
sm_as <|
sm_lt fun lever16 h_lever16 =>
sm_set (es' := [.d ((d_Arm A) arm), .d (.lst (List.map Dt.int halves)), .d (.int link), .d ((d_Body A) body), .d (.int apart15), .d (.int lever16), .d (.int k7), .d ((d_Joint A) t8), .d (.int loose10)]) (ev_is (ev_add (ev_add (ev_var (i := 5) rfl) (ev_max2 (ev_abs (ev_fld (ev_var (i := 7) rfl) T.cl_Joint T.n_Joint_least rfl)) (ev_abs (ev_fld (ev_var (i := 7) rfl) T.cl_Joint T.n_Joint_most rfl)))) (ev_fld (ev_var (i := 7) rfl) T.cl_Joint T.n_Joint_error rfl)) (congrArg Dt.int h_lever16)) rfl <|
sm_nil <|
sm_some (sev_nx (wk_e <| wk_e <| wk_e <| wk_e <| wk_e <| wk_e <| wk_e <| wk_e <| wk_e <| wk_n)))) fun s17 h_s17 =>
sm_as <|
sm_bind fun t18 h_t18 =>
sm_lt fun apart19 h_apart19 =>
sm_set (es' := [.d ((d_Arm A) arm), .d (.lst (List.map Dt.int halves)), .d (.int link), .d ((d_Body A) body), .d (.int apart19), .d (.int s17.2), .d (.int k7), .d ((d_Joint A) t8), .d (.int loose10)]) (ev_is (ev_add (ev_var (i := 4) rfl) (ev_mul (ev_int) (ev_fld (ev_var (i := 7) rfl) T.cl_Joint T.n_Joint_box rfl) h_t18)) (congrArg Dt.int h_apart19)) rfl <|
sm_as <|
sm_bind fun t20 h_t20 =>
sm_bind fun t21 h_t21 =>
sm_lt fun lever22 h_lever22 =>
sm_set (es' := [.d ((d_Arm A) arm), .d (.lst (List.map Dt.int halves)), .d (.int link), .d ((d_Body A) body), .d (.int apart19), .d (.int lever22), .d (.int k7), .d ((d_Joint A) t8), .d (.int loose10)]) (ev_is (ev_add (ev_add (ev_var (i := 5) rfl) (ev_call (ea_cons (ev_fld (ev_var (i := 7) rfl) T.cl_Joint T.n_Joint_offset rfl) (ea_nil)) ⟨t8.offset, t20, rfl, h_t20, rfl⟩)) (ev_mul (ev_int) (ev_fld (ev_var (i := 7) rfl) T.cl_Joint T.n_Joint_box rfl) h_t21)) (congrArg Dt.int h_lever22)) rfl <|
sm_nil <|
sm_some (sev_go (wk_e <| wk_e <| wk_e <| wk_e <| wk_e <| wk_e <| wk_u <| wk_u <| wk_u <| wk_n))) fun s23 h_s23 =>
sm_as <|
sm_some (sev_rt (ev_var (i := 4) rfl) (wk_uns rfl))⟩
theorem sc_Mover_unknowns : FnScope ["self", "halves", "link", "body"] ["self", "halves"] (defScope (inClass (topS 24) 3)) := ⟨rfl, rfl, rfl, by decide +kernel, rfl, by decide +kernel, by decide +kernel⟩
theorem b_Mover_unknowns (T : Top P K mg A) : Binds K A.d_Mover_unknowns ["self", "halves"] [] := T.F_Mover_unknowns.binds (ps := ["self", "halves"]) fun _ _ _ _ _ _ us hl => match us, hl with | [_, _], _ => rfl
def P_Mover_unknowns (A : Ads) (ds : List Dt) (d : Dt) : Prop := ∃ (self : Mover) (halves : (List Int)) (r : (List Int)), ds = [(d_Mover A) self, .lst (List.map Dt.int halves)] ∧ m_Mover_unknowns self halves = some r ∧ d = .lst (List.map Dt.int r)
set_option maxHeartbeats 4000000 in
theorem ok_Mover_unknowns (T : Top P K mg A) : FnOk P w K mg base CX0 4 A.f_Mover_unknowns A.d_Mover_unknowns ["self", "halves"] (FSpec K (RD (P_Mover_unknowns A))) :=
  fn_D T.F_Mover_unknowns sc_Mover_unknowns (fun ds d h => by obtain ⟨self, halves, r, rfl, _, _⟩ := h; rfl) fun cdv A1 outer s H E hr => ⟨_, pss_cons (ps_ret (pe_lc (own := [("link", 2), ("body", 3)]) (g := gTup _ 2 (gCons (gName 2) (gCons (gName 3) (gNil)))) (tt := tYes) rfl sc_Mover_unknowns.nd (pi_list (pe_meth0 (pv 0) T.cl_Mover T.m_Mover_bodies (ok_Mover_bodies T) (hr.mono (by decide)) (b_Mover_bodies T) .nil pass0)) (blkOk_by (N := ["self", "halves", "link", "body"]) (sc := defScope (inClass (topS 24) 3)) (by decide +kernel)) (fun _ _ _ _ _ => pg_tup rfl (pgs_cons (pg_name (i := 2) sc_Mover_unknowns.nd rfl (by first | exact Or.inl rfl | exact Or.inr rfl)) (pgs_cons (pg_name (i := 3) sc_Mover_unknowns.nd rfl (by first | exact Or.inl rfl | exact Or.inr rfl)) (pgs_nil)))) (fun _ _ _ _ _ => pts_nil) (fun _ _ _ _ _ => pe_call (ok_unknown T) (hr.mono (by decide)) (by rfl) T.g_unknown T.F_unknown.kp (b_unknown T) .nil pass0 (pa_cons (pe_fldK (K := K) ("arm" : Str) (pv 0) (by rfl) (by rfl)) (pa_cons (pv 1) (pa_cons (pv 2) (pa_cons (pv 3) (pa_nil))))))))
 (pss_nil), fun ds d h => by
    obtain ⟨self, halves, r, rfl, h, rfl⟩ := h
    unfold m_Mover_unknowns at h
    refine ⟨_, List.replicate 4 .un, sm_run (es := [.d ((d_Mover A) self), .d (.lst (List.map Dt.int halves)), .un, .un]) (oc := fun (r : (List Int)) => .rt (.lst (List.map Dt.int r)) (List.replicate 4 .un)) h ?_, .inl rfl⟩
    exact sm_one <|
sm_as <|
sm_bind fun t1 h_t1 =>
sm_bind fun t4 h_t4 =>
sm_some (sev_rt (ev_new (el_map (vs := [2, 3]) (em := (dT2 Dt.int (d_Body A))) (em2 := Dt.int) (en2 := fun (x2 : (Int × Body)) => [.d ((d_Mover A) self), .d (.lst (List.map Dt.int halves)), .d (.int x2.1), .d ((d_Body A) x2.2)]) (ei_list (ev_meth (ev_var (i := 0) rfl) rfl (ea_nil) ⟨self, t1, rfl, h_t1, rfl⟩)) (fun x2 => eg_tup (egs_cons (eg_name (vs := [2, 3]) (by simp)) (egs_cons (eg_name (vs := [2, 3]) (by simp)) (egs_nil))) rfl) (fun x2 => ev_bnd fun t3 h_t3 => ev_pure (ev_call (ea_cons (ev_fld (ev_var (i := 0) rfl) T.cl_Mover T.n_Mover_arm rfl) (ea_cons (ev_var (i := 1) rfl) (ea_cons (ev_var (i := 2) rfl) (ea_cons (ev_var (i := 3) rfl) (ea_nil))))) ⟨self.arm, halves, x2.1, x2.2, t3, rfl, h_t3, rfl⟩)) rfl h_t4)) (wk_uns rfl))⟩
theorem sc_reach_over : FnScope ["mover", "direction", "part", "size", "lines", "loose", "bodies", "reaches", "k", "far"] ["mover", "direction", "part"] (defScope (topS 43)) := ⟨rfl, rfl, rfl, by decide +kernel, rfl, by decide +kernel, by decide +kernel⟩
theorem b_reach_over (T : Top P K mg A) : Binds K A.d_reach_over ["mover", "direction", "part"] [] := T.F_reach_over.binds (ps := ["mover", "direction", "part"]) fun _ _ _ _ _ _ us hl => match us, hl with | [_, _, _], _ => rfl
def P_reach_over (A : Ads) (ds : List Dt) (d : Dt) : Prop := ∃ (mover : Mover) (direction : (Int × Int × Int)) (part : (Int × Int)) (r : (Option Int)), ds = [(d_Mover A) mover, (dT3 Dt.int Dt.int Dt.int) direction, (dT2 Dt.int Dt.int) part] ∧ m_reach_over mover direction part = some r ∧ d = (dO Dt.int) r
set_option maxHeartbeats 4000000 in
theorem ok_reach_over (T : Top P K mg A) : FnOk P w K mg base CX0 5 A.f_reach_over A.d_reach_over ["mover", "direction", "part"] (FSpec K (RD (P_reach_over A))) :=
  fn_D T.F_reach_over sc_reach_over (fun ds d h => by obtain ⟨mover, direction, part, r, rfl, _, _⟩ := h; rfl) fun cdv A1 outer s H E hr => ⟨_, pss_cons (ps_set (i := 3) sc_reach_over.nd rfl (by first | exact Or.inl rfl | exact Or.inr rfl) (pe_call (ok_length_up T) (hr.mono (by decide)) (by rfl) T.g_length_up T.F_length_up.kp (b_length_up T) .nil pass0 (pa_cons (pv 1) (pa_nil))))
 (pss_cons (ps_set (i := 4) sc_reach_over.nd rfl (by first | exact Or.inl rfl | exact Or.inr rfl) (pe_meth (pv 0) T.cl_Mover T.m_Mover_lines (ok_Mover_lines T) (hr.mono (by decide)) (b_Mover_lines T) .nil pass0 (pa_cons (pv 2) (pa_nil))))
 (pss_cons (ps_set (i := 5) sc_reach_over.nd rfl (by first | exact Or.inl rfl | exact Or.inr rfl) (pe_meth (pv 0) T.cl_Mover T.m_Mover_unknowns (ok_Mover_unknowns T) (hr.mono (by decide)) (b_Mover_unknowns T) .nil pass0 (pa_cons (pe_meth (pe_fld (pv 0) (by rfl)) T.cl_Move T.m_Move_halves (ok_Move_halves T) (hr.mono (by decide)) (b_Move_halves T) .nil pass0 (pa_cons (pe_ix ix_tup (pv 2) (pe_int) (fun _ _ => rfl)) (pa_nil))) (pa_nil))))
 (pss_cons (ps_set (i := 6) sc_reach_over.nd rfl (by first | exact Or.inl rfl | exact Or.inr rfl) (pe_meth0 (pv 0) T.cl_Mover T.m_Mover_bodies (ok_Mover_bodies T) (hr.mono (by decide)) (b_Mover_bodies T) .nil pass0))
 (pss_cons (ps_set (i := 7) sc_reach_over.nd rfl (by first | exact Or.inl rfl | exact Or.inr rfl) (pe_lst (pa_nil)))
 (pss_cons (ps_for PassesOwn.never rfl (pi_range1 (by rfl) T.z_range (pa_cons (pe_callB cr_lenS (by rfl) T.z_len bt_len (pa_cons (pv 6) (pa_nil))) (pa_nil))) (pg_name (i := 8) sc_reach_over.nd rfl (by first | exact Or.inl rfl | exact Or.inr rfl)) (pss_cons (ps_set (i := 9) sc_reach_over.nd rfl (by first | exact Or.inl rfl | exact Or.inr rfl) (pe_callB (cr_max2 rfl) (by rfl) T.z_max bt_max (pa_cons (pe_call (ok_dot T) (hr.mono (by decide)) (by rfl) T.g_dot T.F_dot.kp (b_dot T) .nil pass0 (pa_cons (pv 1) (pa_cons (pe_ix ix_tup (pe_ix ix_list (pv 4) (pv 8) (fun _ _ => rfl)) (pe_int) (fun _ _ => rfl)) (pa_nil)))) (pa_cons (pe_call (ok_dot T) (hr.mono (by decide)) (by rfl) T.g_dot T.F_dot.kp (b_dot T) .nil pass0 (pa_cons (pv 1) (pa_cons (pe_ix ix_tup (pe_ix ix_list (pv 4) (pv 8) (fun _ _ => rfl)) (pe_int) (fun _ _ => rfl)) (pa_nil)))) (pa_nil)))))
 (pss_cons (ps_expr (pe_bm PySem.F.plainAttrs_list PySem.F.slot_list_append PySem.F.type_list_append mt_append (pv 7) (pa_cons (pe_op op_add (pv 9) (pe_op op_mulG (pv 3) (pe_op op_add (pe_fld (pe_ix ix_tup (pe_ix ix_list (pv 6) (pv 8) (fun _ _ => rfl)) (pe_int) (fun _ _ => rfl)) (by rfl)) (pe_ix ix_list (pv 5) (pv 8) (fun _ _ => rfl))))) pa_nil)))
 (pss_nil))))
 (pss_cons (ps_ret (pe_callBK (ks := [Str.ofString "default"]) (cr_maxD rfl) (by rfl) T.z_max bt_max (pa_cons (pv 7) (pa_nil)) (pk_cons pe_non pk_nil)))
 (pss_nil))))))), fun ds d h => by
    obtain ⟨mover, direction, part, r, rfl, h, rfl⟩ := h
    unfold m_reach_over at h
    refine ⟨_, List.replicate 10 .un, sm_run (es := [.d ((d_Mover A) mover), .d ((dT3 Dt.int Dt.int Dt.int) direction), .d ((dT2 Dt.int Dt.int) part), .un, .un, .un, .un, .un, .un, .un]) (oc := fun (r : (Option Int)) => .rt ((dO Dt.int) r) (List.replicate 10 .un)) h ?_, .inl rfl⟩
    exact sm_one <|
sm_as <|
sm_bind fun t1 h_t1 =>
sm_set (es' := [.d ((d_Mover A) mover), .d ((dT3 Dt.int Dt.int Dt.int) direction), .d ((dT2 Dt.int Dt.int) part), .d (.int t1), .un, .un, .un, .un, .un, .un]) (ev_call (ea_cons (ev_var (i := 1) rfl) (ea_nil)) ⟨direction, t1, rfl, h_t1, rfl⟩) rfl <|
sm_as <|
sm_bind fun t2 h_t2 =>
sm_set (es' := [.d ((d_Mover A) mover), .d ((dT3 Dt.int Dt.int Dt.int) direction), .d ((dT2 Dt.int Dt.int) part), .d (.int t1), .d (.lst (List.map (dT2 (dT3 Dt.int Dt.int Dt.int) (dT3 Dt.int Dt.int Dt.int)) t2)), .un, .un, .un, .un, .un]) (ev_meth (ev_var (i := 0) rfl) rfl (ea_cons (ev_var (i := 2) rfl) (ea_nil)) ⟨mover, part, t2, rfl, h_t2, rfl⟩) rfl <|
sm_as <|
sm_bind fun t3 h_t3 =>
sm_bind fun t4 h_t4 =>
sm_set (es' := [.d ((d_Mover A) mover), .d ((dT3 Dt.int Dt.int Dt.int) direction), .d ((dT2 Dt.int Dt.int) part), .d (.int t1), .d (.lst (List.map (dT2 (dT3 Dt.int Dt.int Dt.int) (dT3 Dt.int Dt.int Dt.int)) t2)), .d (.lst (List.map Dt.int t4)), .un, .un, .un, .un]) (ev_meth (ev_var (i := 0) rfl) rfl (ea_cons (ev_meth (ev_fld (ev_var (i := 0) rfl) T.cl_Mover T.n_Mover_move rfl) rfl (ea_cons (ev_ixNG 0 rfl rfl (ev_var (i := 2) rfl) (ev_int)) (ea_nil)) ⟨mover.move, part.1, t3, rfl, h_t3, rfl⟩) (ea_nil)) ⟨mover, t3, t4, rfl, h_t4, rfl⟩) rfl <|
sm_as <|
sm_bind fun t5 h_t5 =>
sm_set (es' := [.d ((d_Mover A) mover), .d ((dT3 Dt.int Dt.int Dt.int) direction), .d ((dT2 Dt.int Dt.int) part), .d (.int t1), .d (.lst (List.map (dT2 (dT3 Dt.int Dt.int Dt.int) (dT3 Dt.int Dt.int Dt.int)) t2)), .d (.lst (List.map Dt.int t4)), .d (.lst (List.map (dT2 Dt.int (d_Body A)) t5)), .un, .un, .un]) (ev_meth (ev_var (i := 0) rfl) rfl (ea_nil) ⟨mover, t5, rfl, h_t5, rfl⟩) rfl <|
sm_as <|
sm_lt fun reaches6 h_reaches6 =>
sm_own (es' := [.d ((d_Mover A) mover), .d ((dT3 Dt.int Dt.int Dt.int) direction), .d ((dT2 Dt.int Dt.int) part), .d (.int t1), .d (.lst (List.map (dT2 (dT3 Dt.int Dt.int Dt.int) (dT3 Dt.int Dt.int Dt.int)) t2)), .d (.lst (List.map Dt.int t4)), .d (.lst (List.map (dT2 Dt.int (d_Body A)) t5)), .own none (List.map Dt.int reaches6), .un, .un]) (el_is (el_lst (ds := List.map Dt.int []) (ea_nil) (by simp)) (congrArg (List.map Dt.int) h_reaches6)) rfl <|
sm_as <|
sm_bind fun r7 h_r7 =>
sm_seq (env := fun (s : (List Int)) => [.d ((d_Mover A) mover), .d ((dT3 Dt.int Dt.int Dt.int) direction), .d ((dT2 Dt.int Dt.int) part), .d (.int t1), .d (.lst (List.map (dT2 (dT3 Dt.int Dt.int Dt.int) (dT3 Dt.int Dt.int Dt.int)) t2)), .d (.lst (List.map Dt.int t4)), .d (.lst (List.map (dT2 Dt.int (d_Body A)) t5)), .own none (List.map Dt.int s), .un, .un]) (sm_forL (xs := r7) (em := Dt.int) (env := fun (s : (List Int)) => [.d ((d_Mover A) mover), .d ((dT3 Dt.int Dt.int Dt.int) direction), .d ((dT2 Dt.int Dt.int) part), .d (.int t1), .d (.lst (List.map (dT2 (dT3 Dt.int Dt.int Dt.int) (dT3 Dt.int Dt.int Dt.int)) t2)), .d (.lst (List.map Dt.int t4)), .d (.lst (List.map (dT2 Dt.int (d_Body A)) t5)), .own none (List.map Dt.int s), .un, .un]) (en2 := fun (k9 : Int) (s8 : (List Int)) => [.d ((d_Mover A) mover), .d ((dT3 Dt.int Dt.int Dt.int) direction), .d ((dT2 Dt.int Dt.int) part), .d (.int t1), .d (.lst (List.map (dT2 (dT3 Dt.int Dt.int Dt.int) (dT3 Dt.int Dt.int Dt.int)) t2)), .d (.lst (List.map Dt.int t4)), .d (.lst (List.map (dT2 Dt.int (d_Body A)) t5)), .own none (List.map Dt.int s8), .d (.int k9), .un]) (ei_rng1 (ea_cons (ev_lenLm (ev_var (i := 6) rfl)) (ea_nil)) h_r7) (wk_e <| wk_e <| wk_e <| wk_e <| wk_e <| wk_e <| wk_e <| wk_e <| wk_u <| wk_u <| wk_n) (fun k9 s8 => eg_name (vs := [8]) (by simp)) fun k9 s8 h_k9 => sm_one <|
sm_as <|
sm_bind fun t10 h_t10 =>
sm_bind fun t11 h_t11 =>
sm_bind fun t12 h_t12 =>
sm_bind fun t13 h_t13 =>
sm_lt fun far14 h_far14 =>
sm_set (es' := [.d ((d_Mover A) mover), .d ((dT3 Dt.int Dt.int Dt.int) direction), .d ((dT2 Dt.int Dt.int) part), .d (.int t1), .d (.lst (List.map (dT2 (dT3 Dt.int Dt.int Dt.int) (dT3 Dt.int Dt.int Dt.int)) t2)), .d (.lst (List.map Dt.int t4)), .d (.lst (List.map (dT2 Dt.int (d_Body A)) t5)), .own none (List.map Dt.int s8), .d (.int k9), .d (.int far14)]) (ev_is (ev_max2 (ev_call (ea_cons (ev_var (i := 1) rfl) (ea_cons (ev_ixNG 0 rfl rfl (ev_ixLC (em := (dT2 (dT3 Dt.int Dt.int Dt.int) (dT3 Dt.int Dt.int Dt.int))) (ev_var (i := 4) rfl) (ev_var (i := 8) rfl) h_t10) (ev_int)) (ea_nil))) ⟨direction, t10.1, t11, rfl, h_t11, rfl⟩) (ev_call (ea_cons (ev_var (i := 1) rfl) (ea_cons (ev_ixNG 1 rfl rfl (ev_ixLC (em := (dT2 (dT3 Dt.int Dt.int Dt.int) (dT3 Dt.int Dt.int Dt.int))) (ev_var (i := 4) rfl) (ev_var (i := 8) rfl) h_t12) (ev_int)) (ea_nil))) ⟨direction, t12.2, t13, rfl, h_t13, rfl⟩)) (congrArg Dt.int h_far14)) rfl <|
sm_as <|
sm_bind fun t15 h_t15 =>
sm_bind fun t16 h_t16 =>
sm_bind fun t17 h_t17 =>
sm_bind fun reaches18 h_reaches18 =>
sm_app (i := 7) (x := (far14 + t17)) (es' := [.d ((d_Mover A) mover), .d ((dT3 Dt.int Dt.int Dt.int) direction), .d ((dT2 Dt.int Dt.int) part), .d (.int t1), .d (.lst (List.map (dT2 (dT3 Dt.int Dt.int Dt.int) (dT3 Dt.int Dt.int Dt.int)) t2)), .d (.lst (List.map Dt.int t4)), .d (.lst (List.map (dT2 Dt.int (d_Body A)) t5)), .own none (List.map Dt.int reaches18), .d (.int k9), .d (.int far14)]) (em := Dt.int) rfl (ev_add (ev_var (i := 9) rfl) (ev_mul (ev_var (i := 3) rfl) (ev_add (ev_fld (ev_ixNG 1 rfl rfl (ev_ixLC (em := (dT2 Dt.int (d_Body A))) (ev_var (i := 6) rfl) (ev_var (i := 8) rfl) h_t15) (ev_int)) T.cl_Body T.n_Body_radius rfl) (ev_ixLC (em := Dt.int) (ev_var (i := 5) rfl) (ev_var (i := 8) rfl) h_t16)) h_t17)) h_reaches18 rfl <|
sm_nil <|
sm_some (sev_go (wk_e <| wk_e <| wk_e <| wk_e <| wk_e <| wk_e <| wk_e <| wk_e <| wk_u <| wk_u <| wk_n))) fun s19 h_s19 =>
sm_as <|
sm_frz (i := 7) (es' := [.d ((d_Mover A) mover), .d ((dT3 Dt.int Dt.int Dt.int) direction), .d ((dT2 Dt.int Dt.int) part), .d (.int t1), .d (.lst (List.map (dT2 (dT3 Dt.int Dt.int Dt.int) (dT3 Dt.int Dt.int Dt.int)) t2)), .d (.lst (List.map Dt.int t4)), .d (.lst (List.map (dT2 Dt.int (d_Body A)) t5)), .d (.lst (List.map Dt.int s19)), .un, .un]) rfl rfl <|
sm_bind fun t20 h_t20 =>
sm_some (sev_rt (ev_maxD (ns := s19) (ev_var (i := 7) rfl) h_t20) (wk_uns rfl))⟩
theorem sc_extent : FnScope ["mover", "direction", "depth", "reaches", "at"] ["mover", "direction", "depth"] (defScope (topS 44)) := ⟨rfl, rfl, rfl, by decide +kernel, rfl, by decide +kernel, by decide +kernel⟩
theorem b_extent (T : Top P K mg A) : Binds K A.d_extent ["mover", "direction", "depth"] [] := T.F_extent.binds (ps := ["mover", "direction", "depth"]) fun _ _ _ _ _ _ us hl => match us, hl with | [_, _, _], _ => rfl
def P_extent (A : Ads) (ds : List Dt) (d : Dt) : Prop := ∃ (mover : Mover) (direction : (Int × Int × Int)) (depth : Int) (r : (Option Int)), ds = [(d_Mover A) mover, (dT3 Dt.int Dt.int Dt.int) direction, .int depth] ∧ m_extent mover direction depth = some r ∧ d = (dO Dt.int) r
set_option maxHeartbeats 4000000 in
theorem ok_extent (T : Top P K mg A) : FnOk P w K mg base CX0 6 A.f_extent A.d_extent ["mover", "direction", "depth"] (FSpec K (RD (P_extent A))) :=
  fn_D T.F_extent sc_extent (fun ds d h => by obtain ⟨mover, direction, depth, r, rfl, _, _⟩ := h; rfl) fun cdv A1 outer s H E hr => ⟨_, pss_cons (ps_if (PW.pt (pw_or (pt_not (pt_val (pe_call (ok_is_within T) (hr.mono (by decide)) (by rfl) T.g_is_within T.F_is_within.kp (b_is_within T) .nil pass0 (pa_cons (pv 1) (pa_cons (pe_glob (v := .int 1000) (by rfl) T.g_STEEPEST.choose_spec ⟨_, rfl⟩) (pa_nil)))))) (pw_or1 (pt_chain3 op_eq op_eq op_eq (pe_ix ix_tup (pv 1) (pe_int) (fun _ _ => rfl)) (pe_ix ix_tup (pv 1) (pe_int) (fun _ _ => rfl)) (pe_ix ix_tup (pv 1) (pe_int) (fun _ _ => rfl)) (pe_int))))) (pss_cons (ps_never)
 (pss_nil)) (pss_nil))
 (pss_cons (ps_if (pt_not (pt_chain op_le op_le (pe_int) (pv 2) (pe_glob (v := .int 8) (by rfl) T.g_DEEPEST.choose_spec ⟨_, rfl⟩))) (pss_cons (ps_never)
 (pss_nil)) (pss_nil))
 (pss_cons (ps_setLc (i := 3) (own := [("at", 4)]) (g := gName 4) (tt := tYes) rfl sc_extent.nd rfl rfl (sw_true rfl rfl rfl (by decide +kernel)) (pi_range1 (by rfl) T.z_range (pa_cons (pe_op op_shlG (pe_int) (pv 2)) (pa_nil))) (blkOk_by (N := ["mover", "direction", "depth", "reaches", "at"]) (sc := defScope (topS 44)) (by decide +kernel)) (fun _ _ _ _ _ => pg_name (i := 4) sc_extent.nd rfl (by first | exact Or.inl rfl | exact Or.inr rfl)) (fun _ _ _ _ _ => pts_nil) (fun _ _ _ _ _ => pe_call (ok_reach_over T) (hr.mono (by decide)) (by rfl) T.g_reach_over T.F_reach_over.kp (b_reach_over T) .nil pass0 (pa_cons (pv 0) (pa_cons (pv 1) (pa_cons (pe_tup (pa_cons (pv 2) (pa_cons (pv 4) (pa_nil)))) (pa_nil))))))
 (pss_cons (ps_if (pt_cmpR op_isN1 (pe_ix ix_list (pv 3) (pe_int) (fun _ _ => rfl)) (pe_non) (nomark _)) (pss_cons (ps_ret (pe_non))
 (pss_nil)) (pss_nil))
 (pss_cons (ps_ret (pe_callB (cr_max rfl) (by rfl) T.z_max bt_max (pa_cons (pv 3) (pa_nil))))
 (pss_nil))))), fun ds d h => by
    obtain ⟨mover, direction, depth, r, rfl, h, rfl⟩ := h
    unfold m_extent at h
    refine ⟨_, List.replicate 5 .un, sm_run (es := [.d ((d_Mover A) mover), .d ((dT3 Dt.int Dt.int Dt.int) direction), .d (.int depth), .un, .un]) (oc := fun (r : (Option Int)) => .rt ((dO Dt.int) r) (List.replicate 5 .un)) h ?_, .inl rfl⟩
    exact sm_one <|
sm_as <|
sm_bind fun t1 h_t1 =>
sm_if (et_or (et_not (et_B (ev_call (ea_cons (ev_var (i := 1) rfl) (ea_cons (ev_int) (ea_nil))) ⟨direction, 1000, t1, rfl, h_t1, rfl⟩))) (fun _ => et_test (ev_chain3 (ev_ixNG 0 rfl rfl (ev_var (i := 1) rfl) (ev_int)) (ev_ixNG 1 rfl rfl (ev_var (i := 1) rfl) (ev_int)) c_eq (ev_ixNG 2 rfl rfl (ev_var (i := 1) rfl) (ev_int)) c_eq (ev_int) c_eq))) (fun hb =>
sm_as <|
sm_none) (fun hb =>
sm_nil <|
sm_as <|
sm_if (et_not (et_test (ev_chain (ev_int) (ev_var (i := 2) rfl) c_le (fun _ => ev_int) (fun _ => c_le)))) (fun hb =>
sm_as <|
sm_none) (fun hb =>
sm_nil <|
sm_as <|
sm_bind fun t2 h_t2 =>
sm_bind fun r3 h_r3 =>
sm_bind fun t6 h_t6 =>
sm_set (es' := [.d ((d_Mover A) mover), .d ((dT3 Dt.int Dt.int Dt.int) direction), .d (.int depth), .d (.lst (List.map (dO Dt.int) t6)), .un]) (ev_new (el_map (vs := [4]) (em := Dt.int) (em2 := (dO Dt.int)) (en2 := fun (at_4 : Int) => [.d ((d_Mover A) mover), .d ((dT3 Dt.int Dt.int Dt.int) direction), .d (.int depth), .un, .d (.int at_4)]) (ei_rng1 (ea_cons (ev_shl (ev_int) (ev_var (i := 2) rfl) h_t2) (ea_nil)) h_r3) (fun at_4 => eg_name (vs := [4]) (by simp)) (fun at_4 => ev_bnd fun t5 h_t5 => ev_pure (ev_call (ea_cons (ev_var (i := 0) rfl) (ea_cons (ev_var (i := 1) rfl) (ea_cons (ev_tup (ea_cons (ev_var (i := 2) rfl) (ea_cons (ev_var (i := 4) rfl) (ea_nil))) (by simp)) (ea_nil)))) ⟨mover, direction, (depth, at_4), t5, rfl, h_t5, rfl⟩)) rfl h_t6)) rfl <|
sm_as <|
sm_bind fun t7 h_t7 =>
sm_if (et_test (ev_isO (em := Dt.int) (fun _ h => nomatch h) (ev_ixLC (em := (dO Dt.int)) (ev_var (i := 3) rfl) (ev_int) h_t7))) (fun hb =>
sm_as <|
sm_some (sev_rt (ev_non) (wk_uns rfl))) (fun hb =>
sm_nil <|
sm_as <|
sm_bind fun u8 h_u8 =>
sm_bind fun t9 h_t9 =>
sm_some (sev_rt (ev_maxL (ns := u8) (ev_unL (em := Dt.int) h_u8 (ev_var (i := 3) rfl)) h_t9) (wk_uns rfl)))))⟩
def PX_extent (A : Ads) (ds : List Dt) (c : Addr) (g : Str) : Prop := ∃ (mover : Mover) (direction : (Int × Int × Int)) (depth : Int), ds = [(d_Mover A) mover, (dT3 Dt.int Dt.int Dt.int) direction, .int depth] ∧ xm_extent mover direction depth = some g ∧ c = A.c_OutOfRange
set_option maxHeartbeats 4000000 in
theorem okx_extent (T : Top P K mg A) : FnOk P w K mg base (L2.CX P w) 6 A.f_extent A.d_extent ["mover", "direction", "depth"] (FSpecX K (XD (PX_extent A))) :=
  fnx_D T.F_extent sc_extent (fun ds c g h => by obtain ⟨mover, direction, depth, rfl, _, _⟩ := h; rfl) fun cdv A1 outer s H E hr => ⟨_, pss_cons (ps_if (PW.pt (pw_or (pt_not (pt_val (pe_call (ok_is_within T) (hr.mono (by decide)) (by rfl) T.g_is_within T.F_is_within.kp (b_is_within T) .nil pass0 (pa_cons (pv 1) (pa_cons (pe_glob (v := .int 1000) (by rfl) T.g_STEEPEST.choose_spec ⟨_, rfl⟩) (pa_nil)))))) (pw_or1 (pt_chain3 op_eq op_eq op_eq (pe_ix ix_tup (pv 1) (pe_int) (fun _ _ => rfl)) (pe_ix ix_tup (pv 1) (pe_int) (fun _ _ => rfl)) (pe_ix ix_tup (pv 1) (pe_int) (fun _ _ => rfl)) (pe_int))))) (pss_cons (ps_raiseX (k := 0) rfl T.X_OutOfRange (hr.mono (by decide)) (takes_of rfl rfl rfl rfl) (by exact (pa_cons pe_str pa_nil)) (by rfl))
 (pss_nil)) (pss_nil))
 (pss_cons (ps_if (pt_not (pt_chain op_le op_le (pe_int) (pv 2) (pe_glob (v := .int 8) (by rfl) T.g_DEEPEST.choose_spec ⟨_, rfl⟩))) (pss_cons (ps_raiseX (k := 0) rfl T.X_OutOfRange (hr.mono (by decide)) (takes_of rfl rfl rfl rfl) (by exact (pa_cons pe_str pa_nil)) (by rfl))
 (pss_nil)) (pss_nil))
 (pss_cons (ps_setLc (i := 3) (own := [("at", 4)]) (g := gName 4) (tt := tYes) rfl sc_extent.nd rfl rfl (sw_true rfl rfl rfl (by decide +kernel)) (pi_range1 (by rfl) T.z_range (pa_cons (pe_op op_shlG (pe_int) (pv 2)) (pa_nil))) (blkOk_by (N := ["mover", "direction", "depth", "reaches", "at"]) (sc := defScope (topS 44)) (by decide +kernel)) (fun _ _ _ _ _ => pg_name (i := 4) sc_extent.nd rfl (by first | exact Or.inl rfl | exact Or.inr rfl)) (fun _ _ _ _ _ => pts_nil) (fun _ _ _ _ _ => pe_call (ok_reach_over T) (hr.mono (by decide)) (by rfl) T.g_reach_over T.F_reach_over.kp (b_reach_over T) .nil pass0 (pa_cons (pv 0) (pa_cons (pv 1) (pa_cons (pe_tup (pa_cons (pv 2) (pa_cons (pv 4) (pa_nil)))) (pa_nil))))))
 (pss_cons (ps_if (pt_cmpR op_isN1 (pe_ix ix_list (pv 3) (pe_int) (fun _ _ => rfl)) (pe_non) (nomark _)) (pss_cons (ps_ret (pe_non))
 (pss_nil)) (pss_nil))
 (pss_cons (ps_ret (pe_callB (cr_max rfl) (by rfl) T.z_max bt_max (pa_cons (pv 3) (pa_nil))))
 (pss_nil))))), fun ds c g h => by
    obtain ⟨mover, direction, depth, rfl, h, rfl⟩ := h
    unfold xm_extent at h
    refine smx_run (es := [.d ((d_Mover A) mover), .d ((dT3 Dt.int Dt.int Dt.int) direction), .d (.int depth), .un, .un]) h ?_
    exact smx_one <|
smx_as <|
smx_bind fun t1 h_t1 =>
smx_if (et_or (et_not (et_B (ev_call (ea_cons (ev_var (i := 1) rfl) (ea_cons (ev_int) (ea_nil))) ⟨direction, 1000, t1, rfl, h_t1, rfl⟩))) (fun _ => et_test (ev_chain3 (ev_ixNG 0 rfl rfl (ev_var (i := 1) rfl) (ev_int)) (ev_ixNG 1 rfl rfl (ev_var (i := 1) rfl) (ev_int)) c_eq (ev_ixNG 2 rfl rfl (ev_var (i := 1) rfl) (ev_int)) c_eq (ev_int) c_eq))) (fun hb =>
smx_as <|
smx_raise (ea_cons ev_str ea_nil) (by decide)) (fun hb =>
smx_nil <|
smx_as <|
smx_if (et_not (et_test (ev_chain (ev_int) (ev_var (i := 2) rfl) c_le (fun _ => ev_int) (fun _ => c_le)))) (fun hb =>
smx_as <|
smx_raise (ea_cons ev_str ea_nil) (by decide)) (fun hb =>
smx_nil <|
smx_none))⟩
theorem okE_extent (T : Top P K mg A) : FnOk P w K mg base (L2.CX P w) 6 A.f_extent A.d_extent ["mover", "direction", "depth"] (spOr (FSpec K (RD (P_extent A))) (FSpecX K (XD (PX_extent A)))) := fn_or (ok_extent T) (okx_extent T)
theorem sc__law_dot : FnScope ["_law_one", "_law_two"] ["_law_one", "_law_two"] (defScope (topS 48)) := ⟨rfl, rfl, rfl, by decide +kernel, rfl, by decide +kernel, by decide +kernel⟩
theorem b__law_dot (T : Top P K mg A) : Binds K A.d__law_dot ["_law_one", "_law_two"] [] := T.F__law_dot.binds (ps := ["_law_one", "_law_two"]) fun _ _ _ _ _ _ us hl => match us, hl with | [_, _], _ => rfl
def P__law_dot (A : Ads) (ds : List Dt) (d : Dt) : Prop := ∃ (one : (Int × Int × Int)) (two : (Int × Int × Int)) (r : Int), ds = [(dT3 Dt.int Dt.int Dt.int) one, (dT3 Dt.int Dt.int Dt.int) two] ∧ m__law_dot one two = some r ∧ d = .int r
set_option maxHeartbeats 4000000 in
theorem ok__law_dot (T : Top P K mg A) : FnOk P w K mg base CX0 1 A.f__law_dot A.d__law_dot ["_law_one", "_law_two"] (FSpec K (RD (P__law_dot A))) :=
  fn_D T.F__law_dot sc__law_dot (fun ds d h => by obtain ⟨one, two, r, rfl, _, _⟩ := h; rfl) fun cdv A1 outer s H E hr => ⟨_, pss_cons (ps_ret (pe_op op_add (pe_op op_add (pe_op op_mulG (pe_ix ix_tup (pv 0) (pe_int) (fun _ _ => rfl)) (pe_ix ix_tup (pv 1) (pe_int) (fun _ _ => rfl))) (pe_op op_mulG (pe_ix ix_tup (pv 0) (pe_int) (fun _ _ => rfl)) (pe_ix ix_tup (pv 1) (pe_int) (fun _ _ => rfl)))) (pe_op op_mulG (pe_ix ix_tup (pv 0) (pe_int) (fun _ _ => rfl)) (pe_ix ix_tup (pv 1) (pe_int) (fun _ _ => rfl)))))
 (pss_nil), fun ds d h => by
    obtain ⟨one, two, r, rfl, h, rfl⟩ := h
    unfold m__law_dot at h
    refine ⟨_, List.replicate 2 .un, sm_run (es := [.d ((dT3 Dt.int Dt.int Dt.int) one), .d ((dT3 Dt.int Dt.int Dt.int) two)]) (oc := fun (r : Int) => .rt (.int r) (List.replicate 2 .un)) h ?_, .inl rfl⟩
    exact sm_one <|
sm_as <|
sm_bind fun t1 h_t1 =>
sm_bind fun t2 h_t2 =>
sm_bind fun t3 h_t3 =>
sm_some (sev_rt (ev_add (ev_add (ev_mul (ev_ixNG 0 rfl rfl (ev_var (i := 0) rfl) (ev_int)) (ev_ixNG 0 rfl rfl (ev_var (i := 1) rfl) (ev_int)) h_t1) (ev_mul (ev_ixNG 1 rfl rfl (ev_var (i := 0) rfl) (ev_int)) (ev_ixNG 1 rfl rfl (ev_var (i := 1) rfl) (ev_int)) h_t2)) (ev_mul (ev_ixNG 2 rfl rfl (ev_var (i := 0) rfl) (ev_int)) (ev_ixNG 2 rfl rfl (ev_var (i := 1) rfl) (ev_int)) h_t3)) (wk_uns rfl))⟩
theorem sc__law_root_up : FnScope ["_law_number", "_law_low", "_law_high", "_law_k", "_law_mid"] ["_law_number"] (defScope (topS 49)) := ⟨rfl, rfl, rfl, by decide +kernel, rfl, by decide +kernel, by decide +kernel⟩
theorem b__law_root_up (T : Top P K mg A) : Binds K A.d__law_root_up ["_law_number"] [] := T.F__law_root_up.binds (ps := ["_law_number"]) fun _ _ _ _ _ _ us hl => match us, hl with | [_], _ => rfl
def P__law_root_up (A : Ads) (ds : List Dt) (d : Dt) : Prop := ∃ (number : Int) (r : Int), ds = [.int number] ∧ m__law_root_up number = some r ∧ d = .int r
set_option maxHeartbeats 4000000 in
theorem ok__law_root_up (T : Top P K mg A) : FnOk P w K mg base CX0 1 A.f__law_root_up A.d__law_root_up ["_law_number"] (FSpec K (RD (P__law_root_up A))) :=
  fn_D T.F__law_root_up sc__law_root_up (fun ds d h => by obtain ⟨number, r, rfl, _, _⟩ := h; rfl) fun cdv A1 outer s H E hr => ⟨_, pss_cons (ps_set (i := 1) sc__law_root_up.nd rfl (by first | exact Or.inl rfl | exact Or.inr rfl) (pe_int))
 (pss_cons (ps_set (i := 2) sc__law_root_up.nd rfl (by first | exact Or.inl rfl | exact Or.inr rfl) (pe_int))
 (pss_cons (ps_for PassesOwn.never rfl (pi_range1 (by rfl) T.z_range (pa_cons (pe_int) (pa_nil))) (pg_name (i := 3) sc__law_root_up.nd rfl (by first | exact Or.inl rfl | exact Or.inr rfl)) (pss_cons (ps_if (pt_cmpR op_ge (pe_op op_mulG (pv 2) (pv 2)) (pv 0) (nomark _)) (pss_cons (ps_break)
 (pss_nil)) (pss_nil))
 (pss_cons (ps_set (i := 2) sc__law_root_up.nd rfl (by first | exact Or.inl rfl | exact Or.inr rfl) (pe_op op_mulG (pv 2) (pe_int)))
 (pss_nil))))
 (pss_cons (ps_for PassesOwn.never rfl (pi_range1 (by rfl) T.z_range (pa_cons (pe_int) (pa_nil))) (pg_name (i := 3) sc__law_root_up.nd rfl (by first | exact Or.inl rfl | exact Or.inr rfl)) (pss_cons (ps_if (pt_cmpR op_ge (pe_op op_add (pv 1) (pe_int)) (pv 2) (nomark _)) (pss_cons (ps_break)
 (pss_nil)) (pss_nil))
 (pss_cons (ps_set (i := 4) sc__law_root_up.nd rfl (by first | exact Or.inl rfl | exact Or.inr rfl) (pe_op op_fdivW (pe_op op_add (pv 1) (pv 2)) (pe_int)))
 (pss_cons (ps_if (pt_cmpR op_ge (pe_op op_mulG (pv 4) (pv 4)) (pv 0) (nomark _)) (pss_cons (ps_set (i := 2) sc__law_root_up.nd rfl (by first | exact Or.inl rfl | exact Or.inr rfl) (pv 4))
 (pss_nil)) (pss_cons (ps_set (i := 1) sc__law_root_up.nd rfl (by first | exact Or.inl rfl | exact Or.inr rfl) (pv 4))
 (pss_nil)))
 (pss_nil)))))
 (pss_cons (ps_ret (pe_ifExp (pt_cmpR op_eq (pv 0) (pe_int) (nomark _)) (pe_int) (pv 2)))
 (pss_nil))))), fun ds d h => by
    obtain ⟨number, r, rfl, h, rfl⟩ := h
    unfold m__law_root_up at h
    refine ⟨_, List.replicate 5 .un, sm_run (es := [.d (.int number), .un, .un, .un, .un]) (oc := fun (r : Int) => .rt (.int r) (List.replicate 5 .un)) h ?_, .inl rfl⟩
    exact sm_one <|
sm_as <|
sm_lt fun low1 h_low1 =>
sm_set (es' := [.d (.int number), .d (.int low1), .un, .un, .un]) (ev_is (ev_int) (congrArg Dt.int h_low1)) rfl <|
sm_as <|
sm_lt fun high2 h_high2 =>
sm_set (es' := [.d (.int number), .d (.int low1), .d (.int high2), .un, .un]) (ev_is (ev_int) (congrArg Dt.int h_high2)) rfl <|
sm_as <|
sm_thenF (env := fun (s : Int) => [.d (.int number), .d (.int low1), .d (.int s), .un, .un]) (ed := fun r => .int r) (ee := fun _ => List.replicate 5 .un) (sm_for (xs := rng 0 400) (em := Dt.int) (env := fun (s : Int) => [.d (.int number), .d (.int low1), .d (.int s), .un, .un]) (en2 := fun (k4 : Int) (s3 : Int) => [.d (.int number), .d (.int low1), .d (.int s3), .d (.int k4), .un]) (ei_rng1 (ea_cons (ev_int) (ea_nil)) (rngC_of (by decide))) (wk_e <| wk_e <| wk_e <| wk_u <| wk_u <| wk_n) (fun k4 s3 => eg_name (vs := [3]) (by simp)) fun k4 s3 h_k4 => sm_one <|
sm_as <|
sm_bind fun t5 h_t5 =>
sm_if (et_test (ev_ge (ev_mul (ev_var (i := 2) rfl) (ev_var (i := 2) rfl) h_t5) (ev_var (i := 0) rfl))) (fun hb =>
sm_as <|
sm_some (sev_bk (wk_e <| wk_e <| wk_e <| wk_u <| wk_u <| wk_n))) (fun hb =>
sm_nil <|
sm_as <|
sm_bind fun t6 h_t6 =>
sm_set (es' := [.d (.int number), .d (.int low1), .d (.int t6), .d (.int k4), .un]) (ev_mul (ev_var (i := 2) rfl) (ev_int) h_t6) rfl <|
sm_nil <|
sm_some (sev_go (wk_e <| wk_e <| wk_e <| wk_u <| wk_u <| wk_n)))) (fun s7 =>
sm_as <|
sm_thenF (env := fun (s : Int × Int) => [.d (.int number), .d (.int s.2), .d (.int s.1), .un, .un]) (ed := fun r => .int r) (ee := fun _ => List.replicate 5 .un) (sm_for (xs := rng 0 400) (em := Dt.int) (env := fun (s : Int × Int) => [.d (.int number), .d (.int s.2), .d (.int s.1), .un, .un]) (en2 := fun (k9 : Int) (s8 : Int × Int) => [.d (.int number), .d (.int s8.2), .d (.int s8.1), .d (.int k9), .un]) (ei_rng1 (ea_cons (ev_int) (ea_nil)) (rngC_of (by decide))) (wk_e <| wk_e <| wk_e <| wk_u <| wk_u <| wk_n) (fun k9 s8 => eg_name (vs := [3]) (by simp)) fun k9 s8 h_k9 => sm_one <|
sm_as <|
sm_if (et_test (ev_ge (ev_add (ev_var (i := 1) rfl) (ev_int)) (ev_var (i := 2) rfl))) (fun hb =>
sm_as <|
sm_some (sev_bk (wk_e <| wk_e <| wk_e <| wk_u <| wk_u <| wk_n))) (fun hb =>
sm_nil <|
sm_as <|
sm_bind fun t10 h_t10 =>
sm_set (es' := [.d (.int number), .d (.int s8.2), .d (.int s8.1), .d (.int k9), .d (.int t10)]) (ev_div (ev_add (ev_var (i := 1) rfl) (ev_var (i := 2) rfl)) (ev_int) h_t10) rfl <|
sm_as <|
sm_bind fun t11 h_t11 =>
sm_seq (env := fun (s : Int × Int) => [.d (.int number), .d (.int s.2), .d (.int s.1), .d (.int k9), .d (.int t10)]) (sm_one <| sm_if (et_test (ev_ge (ev_mul (ev_var (i := 4) rfl) (ev_var (i := 4) rfl) h_t11) (ev_var (i := 0) rfl))) (fun hb =>
sm_as <|
sm_set (es' := [.d (.int number), .d (.int s8.2), .d (.int t10), .d (.int k9), .d (.int t10)]) (ev_var (i := 4) rfl) rfl <|
sm_nil <|
sm_some (sev_nx (wk_e <| wk_e <| wk_e <| wk_e <| wk_e <| wk_n))) (fun hb =>
sm_as <|
sm_set (es' := [.d (.int number), .d (.int t10), .d (.int s8.1), .d (.int k9), .d (.int t10)]) (ev_var (i := 4) rfl) rfl <|
sm_nil <|
sm_some (sev_nx (wk_e <| wk_e <| wk_e <| wk_e <| wk_e <| wk_n)))) fun s12 h_s12 =>
sm_nil <|
sm_some (sev_go (wk_e <| wk_e <| wk_e <| wk_u <| wk_u <| wk_n)))) (fun s13 =>
sm_as <|
sm_some (sev_rt (ev_ifP (em := Dt.int) (et_test (ev_eqI (ev_var (i := 0) rfl) (ev_int))) (ev_int) (ev_var (i := 2) rfl)) (wk_uns rfl))) (fun _ => rfl)) (fun _ => rfl)⟩
theorem sc__law_reach : FnScope ["_law_mover_here", "_law_direction", "_law_part", "_law_size", "_law_lines", "_law_loose", "_law_bodies", "_law_best", "_law_k", "_law_far", "_law_reach_here"] ["_law_mover_here", "_law_direction", "_law_part"] (defScope (topS 61)) := ⟨rfl, rfl, rfl, by decide +kernel, rfl, by decide +kernel, by decide +kernel⟩
theorem b__law_reach (T : Top P K mg A) : Binds K A.d__law_reach ["_law_mover_here", "_law_direction", "_law_part"] [] := T.F__law_reach.binds (ps := ["_law_mover_here", "_law_direction", "_law_part"]) fun _ _ _ _ _ _ us hl => match us, hl with | [_, _, _], _ => rfl
def P__law_reach (A : Ads) (ds : List Dt) (d : Dt) : Prop := ∃ (mover_here : Mover) (direction : (Int × Int × Int)) (part : (Int × Int)) (r : (Option Int)), ds = [(d_Mover A) mover_here, (dT3 Dt.int Dt.int Dt.int) direction, (dT2 Dt.int Dt.int) part] ∧ m__law_reach mover_here direction part = some r ∧ d = (dO Dt.int) r
set_option maxHeartbeats 4000000 in
theorem ok__law_reach (T : Top P K mg A) : FnOk P w K mg base CX0 5 A.f__law_reach A.d__law_reach ["_law_mover_here", "_law_direction", "_law_part"] (FSpec K (RD (P__law_reach A))) :=
  fn_D T.F__law_reach sc__law_reach (fun ds d h => by obtain ⟨mover_here, direction, part, r, rfl, _, _⟩ := h; rfl) fun cdv A1 outer s H E hr => ⟨_, pss_cons (ps_set (i := 3) sc__law_reach.nd rfl (by first | exact Or.inl rfl | exact Or.inr rfl) (pe_call (ok__law_root_up T) (hr.mono (by decide)) (by rfl) T.g__law_root_up T.F__law_root_up.kp (b__law_root_up T) .nil pass0 (pa_cons (pe_call (ok__law_dot T) (hr.mono (by decide)) (by rfl) T.g__law_dot T.F__law_dot.kp (b__law_dot T) .nil pass0 (pa_cons (pv 1) (pa_cons (pv 1) (pa_nil)))) (pa_nil))))
 (pss_cons (ps_set (i := 4) sc__law_reach.nd rfl (by first | exact Or.inl rfl | exact Or.inr rfl) (pe_meth (pv 0) T.cl_Mover T.m_Mover_lines (ok_Mover_lines T) (hr.mono (by decide)) (b_Mover_lines T) .nil pass0 (pa_cons (pv 2) (pa_nil))))
 (pss_cons (ps_set (i := 5) sc__law_reach.nd rfl (by first | exact Or.inl rfl | exact Or.inr rfl) (pe_meth (pv 0) T.cl_Mover T.m_Mover_unknowns (ok_Mover_unknowns T) (hr.mono (by decide)) (b_Mover_unknowns T) .nil pass0 (pa_cons (pe_meth (pe_fld (pv 0) (by rfl)) T.cl_Move T.m_Move_halves (ok_Move_halves T) (hr.mono (by decide)) (b_Move_halves T) .nil pass0 (pa_cons (pe_ix ix_tup (pv 2) (pe_int) (fun _ _ => rfl)) (pa_nil))) (pa_nil))))
 (pss_cons (ps_set (i := 6) sc__law_reach.nd rfl (by first | exact Or.inl rfl | exact Or.inr rfl) (pe_meth0 (pv 0) T.cl_Mover T.m_Mover_bodies (ok_Mover_bodies T) (hr.mono (by decide)) (b_Mover_bodies T) .nil pass0))
 (pss_cons (ps_set (i := 7) sc__law_reach.nd rfl (by first | exact Or.inl rfl | exact Or.inr rfl) (pe_non))
 (pss_cons (ps_for PassesOwn.never rfl (pi_range1 (by rfl) T.z_range (pa_cons (pe_callB cr_lenS (by rfl) T.z_len bt_len (pa_cons (pv 6) (pa_nil))) (pa_nil))) (pg_name (i := 8) sc__law_reach.nd rfl (by first | exact Or.inl rfl | exact Or.inr rfl)) (pss_cons (ps_set (i := 9) sc__law_reach.nd rfl (by first | exact Or.inl rfl | exact Or.inr rfl) (pe_callB (cr_max2 rfl) (by rfl) T.z_max bt_max (pa_cons (pe_call (ok__law_dot T) (hr.mono (by decide)) (by rfl) T.g__law_dot T.F__law_dot.kp (b__law_dot T) .nil pass0 (pa_cons (pv 1) (pa_cons (pe_ix ix_tup (pe_ix ix_list (pv 4) (pv 8) (fun _ _ => rfl)) (pe_int) (fun _ _ => rfl)) (pa_nil)))) (pa_cons (pe_call (ok__law_dot T) (hr.mono (by decide)) (by rfl) T.g__law_dot T.F__law_dot.kp (b__law_dot T) .nil pass0 (pa_cons (pv 1) (pa_cons (pe_ix ix_tup (pe_ix ix_list (pv 4) (pv 8) (fun _ _ => rfl)) (pe_int) (fun _ _ => rfl)) (pa_nil)))) (pa_nil)))))
 (pss_cons (ps_set (i := 10) sc__law_reach.nd rfl (by first | exact Or.inl rfl | exact Or.inr rfl) (pe_op op_add (pv 9) (pe_op op_mulG (pv 3) (pe_op op_add (pe_fld (pe_ix ix_tup (pe_ix ix_list (pv 6) (pv 8) (fun _ _ => rfl)) (pe_int) (fun _ _ => rfl)) (by rfl)) (pe_ix ix_list (pv 5) (pv 8) (fun _ _ => rfl))))))
 (pss_cons (ps_if (PW.pt (pw_or (pt_cmpR op_isN1 (pv 7) (pe_non) (nomark _)) (pw_or1 (pt_cmpR op_gt (pv 10) (pv 7) (nomark _))))) (pss_cons (ps_set (i := 7) sc__law_reach.nd rfl (by first | exact Or.inl rfl | exact Or.inr rfl) (pv 10))
 (pss_nil)) (pss_nil))
 (pss_nil)))))
 (pss_cons (ps_ret (pv 7))
 (pss_nil))))))), fun ds d h => by
    obtain ⟨mover_here, direction, part, r, rfl, h, rfl⟩ := h
    unfold m__law_reach at h
    refine ⟨_, List.replicate 11 .un, sm_run (es := [.d ((d_Mover A) mover_here), .d ((dT3 Dt.int Dt.int Dt.int) direction), .d ((dT2 Dt.int Dt.int) part), .un, .un, .un, .un, .un, .un, .un, .un]) (oc := fun (r : (Option Int)) => .rt ((dO Dt.int) r) (List.replicate 11 .un)) h ?_, .inl rfl⟩
    exact sm_one <|
sm_as <|
sm_bind fun t1 h_t1 =>
sm_bind fun t2 h_t2 =>
sm_set (es' := [.d ((d_Mover A) mover_here), .d ((dT3 Dt.int Dt.int Dt.int) direction), .d ((dT2 Dt.int Dt.int) part), .d (.int t2), .un, .un, .un, .un, .un, .un, .un]) (ev_call (ea_cons (ev_call (ea_cons (ev_var (i := 1) rfl) (ea_cons (ev_var (i := 1) rfl) (ea_nil))) ⟨direction, direction, t1, rfl, h_t1, rfl⟩) (ea_nil)) ⟨t1, t2, rfl, h_t2, rfl⟩) rfl <|
sm_as <|
sm_bind fun t3 h_t3 =>
sm_set (es' := [.d ((d_Mover A) mover_here), .d ((dT3 Dt.int Dt.int Dt.int) direction), .d ((dT2 Dt.int Dt.int) part), .d (.int t2), .d (.lst (List.map (dT2 (dT3 Dt.int Dt.int Dt.int) (dT3 Dt.int Dt.int Dt.int)) t3)), .un, .un, .un, .un, .un, .un]) (ev_meth (ev_var (i := 0) rfl) rfl (ea_cons (ev_var (i := 2) rfl) (ea_nil)) ⟨mover_here, part, t3, rfl, h_t3, rfl⟩) rfl <|
sm_as <|
sm_bind fun t4 h_t4 =>
sm_bind fun t5 h_t5 =>
sm_set (es' := [.d ((d_Mover A) mover_here), .d ((dT3 Dt.int Dt.int Dt.int) direction), .d ((dT2 Dt.int Dt.int) part), .d (.int t2), .d (.lst (List.map (dT2 (dT3 Dt.int Dt.int Dt.int) (dT3 Dt.int Dt.int Dt.int)) t3)), .d (.lst (List.map Dt.int t5)), .un, .un, .un, .un, .un]) (ev_meth (ev_var (i := 0) rfl) rfl (ea_cons (ev_meth (ev_fld (ev_var (i := 0) rfl) T.cl_Mover T.n_Mover_move rfl) rfl (ea_cons (ev_ixNG 0 rfl rfl (ev_var (i := 2) rfl) (ev_int)) (ea_nil)) ⟨mover_here.move, part.1, t4, rfl, h_t4, rfl⟩) (ea_nil)) ⟨mover_here, t4, t5, rfl, h_t5, rfl⟩) rfl <|
sm_as <|
sm_bind fun t6 h_t6 =>
sm_set (es' := [.d ((d_Mover A) mover_here), .d ((dT3 Dt.int Dt.int Dt.int) direction), .d ((dT2 Dt.int Dt.int) part), .d (.int t2), .d (.lst (List.map (dT2 (dT3 Dt.int Dt.int Dt.int) (dT3 Dt.int Dt.int Dt.int)) t3)), .d (.lst (List.map Dt.int t5)), .d (.lst (List.map (dT2 Dt.int (d_Body A)) t6)), .un, .un, .un, .un]) (ev_meth (ev_var (i := 0) rfl) rfl (ea_nil) ⟨mover_here, t6, rfl, h_t6, rfl⟩) rfl <|
sm_as <|
sm_lt fun best7 h_best7 =>
sm_set (es' := [.d ((d_Mover A) mover_here), .d ((dT3 Dt.int Dt.int Dt.int) direction), .d ((dT2 Dt.int Dt.int) part), .d (.int t2), .d (.lst (List.map (dT2 (dT3 Dt.int Dt.int Dt.int) (dT3 Dt.int Dt.int Dt.int)) t3)), .d (.lst (List.map Dt.int t5)), .d (.lst (List.map (dT2 Dt.int (d_Body A)) t6)), .d ((dO Dt.int) best7), .un, .un, .un]) (ev_is (ev_non) (congrArg (dO Dt.int) h_best7)) rfl <|
sm_as <|
sm_bind fun r8 h_r8 =>
sm_seq (env := fun (s : (Option Int)) => [.d ((d_Mover A) mover_here), .d ((dT3 Dt.int Dt.int Dt.int) direction), .d ((dT2 Dt.int Dt.int) part), .d (.int t2), .d (.lst (List.map (dT2 (dT3 Dt.int Dt.int Dt.int) (dT3 Dt.int Dt.int Dt.int)) t3)), .d (.lst (List.map Dt.int t5)), .d (.lst (List.map (dT2 Dt.int (d_Body A)) t6)), .d ((dO Dt.int) s), .un, .un, .un]) (sm_forL (xs := r8) (em := Dt.int) (env := fun (s : (Option Int)) => [.d ((d_Mover A) mover_here), .d ((dT3 Dt.int Dt.int Dt.int) direction), .d ((dT2 Dt.int Dt.int) part), .d (.int t2), .d (.lst (List.map (dT2 (dT3 Dt.int Dt.int Dt.int) (dT3 Dt.int Dt.int Dt.int)) t3)), .d (.lst (List.map Dt.int t5)), .d (.lst (List.map (dT2 Dt.int (d_Body A)) t6)), .d ((dO Dt.int) s), .un, .un, .un]) (en2 := fun (k10 : Int) (s9 : (Option Int)) => [.d ((d_Mover A) mover_here), .d ((dT3 Dt.int Dt.int Dt.int) direction), .d ((dT2 Dt.int Dt.int) part), .d (.int t2), .d (.lst (List.map (dT2 (dT3 Dt.int Dt.int Dt.int) (dT3 Dt.int Dt.int Dt.int)) t3)), .d (.lst (List.map Dt.int t5)), .d (.lst (List.map (dT2 Dt.int (d_Body A)) t6)), .d ((dO Dt.int) s9), .d (.int k10), .un, .un]) (ei_rng1 (ea_cons (ev_lenLm (ev_var (i := 6) rfl)) (ea_nil)) h_r8) (wk_e <| wk_e <| wk_e <| wk_e <| wk_e <| wk_e <| wk_e <| wk_e <| wk_u <| wk_u <| wk_u <| wk_n) (fun k10 s9 => eg_name (vs := [8]) (by simp)) fun k10 s9 h_k10 => sm_one <|
sm_as <|
sm_bind fun t11 h_t11 =>
sm_bind fun t12 h_t12 =>
sm_bind fun t13 h_t13 =>
sm_bind fun t14 h_t14 =>
sm_lt fun far15 h_far15 =>
sm_set (es' := [.d ((d_Mover A) mover_here), .d ((dT3 Dt.int Dt.int Dt.int) direction), .d ((dT2 Dt.int Dt.int) part), .d (.int t2), .d (.lst (List.map (dT2 (dT3 Dt.int Dt.int Dt.int) (dT3 Dt.int Dt.int Dt.int)) t3)), .d (.lst (List.map Dt.int t5)), .d (.lst (List.map (dT2 Dt.int (d_Body A)) t6)), .d ((dO Dt.int) s9), .d (.int k10), .d (.int far15), .un]) (ev_is (ev_max2 (ev_call (ea_cons (ev_var (i := 1) rfl) (ea_cons (ev_ixNG 0 rfl rfl (ev_ixLC (em := (dT2 (dT3 Dt.int Dt.int Dt.int) (dT3 Dt.int Dt.int Dt.int))) (ev_var (i := 4) rfl) (ev_var (i := 8) rfl) h_t11) (ev_int)) (ea_nil))) ⟨direction, t11.1, t12, rfl, h_t12, rfl⟩) (ev_call (ea_cons (ev_var (i := 1) rfl) (ea_cons (ev_ixNG 1 rfl rfl (ev_ixLC (em := (dT2 (dT3 Dt.int Dt.int Dt.int) (dT3 Dt.int Dt.int Dt.int))) (ev_var (i := 4) rfl) (ev_var (i := 8) rfl) h_t13) (ev_int)) (ea_nil))) ⟨direction, t13.2, t14, rfl, h_t14, rfl⟩)) (congrArg Dt.int h_far15)) rfl <|
sm_as <|
sm_bind fun t16 h_t16 =>
sm_bind fun t17 h_t17 =>
sm_bind fun t18 h_t18 =>
sm_lt fun reach_here19 h_reach_here19 =>
sm_set (es' := [.d ((d_Mover A) mover_here), .d ((dT3 Dt.int Dt.int Dt.int) direction), .d ((dT2 Dt.int Dt.int) part), .d (.int t2), .d (.lst (List.map (dT2 (dT3 Dt.int Dt.int Dt.int) (dT3 Dt.int Dt.int Dt.int)) t3)), .d (.lst (List.map Dt.int t5)), .d (.lst (List.map (dT2 Dt.int (d_Body A)) t6)), .d ((dO Dt.int) s9), .d (.int k10), .d (.int far15), .d (.int reach_here19)]) (ev_is (ev_add (ev_var (i := 9) rfl) (ev_mul (ev_var (i := 3) rfl) (ev_add (ev_fld (ev_ixNG 1 rfl rfl (ev_ixLC (em := (dT2 Dt.int (d_Body A))) (ev_var (i := 6) rfl) (ev_var (i := 8) rfl) h_t16) (ev_int)) T.cl_Body T.n_Body_radius rfl) (ev_ixLC (em := Dt.int) (ev_var (i := 5) rfl) (ev_var (i := 8) rfl) h_t17)) h_t18)) (congrArg Dt.int h_reach_here19)) rfl <|
sm_as <|
sm_bind fun b21 h_b21 =>
sm_seq (env := fun (s : (Option Int)) => [.d ((d_Mover A) mover_here), .d ((dT3 Dt.int Dt.int Dt.int) direction), .d ((dT2 Dt.int Dt.int) part), .d (.int t2), .d (.lst (List.map (dT2 (dT3 Dt.int Dt.int Dt.int) (dT3 Dt.int Dt.int Dt.int)) t3)), .d (.lst (List.map Dt.int t5)), .d (.lst (List.map (dT2 Dt.int (d_Body A)) t6)), .d ((dO Dt.int) s), .d (.int k10), .d (.int far15), .d (.int reach_here19)]) (sm_one <| sm_if (et_orC (et_test (ev_isO (em := Dt.int) (fun _ h => nomatch h) (ev_var (i := 7) rfl))) (fun _ => et_bnd fun o20 h_o20 => et_pure (et_test (ev_gt (ev_var (i := 10) rfl) (ev_some (em := Dt.int) h_o20 (ev_var (i := 7) rfl))))) h_b21) (fun hb =>
sm_as <|
sm_lt fun best22 h_best22 =>
sm_set (es' := [.d ((d_Mover A) mover_here), .d ((dT3 Dt.int Dt.int Dt.int) direction), .d ((dT2 Dt.int Dt.int) part), .d (.int t2), .d (.lst (List.map (dT2 (dT3 Dt.int Dt.int Dt.int) (dT3 Dt.int Dt.int Dt.int)) t3)), .d (.lst (List.map Dt.int t5)), .d (.lst (List.map (dT2 Dt.int (d_Body A)) t6)), .d ((dO Dt.int) best22), .d (.int k10), .d (.int far15), .d (.int reach_here19)]) (ev_is (ev_var (i := 10) rfl) (congrArg (dO Dt.int) h_best22)) rfl <|
sm_nil <|
sm_some (sev_nx (wk_e <| wk_e <| wk_e <| wk_e <| wk_e <| wk_e <| wk_e <| wk_e <| wk_e <| wk_e <| wk_e <| wk_n))) (fun hb =>
sm_nil <|
sm_some (sev_nx (wk_e <| wk_e <| wk_e <| wk_e <| wk_e <| wk_e <| wk_e <| wk_e <| wk_e <| wk_e <| wk_e <| wk_n)))) fun s23 h_s23 =>
sm_nil <|
sm_some (sev_go (wk_e <| wk_e <| wk_e <| wk_e <| wk_e <| wk_e <| wk_e <| wk_e <| wk_u <| wk_u <| wk_u <| wk_n))) fun s24 h_s24 =>
sm_as <|
sm_some (sev_rt (ev_var (i := 7) rfl) (wk_uns rfl))⟩
theorem sc__law_is_integer : FnScope ["_law_actual"] ["_law_actual"] (defScope (topS 47)) := ⟨rfl, rfl, rfl, by decide +kernel, rfl, by decide +kernel, by decide +kernel⟩
theorem b__law_is_integer (T : Top P K mg A) : Binds K A.d__law_is_integer ["_law_actual"] [] := T.F__law_is_integer.binds (ps := ["_law_actual"]) fun _ _ _ _ _ _ us hl => match us, hl with | [_], _ => rfl
def P__law_is_integer (A : Ads) (ds : List Dt) (d : Dt) : Prop := ∃ (actual : (Option Int)) (r : Bool), ds = [(dO Dt.int) actual] ∧ m__law_is_integer actual = some r ∧ d = .bl r
set_option maxHeartbeats 4000000 in
theorem ok__law_is_integer (T : Top P K mg A) : FnOk P w K mg base CX0 1 A.f__law_is_integer A.d__law_is_integer ["_law_actual"] (FSpec K (RD (P__law_is_integer A))) :=
  fn_D T.F__law_is_integer sc__law_is_integer (fun ds d h => by obtain ⟨actual, r, rfl, _, _⟩ := h; rfl) fun cdv A1 outer s H E hr => ⟨_, pss_cons (ps_ret (pe_and (pe_callB call_isi (by rfl) T.z_isinstance bt_isinstance (pa_cons (pv 0) (pa_cons (pe_bltn (v := .ty "int") (by rfl) T.z_int bt_int rfl) pa_nil))) (pe_one (pe_not (pe_callB call_isi (by rfl) T.z_isinstance bt_isinstance (pa_cons (pv 0) (pa_cons (pe_bltn (v := .ty "bool") (by rfl) T.z_bool bt_bool rfl) pa_nil)))))))
 (pss_nil), fun ds d h => by
    obtain ⟨actual, r, rfl, h, rfl⟩ := h
    unfold m__law_is_integer at h
    refine ⟨_, List.replicate 1 .un, sm_run (es := [.d ((dO Dt.int) actual)]) (oc := fun (r : Bool) => .rt (.bl r) (List.replicate 1 .un)) h ?_, .inl rfl⟩
    exact sm_one <|
sm_as <|
sm_some (sev_rt (ev_andV (ev_isiOI (ev_var (i := 0) rfl) ev_ty) (fun _ => ev_notV (ev_isiOB (ev_var (i := 0) rfl) ev_ty))) (wk_uns rfl))⟩
theorem sc__law_meant : FnScope ["_law_joints", "_law_first", "_law_last", "_law_part", "_law_row", "_law_values_here", "_law_k", "_law_loose", "_law_over"] ["_law_joints", "_law_first", "_law_last", "_law_part", "_law_row"] (defScope (topS 57)) := ⟨rfl, rfl, rfl, by decide +kernel, rfl, by decide +kernel, by decide +kernel⟩
theorem b__law_meant (T : Top P K mg A) : Binds K A.d__law_meant ["_law_joints", "_law_first", "_law_last", "_law_part", "_law_row"] [] := T.F__law_meant.binds (ps := ["_law_joints", "_law_first", "_law_last", "_law_part", "_law_row"]) fun _ _ _ _ _ _ us hl => match us, hl with | [_, _, _, _, _], _ => rfl
def P__law_meant (A : Ads) (ds : List Dt) (d : Dt) : Prop := ∃ (joints : (List Joint)) (first : (List Int)) (last : (List Int)) (part : (Int × Int)) (row : Int) (r : (List (Int × Int))), ds = [.tup (List.map (d_Joint A) joints), .tup (List.map Dt.int first), .tup (List.map Dt.int last), (dT2 Dt.int Dt.int) part, .int row] ∧ m__law_meant joints first last part row = some r ∧ d = .lst (List.map (dT2 Dt.int Dt.int) r)
set_option maxHeartbeats 4000000 in
theorem ok__law_meant (T : Top P K mg A) : FnOk P w K mg base CX0 1 A.f__law_meant A.d__law_meant ["_law_joints", "_law_first", "_law_last", "_law_part", "_law_row"] (FSpec K (RD (P__law_meant A))) :=
  fn_D T.F__law_meant sc__law_meant (fun ds d h => by obtain ⟨joints, first, last, part, row, r, rfl, _, _⟩ := h; rfl) fun cdv A1 outer s H E hr => ⟨_, pss_cons (ps_set (i := 5) sc__law_meant.nd rfl (by first | exact Or.inl rfl | exact Or.inr rfl) (pe_lst (pa_nil)))
 (pss_cons (ps_for PassesOwn.never rfl (pi_range1 (by rfl) T.z_range (pa_cons (pe_callB cr_lenS (by rfl) T.z_len bt_len (pa_cons (pv 0) (pa_nil))) (pa_nil))) (pg_name (i := 6) sc__law_meant.nd rfl (by first | exact Or.inl rfl | exact Or.inr rfl)) (pss_cons (ps_set (i := 7) sc__law_meant.nd rfl (by first | exact Or.inl rfl | exact Or.inr rfl) (pe_op op_sub (pe_op op_mod (pe_callTy cr_int (by rfl) T.z_int bt_int (pa_cons (pe_op op_fdivW (pv 4) (pe_op op_add (pv 6) (pe_int))) (pa_nil))) (pe_op op_add (pe_op op_mulG (pe_int) (pe_fld (pe_ix ix_tup (pv 0) (pv 6) (fun _ _ => rfl)) (by rfl))) (pe_int))) (pe_fld (pe_ix ix_tup (pv 0) (pv 6) (fun _ _ => rfl)) (by rfl))))
 (pss_cons (ps_set (i := 8) sc__law_meant.nd rfl (by first | exact Or.inl rfl | exact Or.inr rfl) (pe_op op_add (pe_op op_mulG (pe_op op_add (pe_ix ix_tup (pv 1) (pv 6) (fun _ _ => rfl)) (pv 7)) (pe_ix ix_tup (pv 3) (pe_int) (fun _ _ => rfl))) (pe_op op_mulG (pe_op op_sub (pe_ix ix_tup (pv 2) (pv 6) (fun _ _ => rfl)) (pe_ix ix_tup (pv 1) (pv 6) (fun _ _ => rfl))) (pe_ix ix_tup (pv 3) (pe_int) (fun _ _ => rfl)))))
 (pss_cons (ps_expr (pe_bm PySem.F.plainAttrs_list PySem.F.slot_list_append PySem.F.type_list_append mt_append (pv 5) (pa_cons (pe_tup (pa_cons (pv 8) (pa_cons (pe_ix ix_tup (pv 3) (pe_int) (fun _ _ => rfl)) (pa_nil)))) pa_nil)))
 (pss_nil)))))
 (pss_cons (ps_ret (pv 5))
 (pss_nil))), fun ds d h => by
    obtain ⟨joints, first, last, part, row, r, rfl, h, rfl⟩ := h
    unfold m__law_meant at h
    refine ⟨_, List.replicate 9 .un, sm_run (es := [.d (.tup (List.map (d_Joint A) joints)), .d (.tup (List.map Dt.int first)), .d (.tup (List.map Dt.int last)), .d ((dT2 Dt.int Dt.int) part), .d (.int row), .un, .un, .un, .un]) (oc := fun (r : (List (Int × Int))) => .rt (.lst (List.map (dT2 Dt.int Dt.int) r)) (List.replicate 9 .un)) h ?_, .inl rfl⟩
    exact sm_one <|
sm_as <|
sm_lt fun values_here1 h_values_here1 =>
sm_own (es' := [.d (.tup (List.map (d_Joint A) joints)), .d (.tup (List.map Dt.int first)), .d (.tup (List.map Dt.int last)), .d ((dT2 Dt.int Dt.int) part), .d (.int row), .own none (List.map (dT2 Dt.int Dt.int) values_here1), .un, .un, .un]) (el_is (el_lst (ds := List.map (dT2 Dt.int Dt.int) []) (ea_nil) (by simp)) (congrArg (List.map (dT2 Dt.int Dt.int)) h_values_here1)) rfl <|
sm_as <|
sm_bind fun r2 h_r2 =>
sm_seq (env := fun (s : (List (Int × Int))) => [.d (.tup (List.map (d_Joint A) joints)), .d (.tup (List.map Dt.int first)), .d (.tup (List.map Dt.int last)), .d ((dT2 Dt.int Dt.int) part), .d (.int row), .own none (List.map (dT2 Dt.int Dt.int) s), .un, .un, .un]) (sm_forL (xs := r2) (em := Dt.int) (env := fun (s : (List (Int × Int))) => [.d (.tup (List.map (d_Joint A) joints)), .d (.tup (List.map Dt.int first)), .d (.tup (List.map Dt.int last)), .d ((dT2 Dt.int Dt.int) part), .d (.int row), .own none (List.map (dT2 Dt.int Dt.int) s), .un, .un, .un]) (en2 := fun (k4 : Int) (s3 : (List (Int × Int))) => [.d (.tup (List.map (d_Joint A) joints)), .d (.tup (List.map Dt.int first)), .d (.tup (List.map Dt.int last)), .d ((dT2 Dt.int Dt.int) part), .d (.int row), .own none (List.map (dT2 Dt.int Dt.int) s3), .d (.int k4), .un, .un]) (ei_rng1 (ea_cons (ev_lenVm (ev_var (i := 0) rfl)) (ea_nil)) h_r2) (wk_e <| wk_e <| wk_e <| wk_e <| wk_e <| wk_e <| wk_u <| wk_u <| wk_u <| wk_n) (fun k4 s3 => eg_name (vs := [6]) (by simp)) fun k4 s3 h_k4 => sm_one <|
sm_as <|
sm_bind fun t5 h_t5 =>
sm_bind fun t6 h_t6 =>
sm_bind fun t7 h_t7 =>
sm_bind fun t8 h_t8 =>
sm_bind fun t9 h_t9 =>
sm_lt fun loose10 h_loose10 =>
sm_set (es' := [.d (.tup (List.map (d_Joint A) joints)), .d (.tup (List.map Dt.int first)), .d (.tup (List.map Dt.int last)), .d ((dT2 Dt.int Dt.int) part), .d (.int row), .own none (List.map (dT2 Dt.int Dt.int) s3), .d (.int k4), .d (.int loose10), .un]) (ev_is (ev_sub (ev_mod (ev_intI (ev_div (ev_var (i := 4) rfl) (ev_add (ev_var (i := 6) rfl) (ev_int)) h_t5)) (ev_add (ev_mul (ev_int) (ev_fld (ev_ixTC (em := (d_Joint A)) (ev_var (i := 0) rfl) (ev_var (i := 6) rfl) h_t6) T.cl_Joint T.n_Joint_error rfl) h_t7) (ev_int)) h_t8) (ev_fld (ev_ixTC (em := (d_Joint A)) (ev_var (i := 0) rfl) (ev_var (i := 6) rfl) h_t9) T.cl_Joint T.n_Joint_error rfl)) (congrArg Dt.int h_loose10)) rfl <|
sm_as <|
sm_bind fun t11 h_t11 =>
sm_bind fun t12 h_t12 =>
sm_bind fun t13 h_t13 =>
sm_bind fun t14 h_t14 =>
sm_bind fun t15 h_t15 =>
sm_lt fun over16 h_over16 =>
sm_set (es' := [.d (.tup (List.map (d_Joint A) joints)), .d (.tup (List.map Dt.int first)), .d (.tup (List.map Dt.int last)), .d ((dT2 Dt.int Dt.int) part), .d (.int row), .own none (List.map (dT2 Dt.int Dt.int) s3), .d (.int k4), .d (.int loose10), .d (.int over16)]) (ev_is (ev_add (ev_mul (ev_add (ev_ixTC (em := Dt.int) (ev_var (i := 1) rfl) (ev_var (i := 6) rfl) h_t11) (ev_var (i := 7) rfl)) (ev_ixNG 1 rfl rfl (ev_var (i := 3) rfl) (ev_int)) h_t12) (ev_mul (ev_sub (ev_ixTC (em := Dt.int) (ev_var (i := 2) rfl) (ev_var (i := 6) rfl) h_t13) (ev_ixTC (em := Dt.int) (ev_var (i := 1) rfl) (ev_var (i := 6) rfl) h_t14)) (ev_ixNG 0 rfl rfl (ev_var (i := 3) rfl) (ev_int)) h_t15)) (congrArg Dt.int h_over16)) rfl <|
sm_as <|
sm_bind fun values_here17 h_values_here17 =>
sm_app (i := 5) (x := (over16, part.2)) (es' := [.d (.tup (List.map (d_Joint A) joints)), .d (.tup (List.map Dt.int first)), .d (.tup (List.map Dt.int last)), .d ((dT2 Dt.int Dt.int) part), .d (.int row), .own none (List.map (dT2 Dt.int Dt.int) values_here17), .d (.int k4), .d (.int loose10), .d (.int over16)]) (em := (dT2 Dt.int Dt.int)) rfl (ev_tup (ea_cons (ev_var (i := 8) rfl) (ea_cons (ev_ixNG 1 rfl rfl (ev_var (i := 3) rfl) (ev_int)) (ea_nil))) (by simp)) h_values_here17 rfl <|
sm_nil <|
sm_some (sev_go (wk_e <| wk_e <| wk_e <| wk_e <| wk_e <| wk_e <| wk_u <| wk_u <| wk_u <| wk_n))) fun s18 h_s18 =>
sm_as <|
sm_frz (i := 5) (es' := [.d (.tup (List.map (d_Joint A) joints)), .d (.tup (List.map Dt.int first)), .d (.tup (List.map Dt.int last)), .d ((dT2 Dt.int Dt.int) part), .d (.int row), .d (.lst (List.map (dT2 Dt.int Dt.int) s18)), .un, .un, .un]) rfl rfl <|
sm_some (sev_rt (ev_var (i := 5) rfl) (wk_uns rfl))⟩
theorem sc__law_offsets : FnScope ["_law_joints", "_law_row", "_law_offsets_here", "_law_k", "_law_wide", "_law_shift", "_law_j"] ["_law_joints", "_law_row"] (defScope (topS 58)) := ⟨rfl, rfl, rfl, by decide +kernel, rfl, by decide +kernel, by decide +kernel⟩
theorem b__law_offsets (T : Top P K mg A) : Binds K A.d__law_offsets ["_law_joints", "_law_row"] [] := T.F__law_offsets.binds (ps := ["_law_joints", "_law_row"]) fun _ _ _ _ _ _ us hl => match us, hl with | [_, _], _ => rfl
def P__law_offsets (A : Ads) (ds : List Dt) (d : Dt) : Prop := ∃ (joints : (List Joint)) (row : Int) (r : (List (Int × Int × Int × Int))), ds = [.tup (List.map (d_Joint A) joints), .int row] ∧ m__law_offsets joints row = some r ∧ d = .lst (List.map (dT4 Dt.int Dt.int Dt.int Dt.int) r)
set_option maxHeartbeats 4000000 in
theorem ok__law_offsets (T : Top P K mg A) : FnOk P w K mg base CX0 1 A.f__law_offsets A.d__law_offsets ["_law_joints", "_law_row"] (FSpec K (RD (P__law_offsets A))) :=
  fn_D T.F__law_offsets sc__law_offsets (fun ds d h => by obtain ⟨joints, row, r, rfl, _, _⟩ := h; rfl) fun cdv A1 outer s H E hr => ⟨_, pss_cons (ps_set (i := 2) sc__law_offsets.nd rfl (by first | exact Or.inl rfl | exact Or.inr rfl) (pe_lst (pa_nil)))
 (pss_cons (ps_for PassesOwn.never rfl (pi_range1 (by rfl) T.z_range (pa_cons (pe_callB cr_lenS (by rfl) T.z_len bt_len (pa_cons (pv 0) (pa_nil))) (pa_nil))) (pg_name (i := 3) sc__law_offsets.nd rfl (by first | exact Or.inl rfl | exact Or.inr rfl)) (pss_cons (ps_set (i := 4) sc__law_offsets.nd rfl (by first | exact Or.inl rfl | exact Or.inr rfl) (pe_op op_add (pe_op op_mulG (pe_int) (pe_fld (pe_ix ix_tup (pv 0) (pv 3) (fun _ _ => rfl)) (by rfl))) (pe_int)))
 (pss_cons (ps_set (i := 5) sc__law_offsets.nd rfl (by first | exact Or.inl rfl | exact Or.inr rfl) (pe_lc (own := [("_law_j", 6)]) (g := gName 6) (tt := tYes) rfl sc__law_offsets.nd (pi_range1 (by rfl) T.z_range (pa_cons (pe_int) (pa_nil))) (blkOk_by (N := ["_law_joints", "_law_row", "_law_offsets_here", "_law_k", "_law_wide", "_law_shift", "_law_j"]) (sc := defScope (topS 58)) (by decide +kernel)) (fun _ _ _ _ _ => pg_name (i := 6) sc__law_offsets.nd rfl (by first | exact Or.inl rfl | exact Or.inr rfl)) (fun _ _ _ _ _ => pts_nil) (fun _ _ _ _ _ => pe_op op_sub (pe_op op_mod (pe_callTy cr_int (by rfl) T.z_int bt_int (pa_cons (pe_op op_fdivW (pv 1) (pe_op op_add (pe_op op_add (pe_op op_mulG (pe_int) (pv 3)) (pv 6)) (pe_int))) (pa_nil))) (pv 4)) (pe_fldK (K := K) ("box" : Str) (pe_ix ix_tup (pv 0) (pv 3) (fun _ _ => rfl)) (by rfl) (by rfl)))))
 (pss_cons (ps_expr (pe_bm PySem.F.plainAttrs_list PySem.F.slot_list_append PySem.F.type_list_append mt_append (pv 2) (pa_cons (pe_callTy cr_tupS (by rfl) T.z_tuple bt_tuple (pa_cons (pe_op op_catG (pe_lc (own := [("_law_j", 6)]) (g := gName 6) (tt := tYes) rfl sc__law_offsets.nd (pi_range1 (by rfl) T.z_range (pa_cons (pe_int) (pa_nil))) (blkOk_by (N := ["_law_joints", "_law_row", "_law_offsets_here", "_law_k", "_law_wide", "_law_shift", "_law_j"]) (sc := defScope (topS 58)) (by decide +kernel)) (fun _ _ _ _ _ => pg_name (i := 6) sc__law_offsets.nd rfl (by first | exact Or.inl rfl | exact Or.inr rfl)) (fun _ _ _ _ _ => pts_nil) (fun _ _ _ _ _ => pe_op op_add (pe_ix ix_tup (pe_fldK (K := K) ("offset" : Str) (pe_ix ix_tup (pv 0) (pv 3) (fun _ _ => rfl)) (by rfl) (by rfl)) (pv 6) (fun _ _ => rfl)) (pe_ix ix_list (pv 5) (pv 6) (fun _ _ => rfl)))) (pe_lst (pa_cons (pe_int) (pa_nil)))) (pa_nil))) pa_nil)))
 (pss_nil)))))
 (pss_cons (ps_ret (pv 2))
 (pss_nil))), fun ds d h => by
    obtain ⟨joints, row, r, rfl, h, rfl⟩ := h
    unfold m__law_offsets at h
    refine ⟨_, List.replicate 7 .un, sm_run (es := [.d (.tup (List.map (d_Joint A) joints)), .d (.int row), .un, .un, .un, .un, .un]) (oc := fun (r : (List (Int × Int × Int × Int))) => .rt (.lst (List.map (dT4 Dt.int Dt.int Dt.int Dt.int) r)) (List.replicate 7 .un)) h ?_, .inl rfl⟩
    exact sm_one <|
sm_as <|
sm_lt fun offsets_here1 h_offsets_here1 =>
sm_own (es' := [.d (.tup (List.map (d_Joint A) joints)), .d (.int row), .own none (List.map (dT4 Dt.int Dt.int Dt.int Dt.int) offsets_here1), .un, .un, .un, .un]) (el_is (el_lst (ds := List.map (dT4 Dt.int Dt.int Dt.int Dt.int) []) (ea_nil) (by simp)) (congrArg (List.map (dT4 Dt.int Dt.int Dt.int Dt.int)) h_offsets_here1)) rfl <|
sm_as <|
sm_bind fun r2 h_r2 =>
sm_seq (env := fun (s : (List (Int × Int × Int × Int))) => [.d (.tup (List.map (d_Joint A) joints)), .d (.int row), .own none (List.map (dT4 Dt.int Dt.int Dt.int Dt.int) s), .un, .un, .un, .un]) (sm_forL (xs := r2) (em := Dt.int) (env := fun (s : (List (Int × Int × Int × Int))) => [.d (.tup (List.map (d_Joint A) joints)), .d (.int row), .own none (List.map (dT4 Dt.int Dt.int Dt.int Dt.int) s), .un, .un, .un, .un]) (en2 := fun (k4 : Int) (s3 : (List (Int × Int × Int × Int))) => [.d (.tup (List.map (d_Joint A) joints)), .d (.int row), .own none (List.map (dT4 Dt.int Dt.int Dt.int Dt.int) s3), .d (.int k4), .un, .un, .un]) (ei_rng1 (ea_cons (ev_lenVm (ev_var (i := 0) rfl)) (ea_nil)) h_r2) (wk_e <| wk_e <| wk_e <| wk_u <| wk_u <| wk_u <| wk_u <| wk_n) (fun k4 s3 => eg_name (vs := [3]) (by simp)) fun k4 s3 h_k4 => sm_one <|
sm_as <|
sm_bind fun t5 h_t5 =>
sm_bind fun t6 h_t6 =>
sm_lt fun wide7 h_wide7 =>
sm_set (es' := [.d (.tup (List.map (d_Joint A) joints)), .d (.int row), .own none (List.map (dT4 Dt.int Dt.int Dt.int Dt.int) s3), .d (.int k4), .d (.int wide7), .un, .un]) (ev_is (ev_add (ev_mul (ev_int) (ev_fld (ev_ixTC (em := (d_Joint A)) (ev_var (i := 0) rfl) (ev_var (i := 3) rfl) h_t5) T.cl_Joint T.n_Joint_box rfl) h_t6) (ev_int)) (congrArg Dt.int h_wide7)) rfl <|
sm_as <|
sm_bind fun t9 h_t9 =>
sm_bind fun t10 h_t10 =>
sm_bind fun t11 h_t11 =>
sm_bind fun t12 h_t12 =>
sm_bind fun t13 h_t13 =>
sm_bind fun t14 h_t14 =>
sm_bind fun t15 h_t15 =>
sm_bind fun t16 h_t16 =>
sm_bind fun t17 h_t17 =>
sm_bind fun t18 h_t18 =>
sm_bind fun t19 h_t19 =>
sm_bind fun t20 h_t20 =>
sm_lt fun shift21 h_shift21 =>
sm_set (es' := [.d (.tup (List.map (d_Joint A) joints)), .d (.int row), .own none (List.map (dT4 Dt.int Dt.int Dt.int Dt.int) s3), .d (.int k4), .d (.int wide7), .d ((dF3 Dt.int Dt.int Dt.int) shift21), .un]) (ev_is (ev_new (el_hide (es' := [.d (.tup (List.map (d_Joint A) joints)), .d (.int row), .un, .d (.int k4), .d (.int wide7), .un, .un]) rfl (el_fix (vs := [6]) (xs := [0, 1, 2]) (em := Dt.int) (ds := [Dt.int (t11 - t12.box), Dt.int (t15 - t16.box), Dt.int (t19 - t20.box)]) (en2 := fun (j8 : Int) => [.d (.tup (List.map (d_Joint A) joints)), .d (.int row), .un, .d (.int k4), .d (.int wide7), .un, .d (.int j8)]) (ei_rng1 (xs := [0, 1, 2]) (ea_cons (ev_int) (ea_nil)) (by decide)) (by simp) (fun j8 => eg_name (vs := [6]) (by simp)) (ae_c (ev_sub (ev_mod (ev_intI (ev_div (ev_var (i := 1) rfl) (ev_add (ev_add (ev_mul (ev_int) (ev_var (i := 3) rfl) h_t9) (ev_var (i := 6) rfl)) (ev_int)) h_t10)) (ev_var (i := 4) rfl) h_t11) (ev_fld (ev_ixTC (em := (d_Joint A)) (ev_var (i := 0) rfl) (ev_var (i := 3) rfl) h_t12) T.cl_Joint T.n_Joint_box rfl)) <| ae_c (ev_sub (ev_mod (ev_intI (ev_div (ev_var (i := 1) rfl) (ev_add (ev_add (ev_mul (ev_int) (ev_var (i := 3) rfl) h_t13) (ev_var (i := 6) rfl)) (ev_int)) h_t14)) (ev_var (i := 4) rfl) h_t15) (ev_fld (ev_ixTC (em := (d_Joint A)) (ev_var (i := 0) rfl) (ev_var (i := 3) rfl) h_t16) T.cl_Joint T.n_Joint_box rfl)) <| ae_c (ev_sub (ev_mod (ev_intI (ev_div (ev_var (i := 1) rfl) (ev_add (ev_add (ev_mul (ev_int) (ev_var (i := 3) rfl) h_t17) (ev_var (i := 6) rfl)) (ev_int)) h_t18)) (ev_var (i := 4) rfl) h_t19) (ev_fld (ev_ixTC (em := (d_Joint A)) (ev_var (i := 0) rfl) (ev_var (i := 3) rfl) h_t20) T.cl_Joint T.n_Joint_box rfl)) <| ae_n) rfl))) (congrArg (dF3 Dt.int Dt.int Dt.int) h_shift21)) rfl <|
sm_as <|
sm_bind fun t23 h_t23 =>
sm_bind fun t24 h_t24 =>
sm_bind fun t25 h_t25 =>
sm_bind fun offsets_here26 h_offsets_here26 =>
sm_app (i := 2) (x := (t23.offset.1 + shift21.1, t24.offset.2.1 + shift21.2.1, t25.offset.2.2 + shift21.2.2, 1)) (es' := [.d (.tup (List.map (d_Joint A) joints)), .d (.int row), .own none (List.map (dT4 Dt.int Dt.int Dt.int Dt.int) offsets_here26), .d (.int k4), .d (.int wide7), .d ((dF3 Dt.int Dt.int Dt.int) shift21), .un]) (em := (dT4 Dt.int Dt.int Dt.int Dt.int)) rfl (ev_tupL (ev_new (el_is (ds' := [.int (t23.offset.1 + shift21.1), .int (t24.offset.2.1 + shift21.2.1), .int (t25.offset.2.2 + shift21.2.2), .int 1]) (el_catD (d1 := [.int (t23.offset.1 + shift21.1), .int (t24.offset.2.1 + shift21.2.1), .int (t25.offset.2.2 + shift21.2.2)]) (d2 := [.int 1]) (ev_new (el_hide (es' := [.d (.tup (List.map (d_Joint A) joints)), .d (.int row), .un, .d (.int k4), .d (.int wide7), .d ((dF3 Dt.int Dt.int Dt.int) shift21), .un]) rfl (el_fix (vs := [6]) (xs := [0, 1, 2]) (em := Dt.int) (ds := [Dt.int (t23.offset.1 + shift21.1), Dt.int (t24.offset.2.1 + shift21.2.1), Dt.int (t25.offset.2.2 + shift21.2.2)]) (en2 := fun (j22 : Int) => [.d (.tup (List.map (d_Joint A) joints)), .d (.int row), .un, .d (.int k4), .d (.int wide7), .d ((dF3 Dt.int Dt.int Dt.int) shift21), .d (.int j22)]) (ei_rng1 (xs := [0, 1, 2]) (ea_cons (ev_int) (ea_nil)) (by decide)) (by simp) (fun j22 => eg_name (vs := [6]) (by simp)) (ae_c (ev_add (ev_ixNG 0 rfl rfl (ev_fld (ev_ixTC (em := (d_Joint A)) (ev_var (i := 0) rfl) (ev_var (i := 3) rfl) h_t23) T.cl_Joint T.n_Joint_offset rfl) (ev_var (i := 6) rfl)) (ev_ixLG 0 rfl rfl (ev_var (i := 5) rfl) (ev_var (i := 6) rfl))) <| ae_c (ev_add (ev_ixNG 1 rfl rfl (ev_fld (ev_ixTC (em := (d_Joint A)) (ev_var (i := 0) rfl) (ev_var (i := 3) rfl) h_t24) T.cl_Joint T.n_Joint_offset rfl) (ev_var (i := 6) rfl)) (ev_ixLG 1 rfl rfl (ev_var (i := 5) rfl) (ev_var (i := 6) rfl))) <| ae_c (ev_add (ev_ixNG 2 rfl rfl (ev_fld (ev_ixTC (em := (d_Joint A)) (ev_var (i := 0) rfl) (ev_var (i := 3) rfl) h_t25) T.cl_Joint T.n_Joint_offset rfl) (ev_var (i := 6) rfl)) (ev_ixLG 2 rfl rfl (ev_var (i := 5) rfl) (ev_var (i := 6) rfl))) <| ae_n) rfl))) (ev_new (el_lst (ea_cons (ev_int) (ea_nil)) (by simp))) (by simp)) rfl))) h_offsets_here26 rfl <|
sm_nil <|
sm_some (sev_go (wk_e <| wk_e <| wk_e <| wk_u <| wk_u <| wk_u <| wk_u <| wk_n))) fun s27 h_s27 =>
sm_as <|
sm_frz (i := 2) (es' := [.d (.tup (List.map (d_Joint A) joints)), .d (.int row), .d (.lst (List.map (dT4 Dt.int Dt.int Dt.int Dt.int) s27)), .un, .un, .un, .un]) rfl rfl <|
sm_some (sev_rt (ev_var (i := 2) rfl) (wk_uns rfl))⟩
theorem sc__law_turned : FnScope ["_law_place", "_law_axis", "_law_value", "_law_over", "_law_under", "_law_one", "_law_two", "_law_straight", "_law_across", "_law_whole", "_law_out"] ["_law_place", "_law_axis", "_law_value"] (defScope (topS 55)) := ⟨rfl, rfl, rfl, by decide +kernel, rfl, by decide +kernel, by decide +kernel⟩
theorem b__law_turned (T : Top P K mg A) : Binds K A.d__law_turned ["_law_place", "_law_axis", "_law_value"] [] := T.F__law_turned.binds (ps := ["_law_place", "_law_axis", "_law_value"]) fun _ _ _ _ _ _ us hl => match us, hl with | [_, _, _], _ => rfl
def P__law_turned (A : Ads) (ds : List Dt) (d : List Dt) : Prop := ∃ (place : (List Int)) (axis : Int) (value : (Int × Int)) (r : (List Int)), ds = [.lst (List.map Dt.int place), .int axis, (dT2 Dt.int Dt.int) value] ∧ m__law_turned place axis value = some r ∧ d = List.map Dt.int r
set_option maxHeartbeats 4000000 in
theorem ok__law_turned (T : Top P K mg A) : FnOk P w K mg base CX0 1 A.f__law_turned A.d__law_turned ["_law_place", "_law_axis", "_law_value"] (FSpecL K (P__law_turned A)) :=
  fn_L T.F__law_turned sc__law_turned (fun ds d h => by obtain ⟨place, axis, value, r, rfl, _, _⟩ := h; rfl) fun cdv A1 outer s H E hr => ⟨_, pss_cons (ps_set (i := 3) sc__law_turned.nd rfl (by first | exact Or.inl rfl | exact Or.inr rfl) (pe_ix ix_tup (pv 2) (pe_int) (fun _ _ => rfl)))
 (pss_cons (ps_set (i := 4) sc__law_turned.nd rfl (by first | exact Or.inl rfl | exact Or.inr rfl) (pe_op op_mulG (pe_ix ix_tup (pv 2) (pe_int) (fun _ _ => rfl)) (pe_int)))
 (pss_cons (ps_set (i := 5) sc__law_turned.nd rfl (by first | exact Or.inl rfl | exact Or.inr rfl) (pe_op op_mod (pe_op op_add (pv 1) (pe_int)) (pe_int)))
 (pss_cons (ps_set (i := 6) sc__law_turned.nd rfl (by first | exact Or.inl rfl | exact Or.inr rfl) (pe_op op_mod (pe_op op_add (pv 1) (pe_int)) (pe_int)))
 (pss_cons (ps_set (i := 7) sc__law_turned.nd rfl (by first | exact Or.inl rfl | exact Or.inr rfl) (pe_op op_sub (pe_op op_mulG (pv 4) (pv 4)) (pe_op op_mulG (pv 3) (pv 3))))
 (pss_cons (ps_set (i := 8) sc__law_turned.nd rfl (by first | exact Or.inl rfl | exact Or.inr rfl) (pe_op op_mulG (pe_op op_mulG (pe_int) (pv 3)) (pv 4)))
 (pss_cons (ps_set (i := 9) sc__law_turned.nd rfl (by first | exact Or.inl rfl | exact Or.inr rfl) (pe_op op_add (pe_op op_mulG (pv 4) (pv 4)) (pe_op op_mulG (pv 3) (pv 3))))
 (pss_cons (ps_set (i := 10) sc__law_turned.nd rfl (by first | exact Or.inl rfl | exact Or.inr rfl) (pe_lst (pa_cons (pe_op op_mulG (pe_ix ix_list (pv 0) (pe_int) (fun _ _ => rfl)) (pv 9)) (pa_cons (pe_op op_mulG (pe_ix ix_list (pv 0) (pe_int) (fun _ _ => rfl)) (pv 9)) (pa_cons (pe_op op_mulG (pe_ix ix_list (pv 0) (pe_int) (fun _ _ => rfl)) (pv 9)) (pa_cons (pe_op op_mulG (pe_ix ix_list (pv 0) (pe_int) (fun _ _ => rfl)) (pv 9)) (pa_nil)))))))
 (pss_cons (ps_asg (pe_op op_sub (pe_op op_mulG (pe_ix ix_list (pv 0) (pv 5) (fun _ _ => rfl)) (pv 7)) (pe_op op_mulG (pe_ix ix_list (pv 0) (pv 6) (fun _ _ => rfl)) (pv 8))) (pg_sub (pv 10) (pv 5) set_list))
 (pss_cons (ps_asg (pe_op op_add (pe_op op_mulG (pe_ix ix_list (pv 0) (pv 5) (fun _ _ => rfl)) (pv 8)) (pe_op op_mulG (pe_ix ix_list (pv 0) (pv 6) (fun _ _ => rfl)) (pv 7))) (pg_sub (pv 10) (pv 6) set_list))
 (pss_cons (ps_ret (pv 10))
 (pss_nil))))))))))), fun ds d h => by
    obtain ⟨place, axis, value, r, rfl, h, rfl⟩ := h
    unfold m__law_turned at h
    refine ⟨List.replicate 11 .un, sm_run (es := [.d (.lst (List.map Dt.int place)), .d (.int axis), .d ((dT2 Dt.int Dt.int) value), .un, .un, .un, .un, .un, .un, .un, .un]) (oc := fun (r : (List Int)) => .rl (List.map Dt.int r) (List.replicate 11 .un)) h ?_⟩
    exact sm_one <|
sm_as <|
sm_lt fun over1 h_over1 =>
sm_set (es' := [.d (.lst (List.map Dt.int place)), .d (.int axis), .d ((dT2 Dt.int Dt.int) value), .d (.int over1), .un, .un, .un, .un, .un, .un, .un]) (ev_is (ev_ixNG 0 rfl rfl (ev_var (i := 2) rfl) (ev_int)) (congrArg Dt.int h_over1)) rfl <|
sm_as <|
sm_bind fun t2 h_t2 =>
sm_set (es' := [.d (.lst (List.map Dt.int place)), .d (.int axis), .d ((dT2 Dt.int Dt.int) value), .d (.int over1), .d (.int t2), .un, .un, .un, .un, .un, .un]) (ev_mul (ev_ixNG 1 rfl rfl (ev_var (i := 2) rfl) (ev_int)) (ev_int) h_t2) rfl <|
sm_as <|
sm_bind fun t3 h_t3 =>
sm_set (es' := [.d (.lst (List.map Dt.int place)), .d (.int axis), .d ((dT2 Dt.int Dt.int) value), .d (.int over1), .d (.int t2), .d (.int t3), .un, .un, .un, .un, .un]) (ev_mod (ev_add (ev_var (i := 1) rfl) (ev_int)) (ev_int) h_t3) rfl <|
sm_as <|
sm_bind fun t4 h_t4 =>
sm_set (es' := [.d (.lst (List.map Dt.int place)), .d (.int axis), .d ((dT2 Dt.int Dt.int) value), .d (.int over1), .d (.int t2), .d (.int t3), .d (.int t4), .un, .un, .un, .un]) (ev_mod (ev_add (ev_var (i := 1) rfl) (ev_int)) (ev_int) h_t4) rfl <|
sm_as <|
sm_bind fun t5 h_t5 =>
sm_bind fun t6 h_t6 =>
sm_lt fun straight7 h_straight7 =>
sm_set (es' := [.d (.lst (List.map Dt.int place)), .d (.int axis), .d ((dT2 Dt.int Dt.int) value), .d (.int over1), .d (.int t2), .d (.int t3), .d (.int t4), .d (.int straight7), .un, .un, .un]) (ev_is (ev_sub (ev_mul (ev_var (i := 4) rfl) (ev_var (i := 4) rfl) h_t5) (ev_mul (ev_var (i := 3) rfl) (ev_var (i := 3) rfl) h_t6)) (congrArg Dt.int h_straight7)) rfl <|
sm_as <|
sm_bind fun t8 h_t8 =>
sm_bind fun t9 h_t9 =>
sm_set (es' := [.d (.lst (List.map Dt.int place)), .d (.int axis), .d ((dT2 Dt.int Dt.int) value), .d (.int over1), .d (.int t2), .d (.int t3), .d (.int t4), .d (.int straight7), .d (.int t9), .un, .un]) (ev_mul (ev_mul (ev_int) (ev_var (i := 3) rfl) h_t8) (ev_var (i := 4) rfl) h_t9) rfl <|
sm_as <|
sm_bind fun t10 h_t10 =>
sm_bind fun t11 h_t11 =>
sm_lt fun whole12 h_whole12 =>
sm_set (es' := [.d (.lst (List.map Dt.int place)), .d (.int axis), .d ((dT2 Dt.int Dt.int) value), .d (.int over1), .d (.int t2), .d (.int t3), .d (.int t4), .d (.int straight7), .d (.int t9), .d (.int whole12), .un]) (ev_is (ev_add (ev_mul (ev_var (i := 4) rfl) (ev_var (i := 4) rfl) h_t10) (ev_mul (ev_var (i := 3) rfl) (ev_var (i := 3) rfl) h_t11)) (congrArg Dt.int h_whole12)) rfl <|
sm_as <|
sm_bind fun t13 h_t13 =>
sm_bind fun t14 h_t14 =>
sm_bind fun t15 h_t15 =>
sm_bind fun t16 h_t16 =>
sm_bind fun t17 h_t17 =>
sm_bind fun t18 h_t18 =>
sm_bind fun t19 h_t19 =>
sm_bind fun t20 h_t20 =>
sm_lt fun out21 h_out21 =>
sm_own (es' := [.d (.lst (List.map Dt.int place)), .d (.int axis), .d ((dT2 Dt.int Dt.int) value), .d (.int over1), .d (.int t2), .d (.int t3), .d (.int t4), .d (.int straight7), .d (.int t9), .d (.int whole12), .own none (List.map Dt.int out21)]) (el_is (el_lst (ds := List.map Dt.int [t14, t16, t18, t20]) (ea_cons (ev_mul (ev_ixLC (em := Dt.int) (ev_var (i := 0) rfl) (ev_int) h_t13) (ev_var (i := 9) rfl) h_t14) (ea_cons (ev_mul (ev_ixLC (em := Dt.int) (ev_var (i := 0) rfl) (ev_int) h_t15) (ev_var (i := 9) rfl) h_t16) (ea_cons (ev_mul (ev_ixLC (em := Dt.int) (ev_var (i := 0) rfl) (ev_int) h_t17) (ev_var (i := 9) rfl) h_t18) (ea_cons (ev_mul (ev_ixLC (em := Dt.int) (ev_var (i := 0) rfl) (ev_int) h_t19) (ev_var (i := 9) rfl) h_t20) (ea_nil))))) (by simp)) (congrArg (List.map Dt.int) h_out21)) rfl <|
sm_as <|
sm_bind fun t22 h_t22 =>
sm_bind fun t23 h_t23 =>
sm_bind fun t24 h_t24 =>
sm_bind fun t25 h_t25 =>
sm_bind fun out26 h_out26 =>
sm_setL (i := 10) (es' := [.d (.lst (List.map Dt.int place)), .d (.int axis), .d ((dT2 Dt.int Dt.int) value), .d (.int over1), .d (.int t2), .d (.int t3), .d (.int t4), .d (.int straight7), .d (.int t9), .d (.int whole12), .own none (List.map Dt.int out26)]) (em := Dt.int) rfl (ev_sub (ev_mul (ev_ixLC (em := Dt.int) (ev_var (i := 0) rfl) (ev_var (i := 5) rfl) h_t22) (ev_var (i := 7) rfl) h_t23) (ev_mul (ev_ixLC (em := Dt.int) (ev_var (i := 0) rfl) (ev_var (i := 6) rfl) h_t24) (ev_var (i := 8) rfl) h_t25)) (ev_var (i := 5) rfl) h_out26 rfl <|
sm_as <|
sm_bind fun t27 h_t27 =>
sm_bind fun t28 h_t28 =>
sm_bind fun t29 h_t29 =>
sm_bind fun t30 h_t30 =>
sm_bind fun out31 h_out31 =>
sm_setL (i := 10) (es' := [.d (.lst (List.map Dt.int place)), .d (.int axis), .d ((dT2 Dt.int Dt.int) value), .d (.int over1), .d (.int t2), .d (.int t3), .d (.int t4), .d (.int straight7), .d (.int t9), .d (.int whole12), .own none (List.map Dt.int out31)]) (em := Dt.int) rfl (ev_add (ev_mul (ev_ixLC (em := Dt.int) (ev_var (i := 0) rfl) (ev_var (i := 5) rfl) h_t27) (ev_var (i := 8) rfl) h_t28) (ev_mul (ev_ixLC (em := Dt.int) (ev_var (i := 0) rfl) (ev_var (i := 6) rfl) h_t29) (ev_var (i := 7) rfl) h_t30)) (ev_var (i := 6) rfl) h_out31 rfl <|
sm_as <|
sm_some (sev_rtO (i := 10) rfl (wk_uns rfl))⟩
theorem sc__law_true : FnScope ["_law_joints", "_law_values_here", "_law_offsets_here", "_law_link", "_law_point", "_law_place", "_law_back", "_law_k", "_law_joint_here", "_law_value", "_law_shift", "_law_part", "_law_j"] ["_law_joints", "_law_values_here", "_law_offsets_here", "_law_link", "_law_point"] (defScope (topS 56)) := ⟨rfl, rfl, rfl, by decide +kernel, rfl, by decide +kernel, by decide +kernel⟩
theorem b__law_true (T : Top P K mg A) : Binds K A.d__law_true ["_law_joints", "_law_values_here", "_law_offsets_here", "_law_link", "_law_point"] [] := T.F__law_true.binds (ps := ["_law_joints", "_law_values_here", "_law_offsets_here", "_law_link", "_law_point"]) fun _ _ _ _ _ _ us hl => match us, hl with | [_, _, _, _, _], _ => rfl
def P__law_true (A : Ads) (ds : List Dt) (d : Dt) : Prop := ∃ (joints : (List Joint)) (values_here : (List (Int × Int))) (offsets_here : (List (Int × Int × Int × Int))) (link : Int) (point : (Int × Int × Int)) (r : (List Int)), ds = [.tup (List.map (d_Joint A) joints), .lst (List.map (dT2 Dt.int Dt.int) values_here), .lst (List.map (dT4 Dt.int Dt.int Dt.int Dt.int) offsets_here), .int link, (dT3 Dt.int Dt.int Dt.int) point] ∧ m__law_true joints values_here offsets_here link point = some r ∧ d = .lst (List.map Dt.int r)
set_option maxHeartbeats 4000000 in
theorem ok__law_true (T : Top P K mg A) : FnOk P w K mg base CX0 2 A.f__law_true A.d__law_true ["_law_joints", "_law_values_here", "_law_offsets_here", "_law_link", "_law_point"] (FSpec K (RD (P__law_true A))) :=
  fn_D T.F__law_true sc__law_true (fun ds d h => by obtain ⟨joints, values_here, offsets_here, link, point, r, rfl, _, _⟩ := h; rfl) fun cdv A1 outer s H E hr => ⟨_, pss_cons (ps_set (i := 5) sc__law_true.nd rfl (by first | exact Or.inl rfl | exact Or.inr rfl) (pe_lst (pa_cons (pe_ix ix_tup (pv 4) (pe_int) (fun _ _ => rfl)) (pa_cons (pe_ix ix_tup (pv 4) (pe_int) (fun _ _ => rfl)) (pa_cons (pe_ix ix_tup (pv 4) (pe_int) (fun _ _ => rfl)) (pa_cons (pe_int) (pa_nil)))))))
 (pss_cons (ps_for PassesOwn.never rfl (pi_range1 (by rfl) T.z_range (pa_cons (pv 3) (pa_nil))) (pg_name (i := 6) sc__law_true.nd rfl (by first | exact Or.inl rfl | exact Or.inr rfl)) (pss_cons (ps_set (i := 7) sc__law_true.nd rfl (by first | exact Or.inl rfl | exact Or.inr rfl) (pe_op op_sub (pe_op op_sub (pv 3) (pe_int)) (pv 6)))
 (pss_cons (ps_set (i := 8) sc__law_true.nd rfl (by first | exact Or.inl rfl | exact Or.inr rfl) (pe_ix ix_tup (pv 0) (pv 7) (fun _ _ => rfl)))
 (pss_cons (ps_set (i := 9) sc__law_true.nd rfl (by first | exact Or.inl rfl | exact Or.inr rfl) (pe_ix ix_list (pv 1) (pv 7) (fun _ _ => rfl)))
 (pss_cons (ps_if (pt_val (pe_fld (pv 8) (by rfl))) (pss_cons (ps_set (i := 5) sc__law_true.nd rfl (by first | exact Or.inl rfl | exact Or.inr rfl) (pe_call (ok__law_turned T) (hr.mono (by decide)) (by rfl) T.g__law_turned T.F__law_turned.kp (b__law_turned T) .nil pass0 (pa_cons (pv 5) (pa_cons (pe_fld (pv 8) (by rfl)) (pa_cons (pv 9) (pa_nil))))))
 (pss_nil)) (pss_cons (ps_set (i := 5) sc__law_true.nd rfl (by first | exact Or.inl rfl | exact Or.inr rfl) (pe_lc (own := [("_law_part", 11)]) (g := gName 11) (tt := tYes) rfl sc__law_true.nd (pi_list (pv 5)) (blkOk_by (N := ["_law_joints", "_law_values_here", "_law_offsets_here", "_law_link", "_law_point", "_law_place", "_law_back", "_law_k", "_law_joint_here", "_law_value", "_law_shift", "_law_part", "_law_j"]) (sc := defScope (topS 56)) (by decide +kernel)) (fun _ _ _ _ _ => pg_name (i := 11) sc__law_true.nd rfl (by first | exact Or.inl rfl | exact Or.inr rfl)) (fun _ _ _ _ _ => pts_nil) (fun _ _ _ _ _ => pe_op op_mulG (pv 11) (pe_ix ix_tup (pv 9) (pe_int) (fun _ _ => rfl)))))
 (pss_cons (ps_asg (pe_op op_add (pe_ix ix_list (pv 5) (pe_fld (pv 8) (by rfl)) (fun _ _ => rfl)) (pe_op op_fdivW (pe_op op_mulG (pe_ix ix_tup (pv 9) (pe_int) (fun _ _ => rfl)) (pe_ix ix_list (pv 5) (pe_int) (fun _ _ => rfl))) (pe_ix ix_tup (pv 9) (pe_int) (fun _ _ => rfl)))) (pg_sub (pv 5) (pe_fld (pv 8) (by rfl)) set_list))
 (pss_nil))))
 (pss_cons (ps_set (i := 10) sc__law_true.nd rfl (by first | exact Or.inl rfl | exact Or.inr rfl) (pe_ix ix_list (pv 2) (pv 7) (fun _ _ => rfl)))
 (pss_cons (ps_set (i := 5) sc__law_true.nd rfl (by first | exact Or.inl rfl | exact Or.inr rfl) (pe_op op_catG (pe_lc (own := [("_law_j", 12)]) (g := gName 12) (tt := tYes) rfl sc__law_true.nd (pi_range1 (by rfl) T.z_range (pa_cons (pe_int) (pa_nil))) (blkOk_by (N := ["_law_joints", "_law_values_here", "_law_offsets_here", "_law_link", "_law_point", "_law_place", "_law_back", "_law_k", "_law_joint_here", "_law_value", "_law_shift", "_law_part", "_law_j"]) (sc := defScope (topS 56)) (by decide +kernel)) (fun _ _ _ _ _ => pg_name (i := 12) sc__law_true.nd rfl (by first | exact Or.inl rfl | exact Or.inr rfl)) (fun _ _ _ _ _ => pts_nil) (fun _ _ _ _ _ => pe_op op_add (pe_op op_mulG (pe_ix ix_list (pv 5) (pv 12) (fun _ _ => rfl)) (pe_ix ix_tup (pv 10) (pe_int) (fun _ _ => rfl))) (pe_op op_mulG (pe_ix ix_tup (pv 10) (pv 12) (fun _ _ => rfl)) (pe_ix ix_list (pv 5) (pe_int) (fun _ _ => rfl))))) (pe_lst (pa_cons (pe_op op_mulG (pe_ix ix_list (pv 5) (pe_int) (fun _ _ => rfl)) (pe_ix ix_tup (pv 10) (pe_int) (fun _ _ => rfl))) (pa_nil)))))
 (pss_nil))))))))
 (pss_cons (ps_ret (pv 5))
 (pss_nil))), fun ds d h => by
    obtain ⟨joints, values_here, offsets_here, link, point, r, rfl, h, rfl⟩ := h
    unfold m__law_true at h
    refine ⟨_, List.replicate 13 .un, sm_run (es := [.d (.tup (List.map (d_Joint A) joints)), .d (.lst (List.map (dT2 Dt.int Dt.int) values_here)), .d (.lst (List.map (dT4 Dt.int Dt.int Dt.int Dt.int) offsets_here)), .d (.int link), .d ((dT3 Dt.int Dt.int Dt.int) point), .un, .un, .un, .un, .un, .un, .un, .un]) (oc := fun (r : (List Int)) => .rt (.lst (List.map Dt.int r)) (List.replicate 13 .un)) h ?_, .inl rfl⟩
    exact sm_one <|
sm_as <|
sm_lt fun place1 h_place1 =>
sm_own (es' := [.d (.tup (List.map (d_Joint A) joints)), .d (.lst (List.map (dT2 Dt.int Dt.int) values_here)), .d (.lst (List.map (dT4 Dt.int Dt.int Dt.int Dt.int) offsets_here)), .d (.int link), .d ((dT3 Dt.int Dt.int Dt.int) point), .own none (List.map Dt.int place1), .un, .un, .un, .un, .un, .un, .un]) (el_is (el_lst (ds := List.map Dt.int [point.1, point.2.1, point.2.2, 1]) (ea_cons (ev_ixNG 0 rfl rfl (ev_var (i := 4) rfl) (ev_int)) (ea_cons (ev_ixNG 1 rfl rfl (ev_var (i := 4) rfl) (ev_int)) (ea_cons (ev_ixNG 2 rfl rfl (ev_var (i := 4) rfl) (ev_int)) (ea_cons (ev_int) (ea_nil))))) (by simp)) (congrArg (List.map Dt.int) h_place1)) rfl <|
sm_as <|
sm_bind fun r2 h_r2 =>
sm_seq (env := fun (s : (List Int)) => [.d (.tup (List.map (d_Joint A) joints)), .d (.lst (List.map (dT2 Dt.int Dt.int) values_here)), .d (.lst (List.map (dT4 Dt.int Dt.int Dt.int Dt.int) offsets_here)), .d (.int link), .d ((dT3 Dt.int Dt.int Dt.int) point), .own none (List.map Dt.int s), .un, .un, .un, .un, .un, .un, .un]) (sm_forL (xs := r2) (em := Dt.int) (env := fun (s : (List Int)) => [.d (.tup (List.map (d_Joint A) joints)), .d (.lst (List.map (dT2 Dt.int Dt.int) values_here)), .d (.lst (List.map (dT4 Dt.int Dt.int Dt.int Dt.int) offsets_here)), .d (.int link), .d ((dT3 Dt.int Dt.int Dt.int) point), .own none (List.map Dt.int s), .un, .un, .un, .un, .un, .un, .un]) (en2 := fun (back4 : Int) (s3 : (List Int)) => [.d (.tup (List.map (d_Joint A) joints)), .d (.lst (List.map (dT2 Dt.int Dt.int) values_here)), .d (.lst (List.map (dT4 Dt.int Dt.int Dt.int Dt.int) offsets_here)), .d (.int link), .d ((dT3 Dt.int Dt.int Dt.int) point), .own none (List.map Dt.int s3), .d (.int back4), .un, .un, .un, .un, .un, .un]) (ei_rng1 (ea_cons (ev_var (i := 3) rfl) (ea_nil)) h_r2) (wk_e <| wk_e <| wk_e <| wk_e <| wk_e <| wk_e <| wk_u <| wk_u <| wk_u <| wk_u <| wk_u <| wk_u <| wk_u <| wk_n) (fun back4 s3 => eg_name (vs := [6]) (by simp)) fun back4 s3 h_back4 => sm_one <|
sm_as <|
sm_lt fun k5 h_k5 =>
sm_set (es' := [.d (.tup (List.map (d_Joint A) joints)), .d (.lst (List.map (dT2 Dt.int Dt.int) values_here)), .d (.lst (List.map (dT4 Dt.int Dt.int Dt.int Dt.int) offsets_here)), .d (.int link), .d ((dT3 Dt.int Dt.int Dt.int) point), .own none (List.map Dt.int s3), .d (.int back4), .d (.int k5), .un, .un, .un, .un, .un]) (ev_is (ev_sub (ev_sub (ev_var (i := 3) rfl) (ev_int)) (ev_var (i := 6) rfl)) (congrArg Dt.int h_k5)) rfl <|
sm_as <|
sm_bind fun t6 h_t6 =>
sm_set (es' := [.d (.tup (List.map (d_Joint A) joints)), .d (.lst (List.map (dT2 Dt.int Dt.int) values_here)), .d (.lst (List.map (dT4 Dt.int Dt.int Dt.int Dt.int) offsets_here)), .d (.int link), .d ((dT3 Dt.int Dt.int Dt.int) point), .own none (List.map Dt.int s3), .d (.int back4), .d (.int k5), .d ((d_Joint A) t6), .un, .un, .un, .un]) (ev_ixTC (em := (d_Joint A)) (ev_var (i := 0) rfl) (ev_var (i := 7) rfl) h_t6) rfl <|
sm_as <|
sm_bind fun t7 h_t7 =>
sm_set (es' := [.d (.tup (List.map (d_Joint A) joints)), .d (.lst (List.map (dT2 Dt.int Dt.int) values_here)), .d (.lst (List.map (dT4 Dt.int Dt.int Dt.int Dt.int) offsets_here)), .d (.int link), .d ((dT3 Dt.int Dt.int Dt.int) point), .own none (List.map Dt.int s3), .d (.int back4), .d (.int k5), .d ((d_Joint A) t6), .d ((dT2 Dt.int Dt.int) t7), .un, .un, .un]) (ev_ixLC (em := (dT2 Dt.int Dt.int)) (ev_var (i := 1) rfl) (ev_var (i := 7) rfl) h_t7) rfl <|
sm_as <|
sm_seq (env := fun (s : (List Int)) => [.d (.tup (List.map (d_Joint A) joints)), .d (.lst (List.map (dT2 Dt.int Dt.int) values_here)), .d (.lst (List.map (dT4 Dt.int Dt.int Dt.int Dt.int) offsets_here)), .d (.int link), .d ((dT3 Dt.int Dt.int Dt.int) point), .own none (List.map Dt.int s), .d (.int back4), .d (.int k5), .d ((d_Joint A) t6), .d ((dT2 Dt.int Dt.int) t7), .un, .un, .un]) (sm_one <| sm_if (et_B (ev_fld (ev_var (i := 8) rfl) T.cl_Joint T.n_Joint_turns rfl)) (fun hb =>
sm_as <|
sm_frz (i := 5) (es' := [.d (.tup (List.map (d_Joint A) joints)), .d (.lst (List.map (dT2 Dt.int Dt.int) values_here)), .d (.lst (List.map (dT4 Dt.int Dt.int Dt.int Dt.int) offsets_here)), .d (.int link), .d ((dT3 Dt.int Dt.int Dt.int) point), .d (.lst (List.map Dt.int s3)), .d (.int back4), .d (.int k5), .d ((d_Joint A) t6), .d ((dT2 Dt.int Dt.int) t7), .un, .un, .un]) rfl rfl <|
sm_bind fun t8 h_t8 =>
sm_own (es' := [.d (.tup (List.map (d_Joint A) joints)), .d (.lst (List.map (dT2 Dt.int Dt.int) values_here)), .d (.lst (List.map (dT4 Dt.int Dt.int Dt.int Dt.int) offsets_here)), .d (.int link), .d ((dT3 Dt.int Dt.int Dt.int) point), .own none (List.map Dt.int t8), .d (.int back4), .d (.int k5), .d ((d_Joint A) t6), .d ((dT2 Dt.int Dt.int) t7), .un, .un, .un]) (el_call (ea_cons (ev_var (i := 5) rfl) (ea_cons (ev_fld (ev_var (i := 8) rfl) T.cl_Joint T.n_Joint_axis rfl) (ea_cons (ev_var (i := 9) rfl) (ea_nil)))) ⟨s3, t6.axis, t7, t8, rfl, h_t8, rfl⟩) rfl <|
sm_nil <|
sm_some (sev_nx (wk_e <| wk_e <| wk_e <| wk_e <| wk_e <| wk_e <| wk_e <| wk_e <| wk_e <| wk_e <| wk_u <| wk_u <| wk_u <| wk_n))) (fun hb =>
sm_as <|
sm_frz (i := 5) (es' := [.d (.tup (List.map (d_Joint A) joints)), .d (.lst (List.map (dT2 Dt.int Dt.int) values_here)), .d (.lst (List.map (dT4 Dt.int Dt.int Dt.int Dt.int) offsets_here)), .d (.int link), .d ((dT3 Dt.int Dt.int Dt.int) point), .d (.lst (List.map Dt.int s3)), .d (.int back4), .d (.int k5), .d ((d_Joint A) t6), .d ((dT2 Dt.int Dt.int) t7), .un, .un, .un]) rfl rfl <|
sm_bind fun t12 h_t12 =>
sm_own (es' := [.d (.tup (List.map (d_Joint A) joints)), .d (.lst (List.map (dT2 Dt.int Dt.int) values_here)), .d (.lst (List.map (dT4 Dt.int Dt.int Dt.int Dt.int) offsets_here)), .d (.int link), .d ((dT3 Dt.int Dt.int Dt.int) point), .own none (List.map Dt.int t12), .d (.int back4), .d (.int k5), .d ((d_Joint A) t6), .d ((dT2 Dt.int Dt.int) t7), .un, .un, .un]) (el_map (vs := [11]) (em := Dt.int) (em2 := Dt.int) (en2 := fun (part10 : Int) => [.d (.tup (List.map (d_Joint A) joints)), .d (.lst (List.map (dT2 Dt.int Dt.int) values_here)), .d (.lst (List.map (dT4 Dt.int Dt.int Dt.int Dt.int) offsets_here)), .d (.int link), .d ((dT3 Dt.int Dt.int Dt.int) point), .d (.lst (List.map Dt.int s3)), .d (.int back4), .d (.int k5), .d ((d_Joint A) t6), .d ((dT2 Dt.int Dt.int) t7), .un, .d (.int part10), .un]) (ei_list (ev_var (i := 5) rfl)) (fun part10 => eg_name (vs := [11]) (by simp)) (fun part10 => ev_bnd fun t11 h_t11 => ev_pure (ev_mul (ev_var (i := 11) rfl) (ev_ixNG 1 rfl rfl (ev_var (i := 9) rfl) (ev_int)) h_t11)) rfl h_t12) rfl <|
sm_as <|
sm_bind fun t14 h_t14 =>
sm_bind fun t15 h_t15 =>
sm_bind fun t16 h_t16 =>
sm_bind fun t17 h_t17 =>
sm_bind fun place18 h_place18 =>
sm_setL (i := 5) (es' := [.d (.tup (List.map (d_Joint A) joints)), .d (.lst (List.map (dT2 Dt.int Dt.int) values_here)), .d (.lst (List.map (dT4 Dt.int Dt.int Dt.int Dt.int) offsets_here)), .d (.int link), .d ((dT3 Dt.int Dt.int Dt.int) point), .own none (List.map Dt.int place18), .d (.int back4), .d (.int k5), .d ((d_Joint A) t6), .d ((dT2 Dt.int Dt.int) t7), .un, .un, .un]) (em := Dt.int) rfl (ev_add (ev_ixOC (j := 5) (em := Dt.int) rfl (ev_fld (ev_var (i := 8) rfl) T.cl_Joint T.n_Joint_axis rfl) h_t14) (ev_div (ev_mul (ev_ixNG 0 rfl rfl (ev_var (i := 9) rfl) (ev_int)) (ev_ixOC (j := 5) (em := Dt.int) rfl (ev_int) h_t15) h_t16) (ev_ixNG 1 rfl rfl (ev_var (i := 9) rfl) (ev_int)) h_t17)) (ev_fld (ev_var (i := 8) rfl) T.cl_Joint T.n_Joint_axis rfl) h_place18 rfl <|
sm_nil <|
sm_some (sev_nx (wk_e <| wk_e <| wk_e <| wk_e <| wk_e <| wk_e <| wk_e <| wk_e <| wk_e <| wk_e <| wk_u <| wk_u <| wk_u <| wk_n)))) fun s19 h_s19 =>
sm_as <|
sm_bind fun t20 h_t20 =>
sm_set (es' := [.d (.tup (List.map (d_Joint A) joints)), .d (.lst (List.map (dT2 Dt.int Dt.int) values_here)), .d (.lst (List.map (dT4 Dt.int Dt.int Dt.int Dt.int) offsets_here)), .d (.int link), .d ((dT3 Dt.int Dt.int Dt.int) point), .own none (List.map Dt.int s19), .d (.int back4), .d (.int k5), .d ((d_Joint A) t6), .d ((dT2 Dt.int Dt.int) t7), .d ((dT4 Dt.int Dt.int Dt.int Dt.int) t20), .un, .un]) (ev_ixLC (em := (dT4 Dt.int Dt.int Dt.int Dt.int)) (ev_var (i := 2) rfl) (ev_var (i := 7) rfl) h_t20) rfl <|
sm_as <|
sm_frz (i := 5) (es' := [.d (.tup (List.map (d_Joint A) joints)), .d (.lst (List.map (dT2 Dt.int Dt.int) values_here)), .d (.lst (List.map (dT4 Dt.int Dt.int Dt.int Dt.int) offsets_here)), .d (.int link), .d ((dT3 Dt.int Dt.int Dt.int) point), .d (.lst (List.map Dt.int s19)), .d (.int back4), .d (.int k5), .d ((d_Joint A) t6), .d ((dT2 Dt.int Dt.int) t7), .d ((dT4 Dt.int Dt.int Dt.int Dt.int) t20), .un, .un]) rfl rfl <|
sm_bind fun t22 h_t22 =>
sm_bind fun t23 h_t23 =>
sm_bind fun t24 h_t24 =>
sm_bind fun t25 h_t25 =>
sm_bind fun t26 h_t26 =>
sm_bind fun t27 h_t27 =>
sm_bind fun t28 h_t28 =>
sm_bind fun t29 h_t29 =>
sm_bind fun t30 h_t30 =>
sm_bind fun t31 h_t31 =>
sm_bind fun t32 h_t32 =>
sm_bind fun t33 h_t33 =>
sm_bind fun t34 h_t34 =>
sm_bind fun t35 h_t35 =>
sm_bind fun t36 h_t36 =>
sm_own (es' := [.d (.tup (List.map (d_Joint A) joints)), .d (.lst (List.map (dT2 Dt.int Dt.int) values_here)), .d (.lst (List.map (dT4 Dt.int Dt.int Dt.int Dt.int) offsets_here)), .d (.int link), .d ((dT3 Dt.int Dt.int Dt.int) point), .own none (List.map Dt.int t36), .d (.int back4), .d (.int k5), .d ((d_Joint A) t6), .d ((dT2 Dt.int Dt.int) t7), .d ((dT4 Dt.int Dt.int Dt.int Dt.int) t20), .un, .un]) (el_cat (em := Dt.int) (xs := [t23 + t25, t27 + t29, t31 + t33]) (ys := [t35]) (ev_new (el_fix (vs := [12]) (xs := [0, 1, 2]) (em := Dt.int) (ds := [Dt.int (t23 + t25), Dt.int (t27 + t29), Dt.int (t31 + t33)]) (en2 := fun (j21 : Int) => [.d (.tup (List.map (d_Joint A) joints)), .d (.lst (List.map (dT2 Dt.int Dt.int) values_here)), .d (.lst (List.map (dT4 Dt.int Dt.int Dt.int Dt.int) offsets_here)), .d (.int link), .d ((dT3 Dt.int Dt.int Dt.int) point), .d (.lst (List.map Dt.int s19)), .d (.int back4), .d (.int k5), .d ((d_Joint A) t6), .d ((dT2 Dt.int Dt.int) t7), .d ((dT4 Dt.int Dt.int Dt.int Dt.int) t20), .un, .d (.int j21)]) (ei_rng1 (xs := [0, 1, 2]) (ea_cons (ev_int) (ea_nil)) (by decide)) (by simp) (fun j21 => eg_name (vs := [12]) (by simp)) (ae_c (ev_add (ev_mul (ev_ixLC (em := Dt.int) (ev_var (i := 5) rfl) (ev_var (i := 12) rfl) h_t22) (ev_ixNG 3 rfl rfl (ev_var (i := 10) rfl) (ev_int)) h_t23) (ev_mul (ev_ixNG 0 rfl rfl (ev_var (i := 10) rfl) (ev_var (i := 12) rfl)) (ev_ixLC (em := Dt.int) (ev_var (i := 5) rfl) (ev_int) h_t24) h_t25)) <| ae_c (ev_add (ev_mul (ev_ixLC (em := Dt.int) (ev_var (i := 5) rfl) (ev_var (i := 12) rfl) h_t26) (ev_ixNG 3 rfl rfl (ev_var (i := 10) rfl) (ev_int)) h_t27) (ev_mul (ev_ixNG 1 rfl rfl (ev_var (i := 10) rfl) (ev_var (i := 12) rfl)) (ev_ixLC (em := Dt.int) (ev_var (i := 5) rfl) (ev_int) h_t28) h_t29)) <| ae_c (ev_add (ev_mul (ev_ixLC (em := Dt.int) (ev_var (i := 5) rfl) (ev_var (i := 12) rfl) h_t30) (ev_ixNG 3 rfl rfl (ev_var (i := 10) rfl) (ev_int)) h_t31) (ev_mul (ev_ixNG 2 rfl rfl (ev_var (i := 10) rfl) (ev_var (i := 12) rfl)) (ev_ixLC (em := Dt.int) (ev_var (i := 5) rfl) (ev_int) h_t32) h_t33)) <| ae_n) rfl)) (ev_new (el_lst (ea_cons (ev_mul (ev_ixLC (em := Dt.int) (ev_var (i := 5) rfl) (ev_int) h_t34) (ev_ixNG 3 rfl rfl (ev_var (i := 10) rfl) (ev_int)) h_t35) (ea_nil)) (by simp))) h_t36) rfl <|
sm_nil <|
sm_some (sev_go (wk_e <| wk_e <| wk_e <| wk_e <| wk_e <| wk_e <| wk_u <| wk_u <| wk_u <| wk_u <| wk_u <| wk_u <| wk_u <| wk_n))) fun s38 h_s38 =>
sm_as <|
sm_frz (i := 5) (es' := [.d (.tup (List.map (d_Joint A) joints)), .d (.lst (List.map (dT2 Dt.int Dt.int) values_here)), .d (.lst (List.map (dT4 Dt.int Dt.int Dt.int Dt.int) offsets_here)), .d (.int link), .d ((dT3 Dt.int Dt.int Dt.int) point), .d (.lst (List.map Dt.int s38)), .un, .un, .un, .un, .un, .un, .un]) rfl rfl <|
sm_some (sev_rt (ev_var (i := 5) rfl) (wk_uns rfl))⟩
theorem sc__law_true_line : FnScope ["_law_mover_here", "_law_part", "_law_row", "_law_at", "_law_joints", "_law_values_here", "_law_offsets_here", "_law_link", "_law_body", "_law_one", "_law_two"] ["_law_mover_here", "_law_part", "_law_row", "_law_at"] (defScope (topS 59)) := ⟨rfl, rfl, rfl, by decide +kernel, rfl, by decide +kernel, by decide +kernel⟩
theorem b__law_true_line (T : Top P K mg A) : Binds K A.d__law_true_line ["_law_mover_here", "_law_part", "_law_row", "_law_at"] [] := T.F__law_true_line.binds (ps := ["_law_mover_here", "_law_part", "_law_row", "_law_at"]) fun _ _ _ _ _ _ us hl => match us, hl with | [_, _, _, _], _ => rfl
def P__law_true_line (A : Ads) (ds : List Dt) (d : Dt) : Prop := ∃ (mover_here : Mover) (part : (Int × Int)) (row : Int) (at_ : Int) (r : ((List Int) × (List Int))), ds = [(d_Mover A) mover_here, (dT2 Dt.int Dt.int) part, .int row, .int at_] ∧ m__law_true_line mover_here part row at_ = some r ∧ d = (dT2 (dL Dt.int) (dL Dt.int)) r
set_option maxHeartbeats 4000000 in
theorem ok__law_true_line (T : Top P K mg A) : FnOk P w K mg base CX0 3 A.f__law_true_line A.d__law_true_line ["_law_mover_here", "_law_part", "_law_row", "_law_at"] (FSpec K (RD (P__law_true_line A))) :=
  fn_D T.F__law_true_line sc__law_true_line (fun ds d h => by obtain ⟨mover_here, part, row, at_, r, rfl, _, _⟩ := h; rfl) fun cdv A1 outer s H E hr => ⟨_, pss_cons (ps_set (i := 4) sc__law_true_line.nd rfl (by first | exact Or.inl rfl | exact Or.inr rfl) (pe_fld (pe_fld (pv 0) (by rfl)) (by rfl)))
 (pss_cons (ps_set (i := 5) sc__law_true_line.nd rfl (by first | exact Or.inl rfl | exact Or.inr rfl) (pe_call (ok__law_meant T) (hr.mono (by decide)) (by rfl) T.g__law_meant T.F__law_meant.kp (b__law_meant T) .nil pass0 (pa_cons (pv 4) (pa_cons (pe_fld (pe_fld (pv 0) (by rfl)) (by rfl)) (pa_cons (pe_fld (pe_fld (pv 0) (by rfl)) (by rfl)) (pa_cons (pv 1) (pa_cons (pv 2) (pa_nil))))))))
 (pss_cons (ps_set (i := 6) sc__law_true_line.nd rfl (by first | exact Or.inl rfl | exact Or.inr rfl) (pe_call (ok__law_offsets T) (hr.mono (by decide)) (by rfl) T.g__law_offsets T.F__law_offsets.kp (b__law_offsets T) .nil pass0 (pa_cons (pv 4) (pa_cons (pe_op op_fdivW (pv 2) (pe_int)) (pa_nil)))))
 (pss_cons (ps_asg (pe_ix ix_list (pe_meth0 (pv 0) T.cl_Mover T.m_Mover_bodies (ok_Mover_bodies T) (hr.mono (by decide)) (b_Mover_bodies T) .nil pass0) (pv 3) (fun _ _ => rfl)) (pg_tup rfl (pgs_cons (pg_name (i := 7) sc__law_true_line.nd rfl (by first | exact Or.inl rfl | exact Or.inr rfl)) (pgs_cons (pg_name (i := 8) sc__law_true_line.nd rfl (by first | exact Or.inl rfl | exact Or.inr rfl)) (pgs_nil)))))
 (pss_cons (ps_set (i := 9) sc__law_true_line.nd rfl (by first | exact Or.inl rfl | exact Or.inr rfl) (pe_call (ok__law_true T) (hr.mono (by decide)) (by rfl) T.g__law_true T.F__law_true.kp (b__law_true T) .nil pass0 (pa_cons (pv 4) (pa_cons (pv 5) (pa_cons (pv 6) (pa_cons (pv 7) (pa_cons (pe_fld (pv 8) (by rfl)) (pa_nil))))))))
 (pss_cons (ps_set (i := 10) sc__law_true_line.nd rfl (by first | exact Or.inl rfl | exact Or.inr rfl) (pe_call (ok__law_true T) (hr.mono (by decide)) (by rfl) T.g__law_true T.F__law_true.kp (b__law_true T) .nil pass0 (pa_cons (pv 4) (pa_cons (pv 5) (pa_cons (pv 6) (pa_cons (pv 7) (pa_cons (pe_fld (pv 8) (by rfl)) (pa_nil))))))))
 (pss_cons (ps_ret (pe_tup (pa_cons (pv 9) (pa_cons (pv 10) (pa_nil)))))
 (pss_nil))))))), fun ds d h => by
    obtain ⟨mover_here, part, row, at_, r, rfl, h, rfl⟩ := h
    unfold m__law_true_line at h
    refine ⟨_, List.replicate 11 .un, sm_run (es := [.d ((d_Mover A) mover_here), .d ((dT2 Dt.int Dt.int) part), .d (.int row), .d (.int at_), .un, .un, .un, .un, .un, .un, .un]) (oc := fun (r : ((List Int) × (List Int))) => .rt ((dT2 (dL Dt.int) (dL Dt.int)) r) (List.replicate 11 .un)) h ?_, .inl rfl⟩
    exact sm_one <|
sm_as <|
sm_lt fun joints1 h_joints1 =>
sm_set (es' := [.d ((d_Mover A) mover_here), .d ((dT2 Dt.int Dt.int) part), .d (.int row), .d (.int at_), .d (.tup (List.map (d_Joint A) joints1)), .un, .un, .un, .un, .un, .un]) (ev_is (ev_fld (ev_fld (ev_var (i := 0) rfl) T.cl_Mover T.n_Mover_arm rfl) T.cl_Arm T.n_Arm_joints rfl) (congrArg (dV (d_Joint A)) h_joints1)) rfl <|
sm_as <|
sm_bind fun t2 h_t2 =>
sm_set (es' := [.d ((d_Mover A) mover_here), .d ((dT2 Dt.int Dt.int) part), .d (.int row), .d (.int at_), .d (.tup (List.map (d_Joint A) joints1)), .d (.lst (List.map (dT2 Dt.int Dt.int) t2)), .un, .un, .un, .un, .un]) (ev_call (ea_cons (ev_var (i := 4) rfl) (ea_cons (ev_fld (ev_fld (ev_var (i := 0) rfl) T.cl_Mover T.n_Mover_move rfl) T.cl_Move T.n_Move_first rfl) (ea_cons (ev_fld (ev_fld (ev_var (i := 0) rfl) T.cl_Mover T.n_Mover_move rfl) T.cl_Move T.n_Move_last rfl) (ea_cons (ev_var (i := 1) rfl) (ea_cons (ev_var (i := 2) rfl) (ea_nil)))))) ⟨joints1, mover_here.move.first, mover_here.move.last, part, row, t2, rfl, h_t2, rfl⟩) rfl <|
sm_as <|
sm_bind fun t3 h_t3 =>
sm_bind fun t4 h_t4 =>
sm_set (es' := [.d ((d_Mover A) mover_here), .d ((dT2 Dt.int Dt.int) part), .d (.int row), .d (.int at_), .d (.tup (List.map (d_Joint A) joints1)), .d (.lst (List.map (dT2 Dt.int Dt.int) t2)), .d (.lst (List.map (dT4 Dt.int Dt.int Dt.int Dt.int) t4)), .un, .un, .un, .un]) (ev_call (ea_cons (ev_var (i := 4) rfl) (ea_cons (ev_div (ev_var (i := 2) rfl) (ev_int) h_t3) (ea_nil))) ⟨joints1, t3, t4, rfl, h_t4, rfl⟩) rfl <|
sm_as <|
sm_bind fun t5 h_t5 =>
sm_bind fun t6 h_t6 =>
sm_asgG (es' := [.d ((d_Mover A) mover_here), .d ((dT2 Dt.int Dt.int) part), .d (.int row), .d (.int at_), .d (.tup (List.map (d_Joint A) joints1)), .d (.lst (List.map (dT2 Dt.int Dt.int) t2)), .d (.lst (List.map (dT4 Dt.int Dt.int Dt.int Dt.int) t4)), .d (.int t6.1), .d ((d_Body A) t6.2), .un, .un]) (ev_ixLC (em := (dT2 Dt.int (d_Body A))) (ev_meth (ev_var (i := 0) rfl) rfl (ea_nil) ⟨mover_here, t5, rfl, h_t5, rfl⟩) (ev_var (i := 3) rfl) h_t6) (eg_tup (egs_cons (eg_name (vs := [7, 8]) (by simp)) (egs_cons (eg_name (vs := [7, 8]) (by simp)) (egs_nil))) rfl) <|
sm_as <|
sm_bind fun t7 h_t7 =>
sm_set (es' := [.d ((d_Mover A) mover_here), .d ((dT2 Dt.int Dt.int) part), .d (.int row), .d (.int at_), .d (.tup (List.map (d_Joint A) joints1)), .d (.lst (List.map (dT2 Dt.int Dt.int) t2)), .d (.lst (List.map (dT4 Dt.int Dt.int Dt.int Dt.int) t4)), .d (.int t6.1), .d ((d_Body A) t6.2), .d (.lst (List.map Dt.int t7)), .un]) (ev_call (ea_cons (ev_var (i := 4) rfl) (ea_cons (ev_var (i := 5) rfl) (ea_cons (ev_var (i := 6) rfl) (ea_cons (ev_var (i := 7) rfl) (ea_cons (ev_fld (ev_var (i := 8) rfl) T.cl_Body T.n_Body_first rfl) (ea_nil)))))) ⟨joints1, t2, t4, t6.1, t6.2.first, t7, rfl, h_t7, rfl⟩) rfl <|
sm_as <|
sm_bind fun t8 h_t8 =>
sm_set (es' := [.d ((d_Mover A) mover_here), .d ((dT2 Dt.int Dt.int) part), .d (.int row), .d (.int at_), .d (.tup (List.map (d_Joint A) joints1)), .d (.lst (List.map (dT2 Dt.int Dt.int) t2)), .d (.lst (List.map (dT4 Dt.int Dt.int Dt.int Dt.int) t4)), .d (.int t6.1), .d ((d_Body A) t6.2), .d (.lst (List.map Dt.int t7)), .d (.lst (List.map Dt.int t8))]) (ev_call (ea_cons (ev_var (i := 4) rfl) (ea_cons (ev_var (i := 5) rfl) (ea_cons (ev_var (i := 6) rfl) (ea_cons (ev_var (i := 7) rfl) (ea_cons (ev_fld (ev_var (i := 8) rfl) T.cl_Body T.n_Body_last rfl) (ea_nil)))))) ⟨joints1, t2, t4, t6.1, t6.2.last, t8, rfl, h_t8, rfl⟩) rfl <|
sm_as <|
sm_some (sev_rt (ev_tup (ea_cons (ev_var (i := 9) rfl) (ea_cons (ev_var (i := 10) rfl) (ea_nil))) (by simp)) (wk_uns rfl))⟩
theorem sc__law_mix : FnScope ["_law_line", "_law_over", "_law_under", "_law_one", "_law_two", "_law_place", "_law_k"] ["_law_line", "_law_over", "_law_under"] (defScope (topS 60)) := ⟨rfl, rfl, rfl, by decide +kernel, rfl, by decide +kernel, by decide +kernel⟩
theorem b__law_mix (T : Top P K mg A) : Binds K A.d__law_mix ["_law_line", "_law_over", "_law_under"] [] := T.F__law_mix.binds (ps := ["_law_line", "_law_over", "_law_under"]) fun _ _ _ _ _ _ us hl => match us, hl with | [_, _, _], _ => rfl
def P__law_mix (A : Ads) (ds : List Dt) (d : Dt) : Prop := ∃ (line : ((List Int) × (List Int))) (over : Int) (under : Int) (r : (Int × Int × Int × Int)), ds = [(dT2 (dL Dt.int) (dL Dt.int)) line, .int over, .int under] ∧ m__law_mix line over under = some r ∧ d = (dF4 Dt.int Dt.int Dt.int Dt.int) r
set_option maxHeartbeats 4000000 in
theorem ok__law_mix (T : Top P K mg A) : FnOk P w K mg base CX0 1 A.f__law_mix A.d__law_mix ["_law_line", "_law_over", "_law_under"] (FSpec K (RD (P__law_mix A))) :=
  fn_D T.F__law_mix sc__law_mix (fun ds d h => by obtain ⟨line, over, under, r, rfl, _, _⟩ := h; rfl) fun cdv A1 outer s H E hr => ⟨_, pss_cons (ps_set (i := 3) sc__law_mix.nd rfl (by first | exact Or.inl rfl | exact Or.inr rfl) (pe_ix ix_tup (pv 0) (pe_int) (fun _ _ => rfl)))
 (pss_cons (ps_set (i := 4) sc__law_mix.nd rfl (by first | exact Or.inl rfl | exact Or.inr rfl) (pe_ix ix_tup (pv 0) (pe_int) (fun _ _ => rfl)))
 (pss_cons (ps_setLc (i := 5) (own := [("_law_k", 6)]) (g := gName 6) (tt := tYes) rfl sc__law_mix.nd rfl rfl (sw_true rfl rfl rfl (by decide +kernel)) (pi_range1 (by rfl) T.z_range (pa_cons (pe_int) (pa_nil))) (blkOk_by (N := ["_law_line", "_law_over", "_law_under", "_law_one", "_law_two", "_law_place", "_law_k"]) (sc := defScope (topS 60)) (by decide +kernel)) (fun _ _ _ _ _ => pg_name (i := 6) sc__law_mix.nd rfl (by first | exact Or.inl rfl | exact Or.inr rfl)) (fun _ _ _ _ _ => pts_nil) (fun _ _ _ _ _ => pe_op op_add (pe_op op_mulG (pe_op op_mulG (pe_ix ix_list (pv 3) (pv 6) (fun _ _ => rfl)) (pe_ix ix_list (pv 4) (pe_int) (fun _ _ => rfl))) (pe_op op_sub (pv 2) (pv 1))) (pe_op op_mulG (pe_op op_mulG (pe_ix ix_list (pv 4) (pv 6) (fun _ _ => rfl)) (pe_ix ix_list (pv 3) (pe_int) (fun _ _ => rfl))) (pv 1))))
 (pss_cons (ps_ret (pe_op op_catG (pv 5) (pe_lst (pa_cons (pe_op op_mulG (pe_op op_mulG (pe_ix ix_list (pv 3) (pe_int) (fun _ _ => rfl)) (pe_ix ix_list (pv 4) (pe_int) (fun _ _ => rfl))) (pv 2)) (pa_nil)))))
 (pss_nil)))), fun ds d h => by
    obtain ⟨line, over, under, r, rfl, h, rfl⟩ := h
    unfold m__law_mix at h
    refine ⟨_, List.replicate 7 .un, sm_run (es := [.d ((dT2 (dL Dt.int) (dL Dt.int)) line), .d (.int over), .d (.int under), .un, .un, .un, .un]) (oc := fun (r : (Int × Int × Int × Int)) => .rt ((dF4 Dt.int Dt.int Dt.int Dt.int) r) (List.replicate 7 .un)) h ?_, .inl rfl⟩
    exact sm_one <|
sm_as <|
sm_lt fun one1 h_one1 =>
sm_set (es' := [.d ((dT2 (dL Dt.int) (dL Dt.int)) line), .d (.int over), .d (.int under), .d (.lst (List.map Dt.int one1)), .un, .un, .un]) (ev_is (ev_ixNG 0 rfl rfl (ev_var (i := 0) rfl) (ev_int)) (congrArg (dL Dt.int) h_one1)) rfl <|
sm_as <|
sm_lt fun two2 h_two2 =>
sm_set (es' := [.d ((dT2 (dL Dt.int) (dL Dt.int)) line), .d (.int over), .d (.int under), .d (.lst (List.map Dt.int one1)), .d (.lst (List.map Dt.int two2)), .un, .un]) (ev_is (ev_ixNG 1 rfl rfl (ev_var (i := 0) rfl) (ev_int)) (congrArg (dL Dt.int) h_two2)) rfl <|
sm_as <|
sm_bind fun t4 h_t4 =>
sm_bind fun t5 h_t5 =>
sm_bind fun t6 h_t6 =>
sm_bind fun t7 h_t7 =>
sm_bind fun t8 h_t8 =>
sm_bind fun t9 h_t9 =>
sm_bind fun t10 h_t10 =>
sm_bind fun t11 h_t11 =>
sm_bind fun t12 h_t12 =>
sm_bind fun t13 h_t13 =>
sm_bind fun t14 h_t14 =>
sm_bind fun t15 h_t15 =>
sm_bind fun t16 h_t16 =>
sm_bind fun t17 h_t17 =>
sm_bind fun t18 h_t18 =>
sm_bind fun t19 h_t19 =>
sm_bind fun t20 h_t20 =>
sm_bind fun t21 h_t21 =>
sm_bind fun t22 h_t22 =>
sm_bind fun t23 h_t23 =>
sm_bind fun t24 h_t24 =>
sm_bind fun t25 h_t25 =>
sm_bind fun t26 h_t26 =>
sm_bind fun t27 h_t27 =>
sm_lt fun place28 h_place28 =>
sm_set (es' := [.d ((dT2 (dL Dt.int) (dL Dt.int)) line), .d (.int over), .d (.int under), .d (.lst (List.map Dt.int one1)), .d (.lst (List.map Dt.int two2)), .d ((dF3 Dt.int Dt.int Dt.int) place28), .un]) (ev_is (ev_new (el_fix (vs := [6]) (xs := [0, 1, 2]) (em := Dt.int) (ds := [Dt.int (t7 + t11), Dt.int (t15 + t19), Dt.int (t23 + t27)]) (en2 := fun (k3 : Int) => [.d ((dT2 (dL Dt.int) (dL Dt.int)) line), .d (.int over), .d (.int under), .d (.lst (List.map Dt.int one1)), .d (.lst (List.map Dt.int two2)), .un, .d (.int k3)]) (ei_rng1 (xs := [0, 1, 2]) (ea_cons (ev_int) (ea_nil)) (by decide)) (by simp) (fun k3 => eg_name (vs := [6]) (by simp)) (ae_c (ev_add (ev_mul (ev_mul (ev_ixLC (em := Dt.int) (ev_var (i := 3) rfl) (ev_var (i := 6) rfl) h_t4) (ev_ixLC (em := Dt.int) (ev_var (i := 4) rfl) (ev_int) h_t5) h_t6) (ev_sub (ev_var (i := 2) rfl) (ev_var (i := 1) rfl)) h_t7) (ev_mul (ev_mul (ev_ixLC (em := Dt.int) (ev_var (i := 4) rfl) (ev_var (i := 6) rfl) h_t8) (ev_ixLC (em := Dt.int) (ev_var (i := 3) rfl) (ev_int) h_t9) h_t10) (ev_var (i := 1) rfl) h_t11)) <| ae_c (ev_add (ev_mul (ev_mul (ev_ixLC (em := Dt.int) (ev_var (i := 3) rfl) (ev_var (i := 6) rfl) h_t12) (ev_ixLC (em := Dt.int) (ev_var (i := 4) rfl) (ev_int) h_t13) h_t14) (ev_sub (ev_var (i := 2) rfl) (ev_var (i := 1) rfl)) h_t15) (ev_mul (ev_mul (ev_ixLC (em := Dt.int) (ev_var (i := 4) rfl) (ev_var (i := 6) rfl) h_t16) (ev_ixLC (em := Dt.int) (ev_var (i := 3) rfl) (ev_int) h_t17) h_t18) (ev_var (i := 1) rfl) h_t19)) <| ae_c (ev_add (ev_mul (ev_mul (ev_ixLC (em := Dt.int) (ev_var (i := 3) rfl) (ev_var (i := 6) rfl) h_t20) (ev_ixLC (em := Dt.int) (ev_var (i := 4) rfl) (ev_int) h_t21) h_t22) (ev_sub (ev_var (i := 2) rfl) (ev_var (i := 1) rfl)) h_t23) (ev_mul (ev_mul (ev_ixLC (em := Dt.int) (ev_var (i := 4) rfl) (ev_var (i := 6) rfl) h_t24) (ev_ixLC (em := Dt.int) (ev_var (i := 3) rfl) (ev_int) h_t25) h_t26) (ev_var (i := 1) rfl) h_t27)) <| ae_n) rfl)) (congrArg (dF3 Dt.int Dt.int Dt.int) h_place28)) rfl <|
sm_as <|
sm_bind fun t29 h_t29 =>
sm_bind fun t30 h_t30 =>
sm_bind fun t31 h_t31 =>
sm_bind fun t32 h_t32 =>
sm_some (sev_rt (ev_new (el_is (ds' := [.int place28.1, .int place28.2.1, .int place28.2.2, .int t32]) (el_catD (d1 := [.int place28.1, .int place28.2.1, .int place28.2.2]) (d2 := [.int t32]) (ev_var (i := 5) rfl) (ev_new (el_lst (ea_cons (ev_mul (ev_mul (ev_ixLC (em := Dt.int) (ev_var (i := 3) rfl) (ev_int) h_t29) (ev_ixLC (em := Dt.int) (ev_var (i := 4) rfl) (ev_int) h_t30) h_t31) (ev_var (i := 2) rfl) h_t32) (ea_nil)) (by simp))) (by simp)) rfl)) (wk_uns rfl))⟩
def P__law_dot_2 (A : Ads) (ds : List Dt) (d : Dt) : Prop := ∃ (one : (Int × Int × Int)) (two : (Int × Int × Int × Int)) (r : Int), ds = [(dT3 Dt.int Dt.int Dt.int) one, (dF4 Dt.int Dt.int Dt.int Dt.int) two] ∧ m__law_dot_2 one two = some r ∧ d = .int r
set_option maxHeartbeats 4000000 in
theorem ok__law_dot_2 (T : Top P K mg A) : FnOk P w K mg base CX0 1 A.f__law_dot A.d__law_dot ["_law_one", "_law_two"] (FSpec K (RD (P__law_dot_2 A))) :=
  fn_D T.F__law_dot sc__law_dot (fun ds d h => by obtain ⟨one, two, r, rfl, _, _⟩ := h; rfl) fun cdv A1 outer s H E hr => ⟨_, pss_cons (ps_ret (pe_op op_add (pe_op op_add (pe_op op_mulG (pe_ix ix_tup (pv 0) (pe_int) (fun _ _ => rfl)) (pe_ix ix_list (pv 1) (pe_int) (fun _ _ => rfl))) (pe_op op_mulG (pe_ix ix_tup (pv 0) (pe_int) (fun _ _ => rfl)) (pe_ix ix_list (pv 1) (pe_int) (fun _ _ => rfl)))) (pe_op op_mulG (pe_ix ix_tup (pv 0) (pe_int) (fun _ _ => rfl)) (pe_ix ix_list (pv 1) (pe_int) (fun _ _ => rfl)))))
 (pss_nil), fun ds d h => by
    obtain ⟨one, two, r, rfl, h, rfl⟩ := h
    unfold m__law_dot_2 at h
    refine ⟨_, List.replicate 2 .un, sm_run (es := [.d ((dT3 Dt.int Dt.int Dt.int) one), .d ((dF4 Dt.int Dt.int Dt.int Dt.int) two)]) (oc := fun (r : Int) => .rt (.int r) (List.replicate 2 .un)) h ?_, .inl rfl⟩
    exact sm_one <|
sm_as <|
sm_bind fun t1 h_t1 =>
sm_bind fun t2 h_t2 =>
sm_bind fun t3 h_t3 =>
sm_some (sev_rt (ev_add (ev_add (ev_mul (ev_ixNG 0 rfl rfl (ev_var (i := 0) rfl) (ev_int)) (ev_ixLG 0 rfl rfl (ev_var (i := 1) rfl) (ev_int)) h_t1) (ev_mul (ev_ixNG 1 rfl rfl (ev_var (i := 0) rfl) (ev_int)) (ev_ixLG 1 rfl rfl (ev_var (i := 1) rfl) (ev_int)) h_t2)) (ev_mul (ev_ixNG 2 rfl rfl (ev_var (i := 0) rfl) (ev_int)) (ev_ixLG 2 rfl rfl (ev_var (i := 1) rfl) (ev_int)) h_t3)) (wk_uns rfl))⟩
def P_Arm_init_2 (A : Ads) (ds : List Dt) (fs : List (Str × Dt)) : Prop := ∃ (joints : (List Joint)) (capsules : (List Capsule)) (beside : (List (Int × Int))) (r : Arm), ds = [.tup (List.map (d_Joint A) joints), .lst (List.map (d_Capsule A) capsules), .tup (List.map (dT2 Dt.int Dt.int) beside)] ∧ m_Arm_init_2 joints capsules beside = some r ∧ fs = [(("joints" : Str), .tup (List.map (d_Joint A) r.joints)), (("capsules" : Str), .tup (List.map (d_Capsule A) r.capsules)), (("beside" : Str), .tup (List.map (dT2 Dt.int Dt.int) r.beside))]
set_option maxHeartbeats 4000000 in
theorem ok_Arm_init_2 (T : Top P K mg A) : FnOk P w K mg base CX0 1 A.f_Arm_init A.d_Arm_init ["self", "joints", "capsules", "beside"] (FSpec K (RI A.c_Arm (P_Arm_init_2 A))) :=
  fn_I T.F_Arm_init sc_Arm_init (fun ds fs h => by obtain ⟨joints, capsules, beside, r, rfl, _, _⟩ := h; rfl) fun cdv A1 outer s H E hr => ⟨_, pss_cons (ps_if (pt_not (pt_chain op_le op_le (pe_int) (pe_callB cr_lenS (by rfl) T.z_len bt_len (pa_cons (pv 1) (pa_nil))) (pe_glob (v := .int 6) (by rfl) T.g_MOST_JOINTS.choose_spec ⟨_, rfl⟩))) (pss_cons (ps_never)
 (pss_nil)) (pss_nil))
 (pss_cons (ps_if (pt_cmpR op_gt (pe_callB cr_lenS (by rfl) T.z_len bt_len (pa_cons (pv 2) (pa_nil))) (pe_glob (v := .int 8) (by rfl) T.g_MOST_CAPSULES.choose_spec ⟨_, rfl⟩) (nomark _)) (pss_cons (ps_never)
 (pss_nil)) (pss_nil))
 (pss_cons (ps_for PassesOwn.never rfl (pi_list (pv 2)) (pg_name (i := 4) sc_Arm_init.nd rfl (by first | exact Or.inl rfl | exact Or.inr rfl)) (pss_cons (ps_if (pt_not (pt_chain op_le op_le (pe_int) (pe_fld (pv 4) (by rfl)) (pe_callB cr_lenS (by rfl) T.z_len bt_len (pa_cons (pv 1) (pa_nil))))) (pss_cons (ps_never)
 (pss_nil)) (pss_nil))
 (pss_nil)))
 (pss_cons (ps_for PassesOwn.never rfl (pi_tup (pv 3)) (pg_name (i := 5) sc_Arm_init.nd rfl (by first | exact Or.inl rfl | exact Or.inr rfl)) (pss_cons (ps_if (pt_not (pt_chain3 op_le op_lt op_lt (pe_int) (pe_ix ix_tup (pv 5) (pe_int) (fun _ _ => rfl)) (pe_ix ix_tup (pv 5) (pe_int) (fun _ _ => rfl)) (pe_callB cr_lenS (by rfl) T.z_len bt_len (pa_cons (pv 2) (pa_nil))))) (pss_cons (ps_never)
 (pss_nil)) (pss_nil))
 (pss_nil)))
 (pss_cons (ps_fld (pv 0) (pe_callTy cr_tupS (by rfl) T.z_tuple bt_tuple (pa_cons (pv 1) (pa_nil))) rfl)
 (pss_cons (ps_fld (pv 0) (pe_callTy cr_tupS (by rfl) T.z_tuple bt_tuple (pa_cons (pv 2) (pa_nil))) rfl)
 (pss_cons (ps_fld (pv 0) (pe_callTy cr_tupS (by rfl) T.z_tuple bt_tuple (pa_cons (pe_lc (own := [("pair", 5)]) (g := gName 5) (tt := tYes) rfl sc_Arm_init.nd (pi_tup (pv 3)) (blkOk_by (N := ["self", "joints", "capsules", "beside", "capsule", "pair"]) (sc := defScope (inClass (topS 39) 0)) (by decide +kernel)) (fun _ _ _ _ _ => pg_name (i := 5) sc_Arm_init.nd rfl (by first | exact Or.inl rfl | exact Or.inr rfl)) (fun _ _ _ _ _ => pts_nil) (fun _ _ _ _ _ => pe_callTy cr_tupS (by rfl) T.z_tuple bt_tuple (pa_cons (pv 5) (pa_nil)))) (pa_nil))) rfl)
 (pss_nil))))))), fun p ds fs h => by
    obtain ⟨joints, capsules, beside, r, rfl, h, rfl⟩ := h
    unfold m_Arm_init_2 at h
    refine ⟨_, List.replicate 5 .un, sm_run (es := [.obo (some p) A.c_Arm [], .d (.tup (List.map (d_Joint A) joints)), .d (.lst (List.map (d_Capsule A) capsules)), .d (.tup (List.map (dT2 Dt.int Dt.int) beside)), .un, .un]) (oc := fun (r : Arm) => .nx (.obo (some p) A.c_Arm [(("joints" : Str), .tup (List.map (d_Joint A) r.joints)), (("capsules" : Str), .tup (List.map (d_Capsule A) r.capsules)), (("beside" : Str), .tup (List.map (dT2 Dt.int Dt.int) r.beside))] :: List.replicate 5 .un)) h ?_, .inr ⟨rfl, rfl⟩⟩
    exact sm_one <|
sm_as <|
sm_if (et_not (et_test (ev_chain (ev_int) (ev_lenVm (ev_var (i := 1) rfl)) c_le (fun _ => ev_int) (fun _ => c_le)))) (fun hb =>
sm_as <|
sm_none) (fun hb =>
sm_nil <|
sm_as <|
sm_if (et_test (ev_gt (ev_lenLm (ev_var (i := 2) rfl)) (ev_int))) (fun hb =>
sm_as <|
sm_none) (fun hb =>
sm_nil <|
sm_as <|
sm_seq (env := fun (s : Unit) => [.obo (some p) A.c_Arm [], .d (.tup (List.map (d_Joint A) joints)), .d (.lst (List.map (d_Capsule A) capsules)), .d (.tup (List.map (dT2 Dt.int Dt.int) beside)), .un, .un]) (sm_forL (xs := capsules) (em := (d_Capsule A)) (env := fun (s : Unit) => [.obo (some p) A.c_Arm [], .d (.tup (List.map (d_Joint A) joints)), .d (.lst (List.map (d_Capsule A) capsules)), .d (.tup (List.map (dT2 Dt.int Dt.int) beside)), .un, .un]) (en2 := fun (capsule2 : Capsule) (s1 : Unit) => [.obo (some p) A.c_Arm [], .d (.tup (List.map (d_Joint A) joints)), .d (.lst (List.map (d_Capsule A) capsules)), .d (.tup (List.map (dT2 Dt.int Dt.int) beside)), .d ((d_Capsule A) capsule2), .un]) (ei_list (ev_var (i := 2) rfl)) (wk_e <| wk_e <| wk_e <| wk_e <| wk_u <| wk_u <| wk_n) (fun capsule2 s1 => eg_name (vs := [4]) (by simp)) fun capsule2 s1 h_capsule2 => sm_one <|
sm_as <|
sm_if (et_not (et_test (ev_chain (ev_int) (ev_fld (ev_var (i := 4) rfl) T.cl_Capsule T.n_Capsule_link rfl) c_le (fun _ => ev_lenVm (ev_var (i := 1) rfl)) (fun _ => c_le)))) (fun hb =>
sm_as <|
sm_none) (fun hb =>
sm_nil <|
sm_nil <|
sm_some (sev_go (wk_e <| wk_e <| wk_e <| wk_e <| wk_u <| wk_u <| wk_n)))) fun s3 h_s3 =>
sm_as <|
sm_seq (env := fun (s : Unit) => [.obo (some p) A.c_Arm [], .d (.tup (List.map (d_Joint A) joints)), .d (.lst (List.map (d_Capsule A) capsules)), .d (.tup (List.map (dT2 Dt.int Dt.int) beside)), .un, .un]) (sm_forL (xs := beside) (em := (dT2 Dt.int Dt.int)) (env := fun (s : Unit) => [.obo (some p) A.c_Arm [], .d (.tup (List.map (d_Joint A) joints)), .d (.lst (List.map (d_Capsule A) capsules)), .d (.tup (List.map (dT2 Dt.int Dt.int) beside)), .un, .un]) (en2 := fun (pair5 : (Int × Int)) (s4 : Unit) => [.obo (some p) A.c_Arm [], .d (.tup (List.map (d_Joint A) joints)), .d (.lst (List.map (d_Capsule A) capsules)), .d (.tup (List.map (dT2 Dt.int Dt.int) beside)), .un, .d ((dT2 Dt.int Dt.int) pair5)]) (ei_tup (ev_var (i := 3) rfl)) (wk_e <| wk_e <| wk_e <| wk_e <| wk_u <| wk_u <| wk_n) (fun pair5 s4 => eg_name (vs := [5]) (by simp)) fun pair5 s4 h_pair5 => sm_one <|
sm_as <|
sm_if (et_not (et_test (ev_chain3 (ev_int) (ev_ixNG 0 rfl rfl (ev_var (i := 5) rfl) (ev_int)) c_le (ev_ixNG 1 rfl rfl (ev_var (i := 5) rfl) (ev_int)) c_lt (ev_lenLm (ev_var (i := 2) rfl)) c_lt))) (fun hb =>
sm_as <|
sm_none) (fun hb =>
sm_nil <|
sm_nil <|
sm_some (sev_go (wk_e <| wk_e <| wk_e <| wk_e <| wk_u <| wk_u <| wk_n)))) fun s6 h_s6 =>
sm_as <|
sm_fld (i := 0) (es' := [.obo (some p) A.c_Arm [(("joints" : Str), .tup (List.map (d_Joint A) joints))], .d (.tup (List.map (d_Joint A) joints)), .d (.lst (List.map (d_Capsule A) capsules)), .d (.tup (List.map (dT2 Dt.int Dt.int) beside)), .un, .un]) rfl (ev_tupV (ev_var (i := 1) rfl)) T.cl_Arm T.n_Arm_joints (by simp) rfl <|
sm_as <|
sm_fld (i := 0) (es' := [.obo (some p) A.c_Arm [(("joints" : Str), .tup (List.map (d_Joint A) joints)), (("capsules" : Str), .tup (List.map (d_Capsule A) capsules))], .d (.tup (List.map (d_Joint A) joints)), .d (.lst (List.map (d_Capsule A) capsules)), .d (.tup (List.map (dT2 Dt.int Dt.int) beside)), .un, .un]) rfl (ev_tupL (ev_var (i := 2) rfl)) T.cl_Arm T.n_Arm_capsules (by simp) rfl <|
sm_as <|
sm_bind fun t8 h_t8 =>
sm_fld (i := 0) (es' := [.obo (some p) A.c_Arm [(("joints" : Str), .tup (List.map (d_Joint A) joints)), (("capsules" : Str), .tup (List.map (d_Capsule A) capsules)), (("beside" : Str), .tup (List.map (dT2 Dt.int Dt.int) t8))], .d (.tup (List.map (d_Joint A) joints)), .d (.lst (List.map (d_Capsule A) capsules)), .d (.tup (List.map (dT2 Dt.int Dt.int) beside)), .un, .un]) rfl (ev_tupL (ev_new (el_hide (es' := [.un, .d (.tup (List.map (d_Joint A) joints)), .d (.lst (List.map (d_Capsule A) capsules)), .d (.tup (List.map (dT2 Dt.int Dt.int) beside)), .un, .un]) rfl (el_mapP (vs := [5]) (em := (dT2 Dt.int Dt.int)) (em2 := (dT2 Dt.int Dt.int)) (en2 := fun (pair7 : (Int × Int)) => [.un, .d (.tup (List.map (d_Joint A) joints)), .d (.lst (List.map (d_Capsule A) capsules)), .d (.tup (List.map (dT2 Dt.int Dt.int) beside)), .un, .d ((dT2 Dt.int Dt.int) pair7)]) (ei_tup (ev_var (i := 3) rfl)) (fun pair7 => eg_name (vs := [5]) (by simp)) (fun pair7 => ev_tupV (ev_var (i := 5) rfl)) rfl h_t8)))) T.cl_Arm T.n_Arm_beside (by simp) rfl <|
sm_nil <|
sm_some (sev_nx (wk_e <| wk_uns rfl))))⟩
theorem sc__law_refused : FnScope ["_law_mover_here", "_law_direction", "_law_depth", "e"] ["_law_mover_here", "_law_direction", "_law_depth"] (defScope (topS 62)) := ⟨rfl, rfl, rfl, by decide +kernel, rfl, by decide +kernel, by decide +kernel⟩
theorem b__law_refused (T : Top P K mg A) : Binds K A.d__law_refused ["_law_mover_here", "_law_direction", "_law_depth"] [] := T.F__law_refused.binds (ps := ["_law_mover_here", "_law_direction", "_law_depth"]) fun _ _ _ _ _ _ us hl => match us, hl with | [_, _, _], _ => rfl
def P__law_refused (A : Ads) (ds : List Dt) (d : Dt) : Prop := ∃ (mover_here : Mover) (direction : (Int × Int × Int)) (depth : Int) (r : Str), ds = [(d_Mover A) mover_here, (dT3 Dt.int Dt.int Dt.int) direction, .int depth] ∧ m__law_refused mover_here direction depth = some r ∧ d = .str r
set_option maxHeartbeats 4000000 in
theorem ok__law_refused (T : Top P K mg A) : FnOk P w K mg base CX0 7 A.f__law_refused A.d__law_refused ["_law_mover_here", "_law_direction", "_law_depth"] (FSpec K (RD (P__law_refused A))) :=
  fn_D T.F__law_refused sc__law_refused (fun ds d h => by obtain ⟨mover_here, direction, depth, r, rfl, _, _⟩ := h; rfl) fun cdv A1 outer s H E hr => ⟨_, pss_cons (ps_try T.X_OutOfRange rfl rfl sc__law_refused.nd rfl rfl (by rfl) (by decide) (pb_call (okE_extent T) (hr.mono (by decide)) (by rfl) T.g_extent T.F_extent.kp (b_extent T) (fun _ _ => pa_cons (pv 0) (pa_cons (pv 1) (pa_cons (pv 2) (pa_nil))))) (fun _ _ => pss_nil) (ph_ret T.X_OutOfRange (fun _ _ => pv 3)))
 (pss_cons (ps_ret (pe_str))
 (pss_nil)), fun ds d h => by
    obtain ⟨mover_here, direction, depth, r, rfl, h, rfl⟩ := h
    unfold m__law_refused at h
    refine ⟨_, List.replicate 4 .un, sm_run (es := [.d ((d_Mover A) mover_here), .d ((dT3 Dt.int Dt.int Dt.int) direction), .d (.int depth), .un]) (oc := fun (r : Str) => .rt (.str r) (List.replicate 4 .un)) h ?_, .inl rfl⟩
    exact sm_one <|
sm_as <|
sm_thenF (env := fun (_ : Unit) => [.d ((d_Mover A) mover_here), .d ((dT3 Dt.int Dt.int Dt.int) direction), .d (.int depth), .un]) (ed := fun r => .str r) (ee := fun _ => List.replicate 4 .un) (sm_tryF (i := 3) T.xe_OutOfRange rfl rfl (fun f h_f => xv_call (R := PX_extent A) (ea_cons (ev_var (i := 0) rfl) (ea_cons (ev_var (i := 1) rfl) (ea_cons (ev_var (i := 2) rfl) (ea_nil)))) ⟨mover_here, direction, depth, rfl, h_f, rfl⟩) (fun _ E => sm_bind fun t1 h_t1 =>
sm_drop (ev_callX (P := P_extent A) (ea_cons (ev_var (i := 0) rfl) (ea_cons (ev_var (i := 1) rfl) (ea_cons (ev_var (i := 2) rfl) (ea_nil)))) ⟨mover_here, direction, depth, t1, rfl, h_t1, rfl⟩) <| sm_one <|
sm_nil <|
sm_some (sev_nx (wk_e <| wk_e <| wk_e <| wk_u <| wk_n))) (fun a dd fld => smh_ret evh_fld (wk_uns rfl) rfl)) (fun s2 =>
sm_as <|
sm_some (sev_rt (ev_str) (wk_uns rfl))) (fun _ => rfl)⟩
theorem sc_law : FnScope ["_law_script", "_law_rows_here", "_law_mover_here", "_law_direction", "_law_depth", "_law_told", "_law_due", "_law_at", "_law_bodies", "_law_k", "_law_under", "_law_part", "_law_place", "_law_far", "_law_radius", "_law_bare"] ["_law_script"] (defScope (topS 63)) := ⟨rfl, rfl, rfl, by decide +kernel, rfl, by decide +kernel, by decide +kernel⟩
theorem b_law (T : Top P K mg A) : Binds K A.d_law ["_law_script"] [] := T.F_law.binds (ps := ["_law_script"]) fun _ _ _ _ _ _ us hl => match us, hl with | [_], _ => rfl
def P_law (A : Ads) (ds : List Dt) (d : Dt) : Prop := ∃ (script : (List Int)) (r : Bool), ds = [.lst (List.map Dt.int script)] ∧ m_law script = some r ∧ d = .bl r
set_option maxHeartbeats 4000000 in
theorem ok_law (T : Top P K mg A) : FnOk P w K mg base CX0 8 A.f_law A.d_law ["_law_script"] (FSpec K (RD (P_law A))) :=
  fn_D T.F_law sc_law (fun ds d h => by obtain ⟨script, r, rfl, _, _⟩ := h; rfl) fun cdv A1 outer s H E hr => ⟨_, pss_cons (ps_set (i := 1) sc_law.nd rfl (by first | exact Or.inl rfl | exact Or.inr rfl) (pe_call (ok__law_rows T) (hr.mono (by decide)) (by rfl) T.g__law_rows T.F__law_rows.kp (b__law_rows T) .nil pass0 (pa_cons (pv 0) (pa_cons (pe_int) (pa_nil)))))
 (pss_cons (ps_set (i := 2) sc_law.nd rfl (by first | exact Or.inl rfl | exact Or.inr rfl) (pe_call (ok__law_mover T) (hr.mono (by decide)) (by rfl) T.g__law_mover T.F__law_mover.kp (b__law_mover T) .nil pass0 (pa_cons (pv 1) (pa_cons (pe_int) (pa_cons (pe_ix ix_list (pv 1) (pe_int) (fun _ _ => rfl)) (pa_nil))))))
 (pss_cons (ps_set (i := 3) sc_law.nd rfl (by first | exact Or.inl rfl | exact Or.inr rfl) (pe_tup (pa_cons (pe_op op_sub (pe_op op_mod (pe_callTy cr_int (by rfl) T.z_int bt_int (pa_cons (pe_ix ix_list (pv 1) (pe_int) (fun _ _ => rfl)) (pa_nil))) (pe_int)) (pe_int)) (pa_cons (pe_op op_sub (pe_op op_mod (pe_callTy cr_int (by rfl) T.z_int bt_int (pa_cons (pe_op op_fdivW (pe_ix ix_list (pv 1) (pe_int) (fun _ _ => rfl)) (pe_int)) (pa_nil))) (pe_int)) (pe_int)) (pa_cons (pe_op op_add (pe_int) (pe_op op_mod (pe_callTy cr_int (by rfl) T.z_int bt_int (pa_cons (pe_op op_fdivW (pe_ix ix_list (pv 1) (pe_int) (fun _ _ => rfl)) (pe_int)) (pa_nil))) (pe_int))) (pa_nil))))))
 (pss_cons (ps_set (i := 4) sc_law.nd rfl (by first | exact Or.inl rfl | exact Or.inr rfl) (pe_op op_mod (pe_callTy cr_int (by rfl) T.z_int bt_int (pa_cons (pe_ix ix_list (pv 1) (pe_int) (fun _ _ => rfl)) (pa_nil))) (pe_int)))
 (pss_cons (ps_set (i := 5) sc_law.nd rfl (by first | exact Or.inl rfl | exact Or.inr rfl) (pe_call (ok_extent T) (hr.mono (by decide)) (by rfl) T.g_extent T.F_extent.kp (b_extent T) .nil pass0 (pa_cons (pv 2) (pa_cons (pv 3) (pa_cons (pv 4) (pa_nil))))))
 (pss_cons (ps_set (i := 6) sc_law.nd rfl (by first | exact Or.inl rfl | exact Or.inr rfl) (pe_callB (cr_max rfl) (by rfl) T.z_max bt_max (pa_cons (pe_lc (own := [("_law_at", 7)]) (g := gName 7) (tt := tYes) rfl sc_law.nd (pi_range1 (by rfl) T.z_range (pa_cons (pe_op op_shlG (pe_int) (pv 4)) (pa_nil))) (blkOk_by (N := ["_law_script", "_law_rows_here", "_law_mover_here", "_law_direction", "_law_depth", "_law_told", "_law_due", "_law_at", "_law_bodies", "_law_k", "_law_under", "_law_part", "_law_place", "_law_far", "_law_radius", "_law_bare"]) (sc := defScope (topS 63)) (by decide +kernel)) (fun _ _ _ _ _ => pg_name (i := 7) sc_law.nd rfl (by first | exact Or.inl rfl | exact Or.inr rfl)) (fun _ _ _ _ _ => pts_nil) (fun _ _ _ _ _ => pe_call (ok__law_reach T) (hr.mono (by decide)) (by rfl) T.g__law_reach T.F__law_reach.kp (b__law_reach T) .nil pass0 (pa_cons (pv 2) (pa_cons (pv 3) (pa_cons (pe_tup (pa_cons (pv 4) (pa_cons (pv 7) (pa_nil)))) (pa_nil)))))) (pa_nil))))
 (pss_cons (ps_if (PW.pt (pw_or (pt_not (pt_val (pe_call (ok__law_is_integer T) (hr.mono (by decide)) (by rfl) T.g__law_is_integer T.F__law_is_integer.kp (b__law_is_integer T) .nil pass0 (pa_cons (pv 5) (pa_nil))))) (pw_or1 (pt_cmpR op_ne (pv 5) (pv 6) (nomark _))))) (pss_cons (ps_ret (pe_bl))
 (pss_nil)) (pss_nil))
 (pss_cons (ps_set (i := 8) sc_law.nd rfl (by first | exact Or.inl rfl | exact Or.inr rfl) (pe_meth0 (pv 2) T.cl_Mover T.m_Mover_bodies (ok_Mover_bodies T) (hr.mono (by decide)) (b_Mover_bodies T) .nil pass0))
 (pss_cons (ps_for PassesOwn.never rfl (pi_range1 (by rfl) T.z_range (pa_cons (pe_int) (pa_nil))) (pg_name (i := 9) sc_law.nd rfl (by first | exact Or.inl rfl | exact Or.inr rfl)) (pss_cons (ps_set (i := 10) sc_law.nd rfl (by first | exact Or.inl rfl | exact Or.inr rfl) (pe_op op_add (pe_int) (pe_op op_mod (pe_callTy cr_int (by rfl) T.z_int bt_int (pa_cons (pe_ix ix_list (pv 1) (pe_op op_add (pe_int) (pv 9)) (fun _ _ => rfl)) (pa_nil))) (pe_int))))
 (pss_cons (ps_set (i := 11) sc_law.nd rfl (by first | exact Or.inl rfl | exact Or.inr rfl) (pe_tup (pa_cons (pe_op op_mod (pe_callTy cr_int (by rfl) T.z_int bt_int (pa_cons (pe_op op_fdivW (pe_ix ix_list (pv 1) (pe_op op_add (pe_int) (pv 9)) (fun _ _ => rfl)) (pe_int)) (pa_nil))) (pe_op op_add (pv 10) (pe_int))) (pa_cons (pv 10) (pa_nil)))))
 (pss_cons (ps_set (i := 7) sc_law.nd rfl (by first | exact Or.inl rfl | exact Or.inr rfl) (pe_op op_mod (pe_callTy cr_int (by rfl) T.z_int bt_int (pa_cons (pe_op op_fdivW (pe_ix ix_list (pv 1) (pe_op op_add (pe_int) (pv 9)) (fun _ _ => rfl)) (pe_int)) (pa_nil))) (pe_callB cr_lenS (by rfl) T.z_len bt_len (pa_cons (pv 8) (pa_nil)))))
 (pss_cons (ps_set (i := 12) sc_law.nd rfl (by first | exact Or.inl rfl | exact Or.inr rfl) (pe_call (ok__law_mix T) (hr.mono (by decide)) (by rfl) T.g__law_mix T.F__law_mix.kp (b__law_mix T) .nil pass0 (pa_cons (pe_call (ok__law_true_line T) (hr.mono (by decide)) (by rfl) T.g__law_true_line T.F__law_true_line.kp (b__law_true_line T) .nil pass0 (pa_cons (pv 2) (pa_cons (pv 11) (pa_cons (pe_ix ix_list (pv 1) (pe_op op_add (pe_int) (pv 9)) (fun _ _ => rfl)) (pa_cons (pv 7) (pa_nil)))))) (pa_cons (pe_op op_mod (pe_callTy cr_int (by rfl) T.z_int bt_int (pa_cons (pe_ix ix_list (pv 1) (pe_int) (fun _ _ => rfl)) (pa_nil))) (pe_int)) (pa_cons (pe_int) (pa_nil))))))
 (pss_cons (ps_set (i := 13) sc_law.nd rfl (by first | exact Or.inl rfl | exact Or.inr rfl) (pe_op op_sub (pe_call (ok__law_dot_2 T) (hr.mono (by decide)) (by rfl) T.g__law_dot T.F__law_dot.kp (b__law_dot T) .nil pass0 (pa_cons (pv 3) (pa_cons (pv 12) (pa_nil)))) (pe_op op_mulG (pv 5) (pe_ix ix_list (pv 12) (pe_int) (fun _ _ => rfl)))))
 (pss_cons (ps_set (i := 14) sc_law.nd rfl (by first | exact Or.inl rfl | exact Or.inr rfl) (pe_fld (pe_ix ix_tup (pe_ix ix_list (pv 8) (pv 7) (fun _ _ => rfl)) (pe_int) (fun _ _ => rfl)) (by rfl)))
 (pss_cons (ps_if (PW.pt (pw_or (pt_cmpR op_gt (pv 13) (pe_int) (nomark _)) (pw_or1 (pt_cmpR op_lt (pe_op op_mulG (pv 13) (pv 13)) (pe_op op_mulG (pe_call (ok__law_dot T) (hr.mono (by decide)) (by rfl) T.g__law_dot T.F__law_dot.kp (b__law_dot T) .nil pass0 (pa_cons (pv 3) (pa_cons (pv 3) (pa_nil)))) (pe_op op_powG (pe_op op_mulG (pv 14) (pe_ix ix_list (pv 12) (pe_int) (fun _ _ => rfl))) (pe_int))) (nomark _))))) (pss_cons (ps_ret (pe_bl))
 (pss_nil)) (pss_nil))
 (pss_nil)))))))))
 (pss_cons (ps_set (i := 15) sc_law.nd rfl (by first | exact Or.inl rfl | exact Or.inr rfl) (pe_make T.mk_Mover (ok_Mover_init T) (hr.mono (by decide)) (by rfl) T.gc_Mover (b1_Mover_init T).choose_spec.2 (b1_Mover_init T).choose_spec.1 pass0 (pa_cons (pe_makeK T.mk_Arm (ok_Arm_init_2 T) (hr.mono (by decide)) (by rfl) T.gc_Arm (kb_Arm_init_none T).choose_spec pass0 (pa_cons (pe_fld (pe_fld (pv 2) (by rfl)) (by rfl)) (pa_cons (pe_lst (pa_nil)) (pa_nil))) (pk_nil)) (pa_cons (pe_fld (pv 2) (by rfl)) (pa_nil)))))
 (pss_cons (ps_if (pt_cmpR op_notN1 (pe_call (ok_extent T) (hr.mono (by decide)) (by rfl) T.g_extent T.F_extent.kp (b_extent T) .nil pass0 (pa_cons (pv 15) (pa_cons (pv 3) (pa_cons (pv 4) (pa_nil))))) (pe_non) (nomark _)) (pss_cons (ps_ret (pe_bl))
 (pss_nil)) (pss_nil))
 (pss_cons (ps_if (PW.pt (pw_or (pt_cmpR op_ne (pe_call (ok__law_refused T) (hr.mono (by decide)) (by rfl) T.g__law_refused T.F__law_refused.kp (b__law_refused T) .nil pass0 (pa_cons (pv 2) (pa_cons (pe_tup (pa_cons (pe_int) (pa_cons (pe_int) (pa_cons (pe_int) (pa_nil))))) (pa_cons (pe_int) (pa_nil))))) (pe_str) (nomark _)) (pw_or1 (pt_cmpR op_ne (pe_call (ok__law_refused T) (hr.mono (by decide)) (by rfl) T.g__law_refused T.F__law_refused.kp (b__law_refused T) .nil pass0 (pa_cons (pv 2) (pa_cons (pe_tup (pa_cons (pe_int) (pa_cons (pe_int) (pa_cons (pe_int) (pa_nil))))) (pa_cons (pe_int) (pa_nil))))) (pe_str) (nomark _))))) (pss_cons (ps_ret (pe_bl))
 (pss_nil)) (pss_nil))
 (pss_cons (ps_ret (pe_and (pe_cmpR op_eq (pe_call (ok__law_refused T) (hr.mono (by decide)) (by rfl) T.g__law_refused T.F__law_refused.kp (b__law_refused T) .nil pass0 (pa_cons (pv 15) (pa_cons (pv 3) (pa_cons (pe_int) (pa_nil))))) (pe_str) (nomark _)) (pe_one (pe_cmpR op_eq (pe_call (ok__law_refused T) (hr.mono (by decide)) (by rfl) T.g__law_refused T.F__law_refused.kp (b__law_refused T) .nil pass0 (pa_cons (pv 2) (pa_cons (pe_tup (pa_cons (pe_int) (pa_cons (pe_int) (pa_cons (pe_un un_neg pe_int) (pa_nil))))) (pa_cons (pe_un un_neg pe_int) (pa_nil))))) (pe_str) (nomark _)))))
 (pss_nil))))))))))))), fun ds d h => by
    obtain ⟨script, r, rfl, h, rfl⟩ := h
    unfold m_law at h
    refine ⟨_, List.replicate 16 .un, sm_run (es := [.d (.lst (List.map Dt.int script)), .un, .un, .un, .un, .un, .un, .un, .un, .un, .un, .un, .un, .un, .un, .un]) (oc := fun (r : Bool) => .rt (.bl r) (List.replicate 16 .un)) h ?_, .inl rfl⟩
    exact sm_one <|
sm_as <|
sm_bind fun t1 h_t1 =>
sm_set (es' := [.d (.lst (List.map Dt.int script)), .d (.lst (List.map Dt.int t1)), .un, .un, .un, .un, .un, .un, .un, .un, .un, .un, .un, .un, .un, .un]) (ev_call (ea_cons (ev_var (i := 0) rfl) (ea_cons (ev_int) (ea_nil))) ⟨script, 24, t1, rfl, h_t1, rfl⟩) rfl <|
sm_as <|
sm_bind fun t2 h_t2 =>
sm_bind fun t3 h_t3 =>
sm_set (es' := [.d (.lst (List.map Dt.int script)), .d (.lst (List.map Dt.int t1)), .d ((d_Mover A) t3), .un, .un, .un, .un, .un, .un, .un, .un, .un, .un, .un, .un, .un]) (ev_call (ea_cons (ev_var (i := 1) rfl) (ea_cons (ev_int) (ea_cons (ev_ixLC (em := Dt.int) (ev_var (i := 1) rfl) (ev_int) h_t2) (ea_nil)))) ⟨t1, 0, t2, t3, rfl, h_t3, rfl⟩) rfl <|
sm_as <|
sm_bind fun t4 h_t4 =>
sm_bind fun t5 h_t5 =>
sm_bind fun t6 h_t6 =>
sm_bind fun t7 h_t7 =>
sm_bind fun t8 h_t8 =>
sm_bind fun t9 h_t9 =>
sm_bind fun t10 h_t10 =>
sm_bind fun t11 h_t11 =>
sm_lt fun direction12 h_direction12 =>
sm_set (es' := [.d (.lst (List.map Dt.int script)), .d (.lst (List.map Dt.int t1)), .d ((d_Mover A) t3), .d ((dT3 Dt.int Dt.int Dt.int) direction12), .un, .un, .un, .un, .un, .un, .un, .un, .un, .un, .un, .un]) (ev_is (ev_tup (ea_cons (ev_sub (ev_mod (ev_intI (ev_ixLC (em := Dt.int) (ev_var (i := 1) rfl) (ev_int) h_t4)) (ev_int) h_t5) (ev_int)) (ea_cons (ev_sub (ev_mod (ev_intI (ev_div (ev_ixLC (em := Dt.int) (ev_var (i := 1) rfl) (ev_int) h_t6) (ev_int) h_t7)) (ev_int) h_t8) (ev_int)) (ea_cons (ev_add (ev_int) (ev_mod (ev_intI (ev_div (ev_ixLC (em := Dt.int) (ev_var (i := 1) rfl) (ev_int) h_t9) (ev_int) h_t10)) (ev_int) h_t11)) (ea_nil)))) (by simp)) (congrArg (dT3 Dt.int Dt.int Dt.int) h_direction12)) rfl <|
sm_as <|
sm_bind fun t13 h_t13 =>
sm_bind fun t14 h_t14 =>
sm_set (es' := [.d (.lst (List.map Dt.int script)), .d (.lst (List.map Dt.int t1)), .d ((d_Mover A) t3), .d ((dT3 Dt.int Dt.int Dt.int) direction12), .d (.int t14), .un, .un, .un, .un, .un, .un, .un, .un, .un, .un, .un]) (ev_mod (ev_intI (ev_ixLC (em := Dt.int) (ev_var (i := 1) rfl) (ev_int) h_t13)) (ev_int) h_t14) rfl <|
sm_as <|
sm_bind fun t15 h_t15 =>
sm_set (es' := [.d (.lst (List.map Dt.int script)), .d (.lst (List.map Dt.int t1)), .d ((d_Mover A) t3), .d ((dT3 Dt.int Dt.int Dt.int) direction12), .d (.int t14), .d ((dO Dt.int) t15), .un, .un, .un, .un, .un, .un, .un, .un, .un, .un]) (ev_call (ea_cons (ev_var (i := 2) rfl) (ea_cons (ev_var (i := 3) rfl) (ea_cons (ev_var (i := 4) rfl) (ea_nil)))) ⟨t3, direction12, t14, t15, rfl, h_t15, rfl⟩) rfl <|
sm_as <|
sm_bind fun t16 h_t16 =>
sm_bind fun r17 h_r17 =>
sm_bind fun t21 h_t21 =>
sm_bind fun t22 h_t22 =>
sm_set (es' := [.d (.lst (List.map Dt.int script)), .d (.lst (List.map Dt.int t1)), .d ((d_Mover A) t3), .d ((dT3 Dt.int Dt.int Dt.int) direction12), .d (.int t14), .d ((dO Dt.int) t15), .d (.int t22), .un, .un, .un, .un, .un, .un, .un, .un, .un]) (ev_maxL (ns := t21) (ev_new (el_map (vs := [7]) (em := Dt.int) (em2 := Dt.int) (en2 := fun (at_18 : Int) => [.d (.lst (List.map Dt.int script)), .d (.lst (List.map Dt.int t1)), .d ((d_Mover A) t3), .d ((dT3 Dt.int Dt.int Dt.int) direction12), .d (.int t14), .d ((dO Dt.int) t15), .un, .d (.int at_18), .un, .un, .un, .un, .un, .un, .un, .un]) (ei_rng1 (ea_cons (ev_shl (ev_int) (ev_var (i := 4) rfl) h_t16) (ea_nil)) h_r17) (fun at_18 => eg_name (vs := [7]) (by simp)) (fun at_18 => ev_bnd fun t19 h_t19 => ev_bnd fun o20 h_o20 => ev_pure (ev_some (em := Dt.int) h_o20 (ev_call (ea_cons (ev_var (i := 2) rfl) (ea_cons (ev_var (i := 3) rfl) (ea_cons (ev_tup (ea_cons (ev_var (i := 4) rfl) (ea_cons (ev_var (i := 7) rfl) (ea_nil))) (by simp)) (ea_nil)))) ⟨t3, direction12, (t14, at_18), t19, rfl, h_t19, rfl⟩))) rfl h_t21)) h_t22) rfl <|
sm_as <|
sm_bind fun t23 h_t23 =>
sm_if (et_or (et_not (et_B (ev_call (ea_cons (ev_var (i := 5) rfl) (ea_nil)) ⟨t15, t23, rfl, h_t23, rfl⟩))) (fun _ => et_test (ev_neOI (ev_var (i := 5) rfl) (ev_var (i := 6) rfl)))) (fun hb =>
sm_as <|
sm_some (sev_rt (ev_bl) (wk_uns rfl))) (fun hb =>
sm_nil <|
sm_as <|
sm_bind fun t24 h_t24 =>
sm_set (es' := [.d (.lst (List.map Dt.int script)), .d (.lst (List.map Dt.int t1)), .d ((d_Mover A) t3), .d ((dT3 Dt.int Dt.int Dt.int) direction12), .d (.int t14), .d ((dO Dt.int) t15), .d (.int t22), .un, .d (.lst (List.map (dT2 Dt.int (d_Body A)) t24)), .un, .un, .un, .un, .un, .un, .un]) (ev_meth (ev_var (i := 2) rfl) rfl (ea_nil) ⟨t3, t24, rfl, h_t24, rfl⟩) rfl <|
sm_as <|
sm_thenF (env := fun (s : Unit) => [.d (.lst (List.map Dt.int script)), .d (.lst (List.map Dt.int t1)), .d ((d_Mover A) t3), .d ((dT3 Dt.int Dt.int Dt.int) direction12), .d (.int t14), .d ((dO Dt.int) t15), .d (.int t22), .un, .d (.lst (List.map (dT2 Dt.int (d_Body A)) t24)), .un, .un, .un, .un, .un, .un, .un]) (ed := fun r => .bl r) (ee := fun _ => List.replicate 16 .un) (sm_for (xs := rng 0 6) (em := Dt.int) (env := fun (s : Unit) => [.d (.lst (List.map Dt.int script)), .d (.lst (List.map Dt.int t1)), .d ((d_Mover A) t3), .d ((dT3 Dt.int Dt.int Dt.int) direction12), .d (.int t14), .d ((dO Dt.int) t15), .d (.int t22), .un, .d (.lst (List.map (dT2 Dt.int (d_Body A)) t24)), .un, .un, .un, .un, .un, .un, .un]) (en2 := fun (k26 : Int) (s25 : Unit) => [.d (.lst (List.map Dt.int script)), .d (.lst (List.map Dt.int t1)), .d ((d_Mover A) t3), .d ((dT3 Dt.int Dt.int Dt.int) direction12), .d (.int t14), .d ((dO Dt.int) t15), .d (.int t22), .un, .d (.lst (List.map (dT2 Dt.int (d_Body A)) t24)), .d (.int k26), .un, .un, .un, .un, .un, .un]) (ei_rng1 (ea_cons (ev_int) (ea_nil)) (rngC_of (by decide))) (wk_e <| wk_e <| wk_e <| wk_e <| wk_e <| wk_e <| wk_e <| wk_u <| wk_e <| wk_u <| wk_u <| wk_u <| wk_u <| wk_u <| wk_u <| wk_u <| wk_n) (fun k26 s25 => eg_name (vs := [9]) (by simp)) fun k26 s25 h_k26 => sm_one <|
sm_as <|
sm_bind fun t27 h_t27 =>
sm_bind fun t28 h_t28 =>
sm_lt fun under29 h_under29 =>
sm_set (es' := [.d (.lst (List.map Dt.int script)), .d (.lst (List.map Dt.int t1)), .d ((d_Mover A) t3), .d ((dT3 Dt.int Dt.int Dt.int) direction12), .d (.int t14), .d ((dO Dt.int) t15), .d (.int t22), .un, .d (.lst (List.map (dT2 Dt.int (d_Body A)) t24)), .d (.int k26), .d (.int under29), .un, .un, .un, .un, .un]) (ev_is (ev_add (ev_int) (ev_mod (ev_intI (ev_ixLC (em := Dt.int) (ev_var (i := 1) rfl) (ev_add (ev_int) (ev_var (i := 9) rfl)) h_t27)) (ev_int) h_t28)) (congrArg Dt.int h_under29)) rfl <|
sm_as <|
sm_bind fun t30 h_t30 =>
sm_bind fun t31 h_t31 =>
sm_bind fun t32 h_t32 =>
sm_lt fun part33 h_part33 =>
sm_set (es' := [.d (.lst (List.map Dt.int script)), .d (.lst (List.map Dt.int t1)), .d ((d_Mover A) t3), .d ((dT3 Dt.int Dt.int Dt.int) direction12), .d (.int t14), .d ((dO Dt.int) t15), .d (.int t22), .un, .d (.lst (List.map (dT2 Dt.int (d_Body A)) t24)), .d (.int k26), .d (.int under29), .d ((dT2 Dt.int Dt.int) part33), .un, .un, .un, .un]) (ev_is (ev_tup (ea_cons (ev_mod (ev_intI (ev_div (ev_ixLC (em := Dt.int) (ev_var (i := 1) rfl) (ev_add (ev_int) (ev_var (i := 9) rfl)) h_t30) (ev_int) h_t31)) (ev_add (ev_var (i := 10) rfl) (ev_int)) h_t32) (ea_cons (ev_var (i := 10) rfl) (ea_nil))) (by simp)) (congrArg (dT2 Dt.int Dt.int) h_part33)) rfl <|
sm_as <|
sm_bind fun t34 h_t34 =>
sm_bind fun t35 h_t35 =>
sm_bind fun t36 h_t36 =>
sm_set (es' := [.d (.lst (List.map Dt.int script)), .d (.lst (List.map Dt.int t1)), .d ((d_Mover A) t3), .d ((dT3 Dt.int Dt.int Dt.int) direction12), .d (.int t14), .d ((dO Dt.int) t15), .d (.int t22), .d (.int t36), .d (.lst (List.map (dT2 Dt.int (d_Body A)) t24)), .d (.int k26), .d (.int under29), .d ((dT2 Dt.int Dt.int) part33), .un, .un, .un, .un]) (ev_mod (ev_intI (ev_div (ev_ixLC (em := Dt.int) (ev_var (i := 1) rfl) (ev_add (ev_int) (ev_var (i := 9) rfl)) h_t34) (ev_int) h_t35)) (ev_lenLm (ev_var (i := 8) rfl)) h_t36) rfl <|
sm_as <|
sm_bind fun t37 h_t37 =>
sm_bind fun t38 h_t38 =>
sm_bind fun t39 h_t39 =>
sm_bind fun t40 h_t40 =>
sm_bind fun t41 h_t41 =>
sm_set (es' := [.d (.lst (List.map Dt.int script)), .d (.lst (List.map Dt.int t1)), .d ((d_Mover A) t3), .d ((dT3 Dt.int Dt.int Dt.int) direction12), .d (.int t14), .d ((dO Dt.int) t15), .d (.int t22), .d (.int t36), .d (.lst (List.map (dT2 Dt.int (d_Body A)) t24)), .d (.int k26), .d (.int under29), .d ((dT2 Dt.int Dt.int) part33), .d ((dF4 Dt.int Dt.int Dt.int Dt.int) t41), .un, .un, .un]) (ev_call (ea_cons (ev_call (ea_cons (ev_var (i := 2) rfl) (ea_cons (ev_var (i := 11) rfl) (ea_cons (ev_ixLC (em := Dt.int) (ev_var (i := 1) rfl) (ev_add (ev_int) (ev_var (i := 9) rfl)) h_t37) (ea_cons (ev_var (i := 7) rfl) (ea_nil))))) ⟨t3, part33, t37, t36, t38, rfl, h_t38, rfl⟩) (ea_cons (ev_mod (ev_intI (ev_ixLC (em := Dt.int) (ev_var (i := 1) rfl) (ev_int) h_t39)) (ev_int) h_t40) (ea_cons (ev_int) (ea_nil)))) ⟨t38, t40, 8, t41, rfl, h_t41, rfl⟩) rfl <|
sm_as <|
sm_bind fun t42 h_t42 =>
sm_bind fun o43 h_o43 =>
sm_bind fun t44 h_t44 =>
sm_lt fun far45 h_far45 =>
sm_set (es' := [.d (.lst (List.map Dt.int script)), .d (.lst (List.map Dt.int t1)), .d ((d_Mover A) t3), .d ((dT3 Dt.int Dt.int Dt.int) direction12), .d (.int t14), .d ((dO Dt.int) t15), .d (.int t22), .d (.int t36), .d (.lst (List.map (dT2 Dt.int (d_Body A)) t24)), .d (.int k26), .d (.int under29), .d ((dT2 Dt.int Dt.int) part33), .d ((dF4 Dt.int Dt.int Dt.int Dt.int) t41), .d (.int far45), .un, .un]) (ev_is (ev_sub (ev_call (ea_cons (ev_var (i := 3) rfl) (ea_cons (ev_var (i := 12) rfl) (ea_nil))) ⟨direction12, t41, t42, rfl, h_t42, rfl⟩) (ev_mul (ev_some (em := Dt.int) h_o43 (ev_var (i := 5) rfl)) (ev_ixLG 3 rfl rfl (ev_var (i := 12) rfl) (ev_int)) h_t44)) (congrArg Dt.int h_far45)) rfl <|
sm_as <|
sm_bind fun t46 h_t46 =>
sm_lt fun radius47 h_radius47 =>
sm_set (es' := [.d (.lst (List.map Dt.int script)), .d (.lst (List.map Dt.int t1)), .d ((d_Mover A) t3), .d ((dT3 Dt.int Dt.int Dt.int) direction12), .d (.int t14), .d ((dO Dt.int) t15), .d (.int t22), .d (.int t36), .d (.lst (List.map (dT2 Dt.int (d_Body A)) t24)), .d (.int k26), .d (.int under29), .d ((dT2 Dt.int Dt.int) part33), .d ((dF4 Dt.int Dt.int Dt.int Dt.int) t41), .d (.int far45), .d (.int radius47), .un]) (ev_is (ev_fld (ev_ixNG 1 rfl rfl (ev_ixLC (em := (dT2 Dt.int (d_Body A))) (ev_var (i := 8) rfl) (ev_var (i := 7) rfl) h_t46) (ev_int)) T.cl_Body T.n_Body_radius rfl) (congrArg Dt.int h_radius47)) rfl <|
sm_as <|
sm_bind fun b53 h_b53 =>
sm_if (et_orC (et_test (ev_gt (ev_var (i := 13) rfl) (ev_int))) (fun _ => et_bnd fun t48 h_t48 => et_bnd fun t49 h_t49 => et_bnd fun t50 h_t50 => et_bnd fun t51 h_t51 => et_bnd fun t52 h_t52 => et_pure (et_test (ev_lt (ev_mul (ev_var (i := 13) rfl) (ev_var (i := 13) rfl) h_t48) (ev_mul (ev_call (ea_cons (ev_var (i := 3) rfl) (ea_cons (ev_var (i := 3) rfl) (ea_nil))) ⟨direction12, direction12, t49, rfl, h_t49, rfl⟩) (ev_pow (ev_mul (ev_var (i := 14) rfl) (ev_ixLG 3 rfl rfl (ev_var (i := 12) rfl) (ev_int)) h_t50) (ev_int) h_t51) h_t52)))) h_b53) (fun hb =>
sm_as <|
sm_some (sev_rt (ev_bl) (wk_uns rfl))) (fun hb =>
sm_nil <|
sm_nil <|
sm_some (sev_go (wk_e <| wk_e <| wk_e <| wk_e <| wk_e <| wk_e <| wk_e <| wk_u <| wk_e <| wk_u <| wk_u <| wk_u <| wk_u <| wk_u <| wk_u <| wk_u <| wk_n)))) (fun s54 =>
sm_as <|
sm_bind fun t55 h_t55 =>
sm_bind fun t56 h_t56 =>
sm_set (es' := [.d (.lst (List.map Dt.int script)), .d (.lst (List.map Dt.int t1)), .d ((d_Mover A) t3), .d ((dT3 Dt.int Dt.int Dt.int) direction12), .d (.int t14), .d ((dO Dt.int) t15), .d (.int t22), .un, .d (.lst (List.map (dT2 Dt.int (d_Body A)) t24)), .un, .un, .un, .un, .un, .un, .d ((d_Mover A) t56)]) (ev_makeD (P := P_Mover_init A) (C := A.c_Mover) (dds := [.tup []]) (ea_cons (ev_makeK (n := 2) (m := 0) (fV := fun vs zs => vs ++ [.ref A.t_Arm_init_beside]) (ds' := [.tup (List.map (d_Joint A) t3.arm.joints), .lst (List.map (d_Capsule A) []), .tup []]) (ea_cons (ev_fld (ev_fld (ev_var (i := 2) rfl) T.cl_Mover T.n_Mover_arm rfl) T.cl_Arm T.n_Arm_joints rfl) (ea_cons (ev_new (el_lst (ds := List.map (d_Capsule A) []) (ea_nil) (by simp))) (ea_nil))) (ea_nil) rfl rfl (fun _ _ _ _ _ => rfl) (fun G vs zs r1 r2 => (r1.append (.cons (T.e_Arm_init_beside G) .nil))) ⟨t3.arm.joints, [], [], t55, rfl, h_t55, rfl⟩) (ea_cons (ev_fld (ev_var (i := 2) rfl) T.cl_Mover T.n_Mover_move rfl) (ea_nil))) (fun G => .cons (T.e_Mover_init_held G) (.nil)) ⟨t55, t3.move, [], t56, rfl, h_t56, rfl⟩) rfl <|
sm_as <|
sm_bind fun t57 h_t57 =>
sm_if (et_test (ev_nisO (em := Dt.int) (fun _ h => nomatch h) (ev_call (ea_cons (ev_var (i := 15) rfl) (ea_cons (ev_var (i := 3) rfl) (ea_cons (ev_var (i := 4) rfl) (ea_nil)))) ⟨t56, direction12, t14, t57, rfl, h_t57, rfl⟩))) (fun hb =>
sm_as <|
sm_some (sev_rt (ev_bl) (wk_uns rfl))) (fun hb =>
sm_nil <|
sm_as <|
sm_bind fun t58 h_t58 =>
sm_bind fun b60 h_b60 =>
sm_if (et_orC (et_test (ev_neS (ev_call (ea_cons (ev_var (i := 2) rfl) (ea_cons (ev_tup (ea_cons (ev_int) (ea_cons (ev_int) (ea_cons (ev_int) (ea_nil)))) (by simp)) (ea_cons (ev_int) (ea_nil)))) ⟨t3, (0, 0, 0), 9, t58, rfl, h_t58, rfl⟩) (ev_str))) (fun _ => et_bnd fun t59 h_t59 => et_pure (et_test (ev_neS (ev_call (ea_cons (ev_var (i := 2) rfl) (ea_cons (ev_tup (ea_cons (ev_int) (ea_cons (ev_int) (ea_cons (ev_int) (ea_nil)))) (by simp)) (ea_cons (ev_int) (ea_nil)))) ⟨t3, (0, 1001, 0), 0, t59, rfl, h_t59, rfl⟩) (ev_str)))) h_b60) (fun hb =>
sm_as <|
sm_some (sev_rt (ev_bl) (wk_uns rfl))) (fun hb =>
sm_nil <|
sm_as <|
sm_bind fun t61 h_t61 =>
sm_bind fun b63 h_b63 =>
sm_some (sev_rt (ev_andVC (ev_eqS (ev_call (ea_cons (ev_var (i := 15) rfl) (ea_cons (ev_var (i := 3) rfl) (ea_cons (ev_int) (ea_nil)))) ⟨t56, direction12, 9, t61, rfl, h_t61, rfl⟩) (ev_str)) (fun _ => eb_bnd fun t62 h_t62 => eb_pure (ev_eqS (ev_call (ea_cons (ev_var (i := 2) rfl) (ea_cons (ev_tup (ea_cons (ev_int) (ea_cons (ev_int) (ea_cons (ev_neg ev_int) (ea_nil)))) (by simp)) (ea_cons (ev_neg ev_int) (ea_nil)))) ⟨t3, (1000, 0, (-1000)), (-1), t62, rfl, h_t62, rfl⟩) (ev_str))) h_b63) (wk_uns rfl))))) (fun _ => rfl))⟩
end G

namespace G
open PySem L2 DL PyProof.Rows
def LawT (K : PySem.W.Frag) : Sp := FSpec K (RD fun ds d => ∃ (ns : List Int) (r : Bool), ds = [.lst (ns.map Dt.int)] ∧ m_law ns = some r ∧ d = .bl r)
theorem all_mk {l : PySem.W.OpenLaw} {w : World} {K : PySem.W.Frag} {h : Heap} {mg : Str → Option Value} {fa c_Joint c_Body c_Capsule c_Arm c_Move c_Mover f0 f1 f2 f3 f4 f5 f6 f7 f8 f9 f10 f11 f12 f13 f14 f15 f16 f17 f18 f19 f20 f21 f22 f23 f24 f25 f26 f27 f28 f29 f30 f31 f32 f33 f34 f35 f36 f37 f38 f39 f40 f41 f42 f43 c_OutOfRange x_OutOfRange xA0 xC0 xc0 xN0 : Addr} {t_DEEPEST t_FAR t_FAST t_HARD t_LOOSE t_MOST_CAPSULES t_MOST_JOINTS t_STEEP t_STEEPEST t_THICK t_UNIT : Tok} (X : K.In h) (G : h.Ns mainGlobals mg) (hfa : mg "law" = some (.ref fa))
    {od0 an0 : Option Addr} {sl0 : Array (Option Value)} {oc0 kV0 dc0 pm0 cd0 ct0 : Value}
    {od1 an1 : Option Addr} {sl1 : Array (Option Value)} {oc1 kV1 dc1 pm1 cd1 ct1 : Value}
    {od2 an2 : Option Addr} {sl2 : Array (Option Value)} {oc2 dc2 pm2 cd2 ct2 : Value}
    {kD2 : Addr} {tk2_box tk2_error tk2_speed tk2_accel tk2_brake : Tok}
    {od3 an3 : Option Addr} {sl3 : Array (Option Value)} {oc3 kV3 dc3 pm3 cd3 ct3 : Value}
    {od4 an4 : Option Addr} {sl4 : Array (Option Value)} {oc4 kV4 dc4 pm4 cd4 ct4 : Value}
    {od5 an5 : Option Addr} {sl5 : Array (Option Value)} {oc5 kV5 dc5 pm5 cd5 ct5 : Value}
    {od6 an6 : Option Addr} {sl6 : Array (Option Value)} {oc6 kV6 dc6 pm6 cd6 ct6 : Value}
    {od7 an7 : Option Addr} {sl7 : Array (Option Value)} {oc7 dc7 pm7 cd7 ct7 : Value}
    {kD7 : Addr} {tA7_beside : Addr} {tO7_beside : Option Addr} {tI7_beside : Array Value} {tN7_beside : Nat} {tS7_beside : Array (Option Value)}
    {od8 an8 : Option Addr} {sl8 : Array (Option Value)} {oc8 kV8 dc8 pm8 cd8 ct8 : Value}
    {od9 an9 : Option Addr} {sl9 : Array (Option Value)} {oc9 kV9 dc9 pm9 cd9 ct9 : Value}
    {od10 an10 : Option Addr} {sl10 : Array (Option Value)} {oc10 kV10 dc10 pm10 cd10 ct10 : Value}
    {od11 an11 : Option Addr} {sl11 : Array (Option Value)} {oc11 kV11 dc11 pm11 cd11 ct11 : Value}
    {od12 an12 : Option Addr} {sl12 : Array (Option Value)} {oc12 kV12 dc12 pm12 cd12 ct12 : Value}
    {dT12 : Addr} {dC12 : Value} {dO12 : Option Addr} {dI12 : Array Value} {dN12 : Nat} {dS12 : Array (Option Value)}
    {tA12_held : Addr} {tO12_held : Option Addr} {tI12_held : Array Value} {tN12_held : Nat} {tS12_held : Array (Option Value)}
    {od13 an13 : Option Addr} {sl13 : Array (Option Value)} {oc13 kV13 dc13 pm13 cd13 ct13 : Value}
    {od14 an14 : Option Addr} {sl14 : Array (Option Value)} {oc14 kV14 dc14 pm14 cd14 ct14 : Value}
    {od15 an15 : Option Addr} {sl15 : Array (Option Value)} {oc15 kV15 dc15 pm15 cd15 ct15 : Value}
    {od16 an16 : Option Addr} {sl16 : Array (Option Value)} {oc16 kV16 dc16 pm16 cd16 ct16 : Value}
    {od17 an17 : Option Addr} {sl17 : Array (Option Value)} {oc17 kV17 dc17 pm17 cd17 ct17 : Value}
    {od18 an18 : Option Addr} {sl18 : Array (Option Value)} {oc18 kV18 dc18 pm18 cd18 ct18 : Value}
    {od19 an19 : Option Addr} {sl19 : Array (Option Value)} {oc19 kV19 dc19 pm19 cd19 ct19 : Value}
    {od20 an20 : Option Addr} {sl20 : Array (Option Value)} {oc20 kV20 dc20 pm20 cd20 ct20 : Value}
    {od21 an21 : Option Addr} {sl21 : Array (Option Value)} {oc21 kV21 dc21 pm21 cd21 ct21 : Value}
    {od22 an22 : Option Addr} {sl22 : Array (Option Value)} {oc22 kV22 dc22 pm22 cd22 ct22 : Value}
    {od23 an23 : Option Addr} {sl23 : Array (Option Value)} {oc23 kV23 dc23 pm23 cd23 ct23 : Value}
    {od24 an24 : Option Addr} {sl24 : Array (Option Value)} {oc24 kV24 dc24 pm24 cd24 ct24 : Value}
    {od25 an25 : Option Addr} {sl25 : Array (Option Value)} {oc25 kV25 dc25 pm25 cd25 ct25 : Value}
    {od26 an26 : Option Addr} {sl26 : Array (Option Value)} {oc26 kV26 dc26 pm26 cd26 ct26 : Value}
    {od27 an27 : Option Addr} {sl27 : Array (Option Value)} {oc27 kV27 dc27 pm27 cd27 ct27 : Value}
    {od28 an28 : Option Addr} {sl28 : Array (Option Value)} {oc28 kV28 dc28 pm28 cd28 ct28 : Value}
    {od29 an29 : Option Addr} {sl29 : Array (Option Value)} {oc29 kV29 dc29 pm29 cd29 ct29 : Value}
    {od30 an30 : Option Addr} {sl30 : Array (Option Value)} {oc30 kV30 dc30 pm30 cd30 ct30 : Value}
    {od31 an31 : Option Addr} {sl31 : Array (Option Value)} {oc31 kV31 dc31 pm31 cd31 ct31 : Value}
    {od32 an32 : Option Addr} {sl32 : Array (Option Value)} {oc32 kV32 dc32 pm32 cd32 ct32 : Value}
    {od33 an33 : Option Addr} {sl33 : Array (Option Value)} {oc33 kV33 dc33 pm33 cd33 ct33 : Value}
    {od34 an34 : Option Addr} {sl34 : Array (Option Value)} {oc34 kV34 dc34 pm34 cd34 ct34 : Value}
    {od35 an35 : Option Addr} {sl35 : Array (Option Value)} {oc35 kV35 dc35 pm35 cd35 ct35 : Value}
    {od36 an36 : Option Addr} {sl36 : Array (Option Value)} {oc36 kV36 dc36 pm36 cd36 ct36 : Value}
    {od37 an37 : Option Addr} {sl37 : Array (Option Value)} {oc37 kV37 dc37 pm37 cd37 ct37 : Value}
    {od38 an38 : Option Addr} {sl38 : Array (Option Value)} {oc38 kV38 dc38 pm38 cd38 ct38 : Value}
    {od39 an39 : Option Addr} {sl39 : Array (Option Value)} {oc39 kV39 dc39 pm39 cd39 ct39 : Value}
    {od40 an40 : Option Addr} {sl40 : Array (Option Value)} {oc40 kV40 dc40 pm40 cd40 ct40 : Value}
    {od41 an41 : Option Addr} {sl41 : Array (Option Value)} {oc41 kV41 dc41 pm41 cd41 ct41 : Value}
    {od42 an42 : Option Addr} {sl42 : Array (Option Value)} {oc42 kV42 dc42 pm42 cd42 ct42 : Value}
    {od43 an43 : Option Addr} {sl43 : Array (Option Value)} {oc43 kV43 dc43 pm43 cd43 ct43 : Value}
    {xnm0 xq0 : Str} {xbs0 : List Value} {xsn0 : List Str} {xsub0 : List Value} {xab0 : Bool} {xcol0 : Option Bool} {xdd0 : Option Addr} {xm00 xm10 xm20 xm30 xm50 : Option Value}
    {xod0 xan0 xcdd0 xcld0 : Option Addr} {xsl0 xccs0 xcsl0 : Array (Option Value)} {xoc0 xdc0 xpm0 xct0 xccl0 xcl0 : Value} {xvs0 : Array Value} {xfile0 : Str} {xtf0 : Tok}
    (x_Mover : PySem.W.nsIn K mainGlobals "Mover" = some (some (.ref c_Mover)))
    (pg_Mover : PySem.W.plainGet K c_Mover Str.empty = true)
    (hd_Mover : PySem.W.hasDictIn K c_Mover = true)
    (po_Mover : PySem.W.plainOver K c_Mover = true)
    (sa_Mover : PySem.W.findIn K (.ref c_Mover) "__setattr__" = some (some (.builtin "object.__setattr__")))
    (mk_Mover : PySem.W.makesIn K c_Mover = true)
    (kc_Mover : PySem.W.keepIn K (.ref c_Mover) = true)
    (x_Move : PySem.W.nsIn K mainGlobals "Move" = some (some (.ref c_Move)))
    (pg_Move : PySem.W.plainGet K c_Move Str.empty = true)
    (hd_Move : PySem.W.hasDictIn K c_Move = true)
    (po_Move : PySem.W.plainOver K c_Move = true)
    (sa_Move : PySem.W.findIn K (.ref c_Move) "__setattr__" = some (some (.builtin "object.__setattr__")))
    (mk_Move : PySem.W.makesIn K c_Move = true)
    (kc_Move : PySem.W.keepIn K (.ref c_Move) = true)
    (x_Arm : PySem.W.nsIn K mainGlobals "Arm" = some (some (.ref c_Arm)))
    (pg_Arm : PySem.W.plainGet K c_Arm Str.empty = true)
    (hd_Arm : PySem.W.hasDictIn K c_Arm = true)
    (po_Arm : PySem.W.plainOver K c_Arm = true)
    (sa_Arm : PySem.W.findIn K (.ref c_Arm) "__setattr__" = some (some (.builtin "object.__setattr__")))
    (mk_Arm : PySem.W.makesIn K c_Arm = true)
    (kc_Arm : PySem.W.keepIn K (.ref c_Arm) = true)
    (x_Capsule : PySem.W.nsIn K mainGlobals "Capsule" = some (some (.ref c_Capsule)))
    (pg_Capsule : PySem.W.plainGet K c_Capsule Str.empty = true)
    (hd_Capsule : PySem.W.hasDictIn K c_Capsule = true)
    (po_Capsule : PySem.W.plainOver K c_Capsule = true)
    (sa_Capsule : PySem.W.findIn K (.ref c_Capsule) "__setattr__" = some (some (.builtin "object.__setattr__")))
    (mk_Capsule : PySem.W.makesIn K c_Capsule = true)
    (kc_Capsule : PySem.W.keepIn K (.ref c_Capsule) = true)
    (x_Body : PySem.W.nsIn K mainGlobals "Body" = some (some (.ref c_Body)))
    (pg_Body : PySem.W.plainGet K c_Body Str.empty = true)
    (hd_Body : PySem.W.hasDictIn K c_Body = true)
    (po_Body : PySem.W.plainOver K c_Body = true)
    (sa_Body : PySem.W.findIn K (.ref c_Body) "__setattr__" = some (some (.builtin "object.__setattr__")))
    (mk_Body : PySem.W.makesIn K c_Body = true)
    (kc_Body : PySem.W.keepIn K (.ref c_Body) = true)
    (x_Joint : PySem.W.nsIn K mainGlobals "Joint" = some (some (.ref c_Joint)))
    (pg_Joint : PySem.W.plainGet K c_Joint Str.empty = true)
    (hd_Joint : PySem.W.hasDictIn K c_Joint = true)
    (po_Joint : PySem.W.plainOver K c_Joint = true)
    (sa_Joint : PySem.W.findIn K (.ref c_Joint) "__setattr__" = some (some (.builtin "object.__setattr__")))
    (mk_Joint : PySem.W.makesIn K c_Joint = true)
    (kc_Joint : PySem.W.keepIn K (.ref c_Joint) = true)
    (a0 : PySem.W.nsIn K mainGlobals "_law_rows" = some (some (.ref f0)))
    (l0 : K.lookup f0 = some ⟨oc0, od0, .func (PySem.W.fnOf "_law_rows" "_law_rows" (defArgs (topS 46)) (defBody (topS 46)) (defScope (topS 46)) .none kV0 dc0 pm0 an0 cd0 ct0), sl0⟩)
    (c0 : PySem.W.codeIn K cd0 "_law_rows" = true)
    (k0 : PySem.W.keepIn K (.ref f0) = true)
    (a1 : PySem.W.nsIn K mainGlobals "is_within" = some (some (.ref f1)))
    (l1 : K.lookup f1 = some ⟨oc1, od1, .func (PySem.W.fnOf "is_within" "is_within" (defArgs (topS 31)) (defBody (topS 31)) (defScope (topS 31)) .none kV1 dc1 pm1 an1 cd1 ct1), sl1⟩)
    (c1 : PySem.W.codeIn K cd1 "is_within" = true)
    (k1 : PySem.W.keepIn K (.ref f1) = true)
    (a2 : PySem.W.findIn K (.ref c_Joint) "__init__" = some (some (.ref f2)))
    (i2 : PySem.W.isFn K (.ref f2) = true)
    (l2 : K.lookup f2 = some ⟨oc2, od2, .func (PySem.W.fnOf "__init__" "Joint.__init__" (defArgs (inClass (topS 32) 0)) (defBody (inClass (topS 32) 0)) (defScope (inClass (topS 32) 0)) .none (.ref kD2) dc2 pm2 an2 cd2 ct2), sl2⟩)
    (c2 : PySem.W.codeIn K cd2 "Joint.__init__" = true)
    (k2 : PySem.W.keepIn K (.ref f2) = true)
    (q2_box : PySem.W.nsIn K kD2 "box" = some (some (.int 0 tk2_box)))
    (q2_error : PySem.W.nsIn K kD2 "error" = some (some (.int 0 tk2_error)))
    (q2_speed : PySem.W.nsIn K kD2 "speed" = some (some (.int 1 tk2_speed)))
    (q2_accel : PySem.W.nsIn K kD2 "accel" = some (some (.int 1 tk2_accel)))
    (q2_brake : PySem.W.nsIn K kD2 "brake" = some (some (.int 1 tk2_brake)))
    (a3 : PySem.W.nsIn K mainGlobals "_law_joint" = some (some (.ref f3)))
    (l3 : K.lookup f3 = some ⟨oc3, od3, .func (PySem.W.fnOf "_law_joint" "_law_joint" (defArgs (topS 50)) (defBody (topS 50)) (defScope (topS 50)) .none kV3 dc3 pm3 an3 cd3 ct3), sl3⟩)
    (c3 : PySem.W.codeIn K cd3 "_law_joint" = true)
    (k3 : PySem.W.keepIn K (.ref f3) = true)
    (a4 : PySem.W.findIn K (.ref c_Body) "__init__" = some (some (.ref f4)))
    (i4 : PySem.W.isFn K (.ref f4) = true)
    (l4 : K.lookup f4 = some ⟨oc4, od4, .func (PySem.W.fnOf "__init__" "Body.__init__" (defArgs (inClass (topS 37) 0)) (defBody (inClass (topS 37) 0)) (defScope (inClass (topS 37) 0)) .none kV4 dc4 pm4 an4 cd4 ct4), sl4⟩)
    (c4 : PySem.W.codeIn K cd4 "Body.__init__" = true)
    (k4 : PySem.W.keepIn K (.ref f4) = true)
    (a5 : PySem.W.findIn K (.ref c_Capsule) "__init__" = some (some (.ref f5)))
    (i5 : PySem.W.isFn K (.ref f5) = true)
    (l5 : K.lookup f5 = some ⟨oc5, od5, .func (PySem.W.fnOf "__init__" "Capsule.__init__" (defArgs (inClass (topS 38) 0)) (defBody (inClass (topS 38) 0)) (defScope (inClass (topS 38) 0)) .none kV5 dc5 pm5 an5 cd5 ct5), sl5⟩)
    (c5 : PySem.W.codeIn K cd5 "Capsule.__init__" = true)
    (k5 : PySem.W.keepIn K (.ref f5) = true)
    (a6 : PySem.W.nsIn K mainGlobals "_law_capsule" = some (some (.ref f6)))
    (l6 : K.lookup f6 = some ⟨oc6, od6, .func (PySem.W.fnOf "_law_capsule" "_law_capsule" (defArgs (topS 51)) (defBody (topS 51)) (defScope (topS 51)) .none kV6 dc6 pm6 an6 cd6 ct6), sl6⟩)
    (c6 : PySem.W.codeIn K cd6 "_law_capsule" = true)
    (k6 : PySem.W.keepIn K (.ref f6) = true)
    (a7 : PySem.W.findIn K (.ref c_Arm) "__init__" = some (some (.ref f7)))
    (i7 : PySem.W.isFn K (.ref f7) = true)
    (l7 : K.lookup f7 = some ⟨oc7, od7, .func (PySem.W.fnOf "__init__" "Arm.__init__" (defArgs (inClass (topS 39) 0)) (defBody (inClass (topS 39) 0)) (defScope (inClass (topS 39) 0)) .none (.ref kD7) dc7 pm7 an7 cd7 ct7), sl7⟩)
    (c7 : PySem.W.codeIn K cd7 "Arm.__init__" = true)
    (k7 : PySem.W.keepIn K (.ref f7) = true)
    (q7_beside : PySem.W.nsIn K kD7 "beside" = some (some (.ref tA7_beside)))
    (r7_beside : K.lookup tA7_beside = some ⟨.type "tuple", tO7_beside, .seq tI7_beside tN7_beside, tS7_beside⟩)
    (zz7_beside : tI7_beside = #[])
    (a8 : PySem.W.nsIn K mainGlobals "_law_arm" = some (some (.ref f8)))
    (l8 : K.lookup f8 = some ⟨oc8, od8, .func (PySem.W.fnOf "_law_arm" "_law_arm" (defArgs (topS 53)) (defBody (topS 53)) (defScope (topS 53)) .none kV8 dc8 pm8 an8 cd8 ct8), sl8⟩)
    (c8 : PySem.W.codeIn K cd8 "_law_arm" = true)
    (k8 : PySem.W.keepIn K (.ref f8) = true)
    (a9 : PySem.W.nsIn K mainGlobals "_law_values" = some (some (.ref f9)))
    (l9 : K.lookup f9 = some ⟨oc9, od9, .func (PySem.W.fnOf "_law_values" "_law_values" (defArgs (topS 52)) (defBody (topS 52)) (defScope (topS 52)) .none kV9 dc9 pm9 an9 cd9 ct9), sl9⟩)
    (c9 : PySem.W.codeIn K cd9 "_law_values" = true)
    (k9 : PySem.W.keepIn K (.ref f9) = true)
    (a10 : PySem.W.findIn K (.ref c_Arm) "fits" = some (some (.ref f10)))
    (i10 : PySem.W.isFn K (.ref f10) = true)
    (l10 : K.lookup f10 = some ⟨oc10, od10, .func (PySem.W.fnOf "fits" "Arm.fits" (defArgs (inClass (topS 39) 1)) (defBody (inClass (topS 39) 1)) (defScope (inClass (topS 39) 1)) .none kV10 dc10 pm10 an10 cd10 ct10), sl10⟩)
    (c10 : PySem.W.codeIn K cd10 "Arm.fits" = true)
    (k10 : PySem.W.keepIn K (.ref f10) = true)
    (a11 : PySem.W.findIn K (.ref c_Move) "__init__" = some (some (.ref f11)))
    (i11 : PySem.W.isFn K (.ref f11) = true)
    (l11 : K.lookup f11 = some ⟨oc11, od11, .func (PySem.W.fnOf "__init__" "Move.__init__" (defArgs (inClass (topS 13) 0)) (defBody (inClass (topS 13) 0)) (defScope (inClass (topS 13) 0)) .none kV11 dc11 pm11 an11 cd11 ct11), sl11⟩)
    (c11 : PySem.W.codeIn K cd11 "Move.__init__" = true)
    (k11 : PySem.W.keepIn K (.ref f11) = true)
    (a12 : PySem.W.findIn K (.ref c_Mover) "__init__" = some (some (.ref f12)))
    (i12 : PySem.W.isFn K (.ref f12) = true)
    (l12 : K.lookup f12 = some ⟨oc12, od12, .func (PySem.W.fnOf "__init__" "Mover.__init__" (defArgs (inClass (topS 24) 0)) (defBody (inClass (topS 24) 0)) (defScope (inClass (topS 24) 0)) (.ref dT12) kV12 dc12 pm12 an12 cd12 ct12), sl12⟩)
    (c12 : PySem.W.codeIn K cd12 "Mover.__init__" = true)
    (k12 : PySem.W.keepIn K (.ref f12) = true)
    (d12 : K.lookup dT12 = some ⟨dC12, dO12, .seq dI12 dN12, dS12⟩)
    (zzd12 : dI12 = #[.ref tA12_held])
    (r12_held : K.lookup tA12_held = some ⟨.type "tuple", tO12_held, .seq tI12_held tN12_held, tS12_held⟩)
    (zz12_held : tI12_held = #[])
    (a13 : PySem.W.nsIn K mainGlobals "_law_mover" = some (some (.ref f13)))
    (l13 : K.lookup f13 = some ⟨oc13, od13, .func (PySem.W.fnOf "_law_mover" "_law_mover" (defArgs (topS 54)) (defBody (topS 54)) (defScope (topS 54)) .none kV13 dc13 pm13 an13 cd13 ct13), sl13⟩)
    (c13 : PySem.W.codeIn K cd13 "_law_mover" = true)
    (k13 : PySem.W.keepIn K (.ref f13) = true)
    (a14 : PySem.W.nsIn K mainGlobals "dot" = some (some (.ref f14)))
    (l14 : K.lookup f14 = some ⟨oc14, od14, .func (PySem.W.fnOf "dot" "dot" (defArgs (topS 10)) (defBody (topS 10)) (defScope (topS 10)) .none kV14 dc14 pm14 an14 cd14 ct14), sl14⟩)
    (c14 : PySem.W.codeIn K cd14 "dot" = true)
    (k14 : PySem.W.keepIn K (.ref f14) = true)
    (a15 : PySem.W.nsIn K mainGlobals "root_up" = some (some (.ref f15)))
    (l15 : K.lookup f15 = some ⟨oc15, od15, .func (PySem.W.fnOf "root_up" "root_up" (defArgs (topS 8)) (defBody (topS 8)) (defScope (topS 8)) .none kV15 dc15 pm15 an15 cd15 ct15), sl15⟩)
    (c15 : PySem.W.codeIn K cd15 "root_up" = true)
    (k15 : PySem.W.keepIn K (.ref f15) = true)
    (a16 : PySem.W.nsIn K mainGlobals "length_up" = some (some (.ref f16)))
    (l16 : K.lookup f16 = some ⟨oc16, od16, .func (PySem.W.fnOf "length_up" "length_up" (defArgs (topS 11)) (defBody (topS 11)) (defScope (topS 11)) .none kV16 dc16 pm16 an16 cd16 ct16), sl16⟩)
    (c16 : PySem.W.codeIn K cd16 "length_up" = true)
    (k16 : PySem.W.keepIn K (.ref f16) = true)
    (a17 : PySem.W.findIn K (.ref c_Move) "middle" = some (some (.ref f17)))
    (i17 : PySem.W.isFn K (.ref f17) = true)
    (l17 : K.lookup f17 = some ⟨oc17, od17, .func (PySem.W.fnOf "middle" "Move.middle" (defArgs (inClass (topS 13) 1)) (defBody (inClass (topS 13) 1)) (defScope (inClass (topS 13) 1)) .none kV17 dc17 pm17 an17 cd17 ct17), sl17⟩)
    (c17 : PySem.W.codeIn K cd17 "Move.middle" = true)
    (k17 : PySem.W.keepIn K (.ref f17) = true)
    (a18 : PySem.W.findIn K (.ref c_Mover) "bodies" = some (some (.ref f18)))
    (i18 : PySem.W.isFn K (.ref f18) = true)
    (l18 : K.lookup f18 = some ⟨oc18, od18, .func (PySem.W.fnOf "bodies" "Mover.bodies" (defArgs (inClass (topS 24) 1)) (defBody (inClass (topS 24) 1)) (defScope (inClass (topS 24) 1)) .none kV18 dc18 pm18 an18 cd18 ct18), sl18⟩)
    (c18 : PySem.W.codeIn K cd18 "Mover.bodies" = true)
    (k18 : PySem.W.keepIn K (.ref f18) = true)
    (a19 : PySem.W.nsIn K mainGlobals "turned" = some (some (.ref f19)))
    (l19 : K.lookup f19 = some ⟨oc19, od19, .func (PySem.W.fnOf "turned" "turned" (defArgs (topS 17)) (defBody (topS 17)) (defScope (topS 17)) .none kV19 dc19 pm19 an19 cd19 ct19), sl19⟩)
    (c19 : PySem.W.codeIn K cd19 "turned" = true)
    (k19 : PySem.W.keepIn K (.ref f19) = true)
    (a20 : PySem.W.nsIn K mainGlobals "shifted" = some (some (.ref f20)))
    (l20 : K.lookup f20 = some ⟨oc20, od20, .func (PySem.W.fnOf "shifted" "shifted" (defArgs (topS 18)) (defBody (topS 18)) (defScope (topS 18)) .none kV20 dc20 pm20 an20 cd20 ct20), sl20⟩)
    (c20 : PySem.W.codeIn K cd20 "shifted" = true)
    (k20 : PySem.W.keepIn K (.ref f20) = true)
    (a21 : PySem.W.nsIn K mainGlobals "added" = some (some (.ref f21)))
    (l21 : K.lookup f21 = some ⟨oc21, od21, .func (PySem.W.fnOf "added" "added" (defArgs (topS 19)) (defBody (topS 19)) (defScope (topS 19)) .none kV21 dc21 pm21 an21 cd21 ct21), sl21⟩)
    (c21 : PySem.W.codeIn K cd21 "added" = true)
    (k21 : PySem.W.keepIn K (.ref f21) = true)
    (a22 : PySem.W.nsIn K mainGlobals "reduced" = some (some (.ref f22)))
    (l22 : K.lookup f22 = some ⟨oc22, od22, .func (PySem.W.fnOf "reduced" "reduced" (defArgs (topS 16)) (defBody (topS 16)) (defScope (topS 16)) .none kV22 dc22 pm22 an22 cd22 ct22), sl22⟩)
    (c22 : PySem.W.codeIn K cd22 "reduced" = true)
    (k22 : PySem.W.keepIn K (.ref f22) = true)
    (a23 : PySem.W.nsIn K mainGlobals "true_place" = some (some (.ref f23)))
    (l23 : K.lookup f23 = some ⟨oc23, od23, .func (PySem.W.fnOf "true_place" "true_place" (defArgs (topS 20)) (defBody (topS 20)) (defScope (topS 20)) .none kV23 dc23 pm23 an23 cd23 ct23), sl23⟩)
    (c23 : PySem.W.codeIn K cd23 "true_place" = true)
    (k23 : PySem.W.keepIn K (.ref f23) = true)
    (a24 : PySem.W.nsIn K mainGlobals "spot" = some (some (.ref f24)))
    (l24 : K.lookup f24 = some ⟨oc24, od24, .func (PySem.W.fnOf "spot" "spot" (defArgs (topS 21)) (defBody (topS 21)) (defScope (topS 21)) .none kV24 dc24 pm24 an24 cd24 ct24), sl24⟩)
    (c24 : PySem.W.codeIn K cd24 "spot" = true)
    (k24 : PySem.W.keepIn K (.ref f24) = true)
    (a25 : PySem.W.findIn K (.ref c_Mover) "lines" = some (some (.ref f25)))
    (i25 : PySem.W.isFn K (.ref f25) = true)
    (l25 : K.lookup f25 = some ⟨oc25, od25, .func (PySem.W.fnOf "lines" "Mover.lines" (defArgs (inClass (topS 24) 2)) (defBody (inClass (topS 24) 2)) (defScope (inClass (topS 24) 2)) .none kV25 dc25 pm25 an25 cd25 ct25), sl25⟩)
    (c25 : PySem.W.codeIn K cd25 "Mover.lines" = true)
    (k25 : PySem.W.keepIn K (.ref f25) = true)
    (a26 : PySem.W.nsIn K mainGlobals "divide_up" = some (some (.ref f26)))
    (l26 : K.lookup f26 = some ⟨oc26, od26, .func (PySem.W.fnOf "divide_up" "divide_up" (defArgs (topS 9)) (defBody (topS 9)) (defScope (topS 9)) .none kV26 dc26 pm26 an26 cd26 ct26), sl26⟩)
    (c26 : PySem.W.codeIn K cd26 "divide_up" = true)
    (k26 : PySem.W.keepIn K (.ref f26) = true)
    (a27 : PySem.W.findIn K (.ref c_Move) "halves" = some (some (.ref f27)))
    (i27 : PySem.W.isFn K (.ref f27) = true)
    (l27 : K.lookup f27 = some ⟨oc27, od27, .func (PySem.W.fnOf "halves" "Move.halves" (defArgs (inClass (topS 13) 2)) (defBody (inClass (topS 13) 2)) (defScope (inClass (topS 13) 2)) .none kV27 dc27 pm27 an27 cd27 ct27), sl27⟩)
    (c27 : PySem.W.codeIn K cd27 "Move.halves" = true)
    (k27 : PySem.W.keepIn K (.ref f27) = true)
    (a28 : PySem.W.nsIn K mainGlobals "unknown" = some (some (.ref f28)))
    (l28 : K.lookup f28 = some ⟨oc28, od28, .func (PySem.W.fnOf "unknown" "unknown" (defArgs (topS 22)) (defBody (topS 22)) (defScope (topS 22)) .none kV28 dc28 pm28 an28 cd28 ct28), sl28⟩)
    (c28 : PySem.W.codeIn K cd28 "unknown" = true)
    (k28 : PySem.W.keepIn K (.ref f28) = true)
    (a29 : PySem.W.findIn K (.ref c_Mover) "unknowns" = some (some (.ref f29)))
    (i29 : PySem.W.isFn K (.ref f29) = true)
    (l29 : K.lookup f29 = some ⟨oc29, od29, .func (PySem.W.fnOf "unknowns" "Mover.unknowns" (defArgs (inClass (topS 24) 3)) (defBody (inClass (topS 24) 3)) (defScope (inClass (topS 24) 3)) .none kV29 dc29 pm29 an29 cd29 ct29), sl29⟩)
    (c29 : PySem.W.codeIn K cd29 "Mover.unknowns" = true)
    (k29 : PySem.W.keepIn K (.ref f29) = true)
    (a30 : PySem.W.nsIn K mainGlobals "reach_over" = some (some (.ref f30)))
    (l30 : K.lookup f30 = some ⟨oc30, od30, .func (PySem.W.fnOf "reach_over" "reach_over" (defArgs (topS 43)) (defBody (topS 43)) (defScope (topS 43)) .none kV30 dc30 pm30 an30 cd30 ct30), sl30⟩)
    (c30 : PySem.W.codeIn K cd30 "reach_over" = true)
    (k30 : PySem.W.keepIn K (.ref f30) = true)
    (a31 : PySem.W.nsIn K mainGlobals "extent" = some (some (.ref f31)))
    (l31 : K.lookup f31 = some ⟨oc31, od31, .func (PySem.W.fnOf "extent" "extent" (defArgs (topS 44)) (defBody (topS 44)) (defScope (topS 44)) .none kV31 dc31 pm31 an31 cd31 ct31), sl31⟩)
    (c31 : PySem.W.codeIn K cd31 "extent" = true)
    (k31 : PySem.W.keepIn K (.ref f31) = true)
    (a32 : PySem.W.nsIn K mainGlobals "_law_dot" = some (some (.ref f32)))
    (l32 : K.lookup f32 = some ⟨oc32, od32, .func (PySem.W.fnOf "_law_dot" "_law_dot" (defArgs (topS 48)) (defBody (topS 48)) (defScope (topS 48)) .none kV32 dc32 pm32 an32 cd32 ct32), sl32⟩)
    (c32 : PySem.W.codeIn K cd32 "_law_dot" = true)
    (k32 : PySem.W.keepIn K (.ref f32) = true)
    (a33 : PySem.W.nsIn K mainGlobals "_law_root_up" = some (some (.ref f33)))
    (l33 : K.lookup f33 = some ⟨oc33, od33, .func (PySem.W.fnOf "_law_root_up" "_law_root_up" (defArgs (topS 49)) (defBody (topS 49)) (defScope (topS 49)) .none kV33 dc33 pm33 an33 cd33 ct33), sl33⟩)
    (c33 : PySem.W.codeIn K cd33 "_law_root_up" = true)
    (k33 : PySem.W.keepIn K (.ref f33) = true)
    (a34 : PySem.W.nsIn K mainGlobals "_law_reach" = some (some (.ref f34)))
    (l34 : K.lookup f34 = some ⟨oc34, od34, .func (PySem.W.fnOf "_law_reach" "_law_reach" (defArgs (topS 61)) (defBody (topS 61)) (defScope (topS 61)) .none kV34 dc34 pm34 an34 cd34 ct34), sl34⟩)
    (c34 : PySem.W.codeIn K cd34 "_law_reach" = true)
    (k34 : PySem.W.keepIn K (.ref f34) = true)
    (a35 : PySem.W.nsIn K mainGlobals "_law_is_integer" = some (some (.ref f35)))
    (l35 : K.lookup f35 = some ⟨oc35, od35, .func (PySem.W.fnOf "_law_is_integer" "_law_is_integer" (defArgs (topS 47)) (defBody (topS 47)) (defScope (topS 47)) .none kV35 dc35 pm35 an35 cd35 ct35), sl35⟩)
    (c35 : PySem.W.codeIn K cd35 "_law_is_integer" = true)
    (k35 : PySem.W.keepIn K (.ref f35) = true)
    (a36 : PySem.W.nsIn K mainGlobals "_law_meant" = some (some (.ref f36)))
    (l36 : K.lookup f36 = some ⟨oc36, od36, .func (PySem.W.fnOf "_law_meant" "_law_meant" (defArgs (topS 57)) (defBody (topS 57)) (defScope (topS 57)) .none kV36 dc36 pm36 an36 cd36 ct36), sl36⟩)
    (c36 : PySem.W.codeIn K cd36 "_law_meant" = true)
    (k36 : PySem.W.keepIn K (.ref f36) = true)
    (a37 : PySem.W.nsIn K mainGlobals "_law_offsets" = some (some (.ref f37)))
    (l37 : K.lookup f37 = some ⟨oc37, od37, .func (PySem.W.fnOf "_law_offsets" "_law_offsets" (defArgs (topS 58)) (defBody (topS 58)) (defScope (topS 58)) .none kV37 dc37 pm37 an37 cd37 ct37), sl37⟩)
    (c37 : PySem.W.codeIn K cd37 "_law_offsets" = true)
    (k37 : PySem.W.keepIn K (.ref f37) = true)
    (a38 : PySem.W.nsIn K mainGlobals "_law_turned" = some (some (.ref f38)))
    (l38 : K.lookup f38 = some ⟨oc38, od38, .func (PySem.W.fnOf "_law_turned" "_law_turned" (defArgs (topS 55)) (defBody (topS 55)) (defScope (topS 55)) .none kV38 dc38 pm38 an38 cd38 ct38), sl38⟩)
    (c38 : PySem.W.codeIn K cd38 "_law_turned" = true)
    (k38 : PySem.W.keepIn K (.ref f38) = true)
    (a39 : PySem.W.nsIn K mainGlobals "_law_true" = some (some (.ref f39)))
    (l39 : K.lookup f39 = some ⟨oc39, od39, .func (PySem.W.fnOf "_law_true" "_law_true" (defArgs (topS 56)) (defBody (topS 56)) (defScope (topS 56)) .none kV39 dc39 pm39 an39 cd39 ct39), sl39⟩)
    (c39 : PySem.W.codeIn K cd39 "_law_true" = true)
    (k39 : PySem.W.keepIn K (.ref f39) = true)
    (a40 : PySem.W.nsIn K mainGlobals "_law_true_line" = some (some (.ref f40)))
    (l40 : K.lookup f40 = some ⟨oc40, od40, .func (PySem.W.fnOf "_law_true_line" "_law_true_line" (defArgs (topS 59)) (defBody (topS 59)) (defScope (topS 59)) .none kV40 dc40 pm40 an40 cd40 ct40), sl40⟩)
    (c40 : PySem.W.codeIn K cd40 "_law_true_line" = true)
    (k40 : PySem.W.keepIn K (.ref f40) = true)
    (a41 : PySem.W.nsIn K mainGlobals "_law_mix" = some (some (.ref f41)))
    (l41 : K.lookup f41 = some ⟨oc41, od41, .func (PySem.W.fnOf "_law_mix" "_law_mix" (defArgs (topS 60)) (defBody (topS 60)) (defScope (topS 60)) .none kV41 dc41 pm41 an41 cd41 ct41), sl41⟩)
    (c41 : PySem.W.codeIn K cd41 "_law_mix" = true)
    (k41 : PySem.W.keepIn K (.ref f41) = true)
    (a42 : PySem.W.nsIn K mainGlobals "_law_refused" = some (some (.ref f42)))
    (l42 : K.lookup f42 = some ⟨oc42, od42, .func (PySem.W.fnOf "_law_refused" "_law_refused" (defArgs (topS 62)) (defBody (topS 62)) (defScope (topS 62)) .none kV42 dc42 pm42 an42 cd42 ct42), sl42⟩)
    (c42 : PySem.W.codeIn K cd42 "_law_refused" = true)
    (k42 : PySem.W.keepIn K (.ref f42) = true)
    (a43 : PySem.W.nsIn K mainGlobals "law" = some (some (.ref f43)))
    (l43 : K.lookup f43 = some ⟨oc43, od43, .func (PySem.W.fnOf "law" "law" (defArgs (topS 63)) (defBody (topS 63)) (defScope (topS 63)) .none kV43 dc43 pm43 an43 cd43 ct43), sl43⟩)
    (c43 : PySem.W.codeIn K cd43 "law" = true)
    (k43 : PySem.W.keepIn K (.ref f43) = true)
    (n_Joint_turns : PySem.W.findIn K (.ref c_Joint) "turns" = some none)
    (n_Joint_axis : PySem.W.findIn K (.ref c_Joint) "axis" = some none)
    (n_Joint_offset : PySem.W.findIn K (.ref c_Joint) "offset" = some none)
    (n_Joint_least : PySem.W.findIn K (.ref c_Joint) "least" = some none)
    (n_Joint_most : PySem.W.findIn K (.ref c_Joint) "most" = some none)
    (n_Joint_box : PySem.W.findIn K (.ref c_Joint) "box" = some none)
    (n_Joint_error : PySem.W.findIn K (.ref c_Joint) "error" = some none)
    (n_Joint_speed : PySem.W.findIn K (.ref c_Joint) "speed" = some none)
    (n_Joint_accel : PySem.W.findIn K (.ref c_Joint) "accel" = some none)
    (n_Joint_brake : PySem.W.findIn K (.ref c_Joint) "brake" = some none)
    (n_Body_first : PySem.W.findIn K (.ref c_Body) "first" = some none)
    (n_Body_last : PySem.W.findIn K (.ref c_Body) "last" = some none)
    (n_Body_radius : PySem.W.findIn K (.ref c_Body) "radius" = some none)
    (n_Capsule_link : PySem.W.findIn K (.ref c_Capsule) "link" = some none)
    (n_Capsule_body : PySem.W.findIn K (.ref c_Capsule) "body" = some none)
    (n_Arm_joints : PySem.W.findIn K (.ref c_Arm) "joints" = some none)
    (n_Arm_capsules : PySem.W.findIn K (.ref c_Arm) "capsules" = some none)
    (n_Arm_beside : PySem.W.findIn K (.ref c_Arm) "beside" = some none)
    (n_Move_first : PySem.W.findIn K (.ref c_Move) "first" = some none)
    (n_Move_last : PySem.W.findIn K (.ref c_Move) "last" = some none)
    (n_Mover_arm : PySem.W.findIn K (.ref c_Mover) "arm" = some none)
    (n_Mover_move : PySem.W.findIn K (.ref c_Mover) "move" = some none)
    (n_Mover_held : PySem.W.findIn K (.ref c_Mover) "held" = some none)
    (xg0 : PySem.W.nsIn K mainGlobals "OutOfRange" = some (some (.ref c_OutOfRange)))
    (xl0 : K.lookup c_OutOfRange = some (excClassObj xnm0 xq0 c_OutOfRange xN0 xbs0 [.ref xA0, .type "ValueError", .type "Exception", .type "BaseException", .type "object"] true xsn0 xsub0 xab0 xcol0 xdd0 xm00 xm10 xm20 xm30 xm50 "ValueError.__new__"))
    (xsa0 : PySem.W.findIn K (.ref c_OutOfRange) "__setattr__" = some (some (.builtin "object.__setattr__")))
    (xga0 : PySem.W.findIn K (.ref c_OutOfRange) "__getattribute__" = some (some (.builtin "BaseException.__getattribute__")))
    (xgg0 : PySem.W.findIn K (.ref c_OutOfRange) "__getattr__" = some none)
    (xnf0 : PySem.W.findIn K (.ref c_OutOfRange) "field" = some none)
    (xi0 : PySem.W.findIn K (.ref c_OutOfRange) "__init__" = some (some (.ref x_OutOfRange)))
    (xt0 : PySem.W.typeIn K (.ref x_OutOfRange) = some (.type "function"))
    (xk0 : PySem.W.keepIn K (.ref c_OutOfRange) = true)
    (xe0 : PySem.W.subIn K (.ref c_OutOfRange) (.type "BaseException") = some true)
    (xv0 : PySem.W.subIn K (.ref c_OutOfRange) (.type "ValueError") = some true)
    (xy0 : PySem.W.typeIn K (.ref c_OutOfRange) = some (.type "type"))
    (xh0 : PySem.W.hasDictIn K c_OutOfRange = true)
    (xr0 : PySem.W.mroIn K c_OutOfRange (.ref c_OutOfRange) = some true)
    (xic0 : PySem.W.isClsIn K c_OutOfRange = true)
    (xss0 : PySem.W.subIn K (.ref c_OutOfRange) (.ref c_OutOfRange) = some true)
    (xu0 : PySem.W.ks_superIn K c_OutOfRange c_OutOfRange "__init__" = some (some (.builtin "ValueError.__init__")))
    (xno0 : PySem.W.nsIn K mainGlobals "super" = some none)
    (xtp0 : PySem.W.nsIn K cStatics "thirdparty.any" = some none)
    (xfn0 : K.lookup x_OutOfRange = some ⟨xoc0, xod0, .func (PySem.W.ksFn "__init__" "OutOfRange.__init__" (defArgs (inClass (topS 6) 0)) (defBody (inClass (topS 6) 0)) (defScope (inClass (topS 6) 0)) .none .none xdc0 xpm0 xan0 (.ref xC0) xct0 xc0), xsl0⟩)
    (xcd0 : PySem.W.codeIn K (.ref xC0) "OutOfRange.__init__" = true)
    (xco0 : K.lookup xC0 = some ⟨xccl0, xcdd0, .fields xvs0, xccs0⟩)
    (zzx0 : xvs0[2]? = some (.str xfile0 xtf0))
    (zzf0 : ((l.prog.main.file : Str) == xfile0) = true)
    (zzt0 : (l.prog.main.scope.names.lookup ("super" : Str)).isSome = false)
    (xce0 : K.lookup xc0 = some ⟨xcl0, xcld0, .cell (some (.ref c_OutOfRange)), xcsl0⟩)
    (z_abs : PySem.W.nsIn K mainGlobals "abs" = some none)
    (z_all : PySem.W.nsIn K mainGlobals "all" = some none)
    (z_bool : PySem.W.nsIn K mainGlobals "bool" = some none)
    (z_int : PySem.W.nsIn K mainGlobals "int" = some none)
    (z_isinstance : PySem.W.nsIn K mainGlobals "isinstance" = some none)
    (z_len : PySem.W.nsIn K mainGlobals "len" = some none)
    (z_list : PySem.W.nsIn K mainGlobals "list" = some none)
    (z_max : PySem.W.nsIn K mainGlobals "max" = some none)
    (z_range : PySem.W.nsIn K mainGlobals "range" = some none)
    (z_tuple : PySem.W.nsIn K mainGlobals "tuple" = some none)
    (y_gcd : PySem.W.nsIn K mainGlobals "gcd" = some (some (.builtin "math.gcd")))
    (y_isqrt : PySem.W.nsIn K mainGlobals "isqrt" = some (some (.builtin "math.isqrt")))
    (v_DEEPEST : PySem.W.nsIn K mainGlobals "DEEPEST" = some (some (.int 8 t_DEEPEST)))
    (v_FAR : PySem.W.nsIn K mainGlobals "FAR" = some (some (.int 10000000 t_FAR)))
    (v_FAST : PySem.W.nsIn K mainGlobals "FAST" = some (some (.int 1000000000 t_FAST)))
    (v_HARD : PySem.W.nsIn K mainGlobals "HARD" = some (some (.int 10000000000 t_HARD)))
    (v_LOOSE : PySem.W.nsIn K mainGlobals "LOOSE" = some (some (.int 100000 t_LOOSE)))
    (v_MOST_CAPSULES : PySem.W.nsIn K mainGlobals "MOST_CAPSULES" = some (some (.int 8 t_MOST_CAPSULES)))
    (v_MOST_JOINTS : PySem.W.nsIn K mainGlobals "MOST_JOINTS" = some (some (.int 6 t_MOST_JOINTS)))
    (v_STEEP : PySem.W.nsIn K mainGlobals "STEEP" = some (some (.int 8000000 t_STEEP)))
    (v_STEEPEST : PySem.W.nsIn K mainGlobals "STEEPEST" = some (some (.int 1000 t_STEEPEST)))
    (v_THICK : PySem.W.nsIn K mainGlobals "THICK" = some (some (.int 1000000 t_THICK)))
    (v_UNIT : PySem.W.nsIn K mainGlobals "UNIT" = some (some (.int 1000000 t_UNIT)))
    : ∃ fd : FuncData, (∀ (s : Shared) (v : Value), BindsTo s fd ⟨[v], []⟩ [("_law_script", v)]) ∧ ∀ base : Heap, K.In base → base.Ns mainGlobals mg → FnOk l.prog w K mg base CX0 8 fa fd ["_law_script"] (LawT K) := by
  have e := hfa.symm.trans (PySem.W.mg_of X G a43)
  cases e
  have T : Top l.prog K mg { c_OutOfRange := c_OutOfRange, x_OutOfRange := x_OutOfRange, c_Mover := c_Mover, c_Move := c_Move, c_Arm := c_Arm, c_Capsule := c_Capsule, c_Body := c_Body, c_Joint := c_Joint, f__law_rows := f0, d__law_rows := PySem.W.fnOf "_law_rows" "_law_rows" (defArgs (topS 46)) (defBody (topS 46)) (defScope (topS 46)) .none kV0 dc0 pm0 an0 cd0 ct0, f_is_within := f1, d_is_within := PySem.W.fnOf "is_within" "is_within" (defArgs (topS 31)) (defBody (topS 31)) (defScope (topS 31)) .none kV1 dc1 pm1 an1 cd1 ct1, f_Joint_init := f2, d_Joint_init := PySem.W.fnOf "__init__" "Joint.__init__" (defArgs (inClass (topS 32) 0)) (defBody (inClass (topS 32) 0)) (defScope (inClass (topS 32) 0)) .none (.ref kD2) dc2 pm2 an2 cd2 ct2, f__law_joint := f3, d__law_joint := PySem.W.fnOf "_law_joint" "_law_joint" (defArgs (topS 50)) (defBody (topS 50)) (defScope (topS 50)) .none kV3 dc3 pm3 an3 cd3 ct3, f_Body_init := f4, d_Body_init := PySem.W.fnOf "__init__" "Body.__init__" (defArgs (inClass (topS 37) 0)) (defBody (inClass (topS 37) 0)) (defScope (inClass (topS 37) 0)) .none kV4 dc4 pm4 an4 cd4 ct4, f_Capsule_init := f5, d_Capsule_init := PySem.W.fnOf "__init__" "Capsule.__init__" (defArgs (inClass (topS 38) 0)) (defBody (inClass (topS 38) 0)) (defScope (inClass (topS 38) 0)) .none kV5 dc5 pm5 an5 cd5 ct5, f__law_capsule := f6, d__law_capsule := PySem.W.fnOf "_law_capsule" "_law_capsule" (defArgs (topS 51)) (defBody (topS 51)) (defScope (topS 51)) .none kV6 dc6 pm6 an6 cd6 ct6, t_Arm_init_beside := tA7_beside, f_Arm_init := f7, d_Arm_init := PySem.W.fnOf "__init__" "Arm.__init__" (defArgs (inClass (topS 39) 0)) (defBody (inClass (topS 39) 0)) (defScope (inClass (topS 39) 0)) .none (.ref kD7) dc7 pm7 an7 cd7 ct7, f__law_arm := f8, d__law_arm := PySem.W.fnOf "_law_arm" "_law_arm" (defArgs (topS 53)) (defBody (topS 53)) (defScope (topS 53)) .none kV8 dc8 pm8 an8 cd8 ct8, f__law_values := f9, d__law_values := PySem.W.fnOf "_law_values" "_law_values" (defArgs (topS 52)) (defBody (topS 52)) (defScope (topS 52)) .none kV9 dc9 pm9 an9 cd9 ct9, f_Arm_fits := f10, d_Arm_fits := PySem.W.fnOf "fits" "Arm.fits" (defArgs (inClass (topS 39) 1)) (defBody (inClass (topS 39) 1)) (defScope (inClass (topS 39) 1)) .none kV10 dc10 pm10 an10 cd10 ct10, f_Move_init := f11, d_Move_init := PySem.W.fnOf "__init__" "Move.__init__" (defArgs (inClass (topS 13) 0)) (defBody (inClass (topS 13) 0)) (defScope (inClass (topS 13) 0)) .none kV11 dc11 pm11 an11 cd11 ct11, t_Mover_init_held := tA12_held, f_Mover_init := f12, d_Mover_init := PySem.W.fnOf "__init__" "Mover.__init__" (defArgs (inClass (topS 24) 0)) (defBody (inClass (topS 24) 0)) (defScope (inClass (topS 24) 0)) (.ref dT12) kV12 dc12 pm12 an12 cd12 ct12, f__law_mover := f13, d__law_mover := PySem.W.fnOf "_law_mover" "_law_mover" (defArgs (topS 54)) (defBody (topS 54)) (defScope (topS 54)) .none kV13 dc13 pm13 an13 cd13 ct13, f_dot := f14, d_dot := PySem.W.fnOf "dot" "dot" (defArgs (topS 10)) (defBody (topS 10)) (defScope (topS 10)) .none kV14 dc14 pm14 an14 cd14 ct14, f_root_up := f15, d_root_up := PySem.W.fnOf "root_up" "root_up" (defArgs (topS 8)) (defBody (topS 8)) (defScope (topS 8)) .none kV15 dc15 pm15 an15 cd15 ct15, f_length_up := f16, d_length_up := PySem.W.fnOf "length_up" "length_up" (defArgs (topS 11)) (defBody (topS 11)) (defScope (topS 11)) .none kV16 dc16 pm16 an16 cd16 ct16, f_Move_middle := f17, d_Move_middle := PySem.W.fnOf "middle" "Move.middle" (defArgs (inClass (topS 13) 1)) (defBody (inClass (topS 13) 1)) (defScope (inClass (topS 13) 1)) .none kV17 dc17 pm17 an17 cd17 ct17, f_Mover_bodies := f18, d_Mover_bodies := PySem.W.fnOf "bodies" "Mover.bodies" (defArgs (inClass (topS 24) 1)) (defBody (inClass (topS 24) 1)) (defScope (inClass (topS 24) 1)) .none kV18 dc18 pm18 an18 cd18 ct18, f_turned := f19, d_turned := PySem.W.fnOf "turned" "turned" (defArgs (topS 17)) (defBody (topS 17)) (defScope (topS 17)) .none kV19 dc19 pm19 an19 cd19 ct19, f_shifted := f20, d_shifted := PySem.W.fnOf "shifted" "shifted" (defArgs (topS 18)) (defBody (topS 18)) (defScope (topS 18)) .none kV20 dc20 pm20 an20 cd20 ct20, f_added := f21, d_added := PySem.W.fnOf "added" "added" (defArgs (topS 19)) (defBody (topS 19)) (defScope (topS 19)) .none kV21 dc21 pm21 an21 cd21 ct21, f_reduced := f22, d_reduced := PySem.W.fnOf "reduced" "reduced" (defArgs (topS 16)) (defBody (topS 16)) (defScope (topS 16)) .none kV22 dc22 pm22 an22 cd22 ct22, f_true_place := f23, d_true_place := PySem.W.fnOf "true_place" "true_place" (defArgs (topS 20)) (defBody (topS 20)) (defScope (topS 20)) .none kV23 dc23 pm23 an23 cd23 ct23, f_spot := f24, d_spot := PySem.W.fnOf "spot" "spot" (defArgs (topS 21)) (defBody (topS 21)) (defScope (topS 21)) .none kV24 dc24 pm24 an24 cd24 ct24, f_Mover_lines := f25, d_Mover_lines := PySem.W.fnOf "lines" "Mover.lines" (defArgs (inClass (topS 24) 2)) (defBody (inClass (topS 24) 2)) (defScope (inClass (topS 24) 2)) .none kV25 dc25 pm25 an25 cd25 ct25, f_divide_up := f26, d_divide_up := PySem.W.fnOf "divide_up" "divide_up" (defArgs (topS 9)) (defBody (topS 9)) (defScope (topS 9)) .none kV26 dc26 pm26 an26 cd26 ct26, f_Move_halves := f27, d_Move_halves := PySem.W.fnOf "halves" "Move.halves" (defArgs (inClass (topS 13) 2)) (defBody (inClass (topS 13) 2)) (defScope (inClass (topS 13) 2)) .none kV27 dc27 pm27 an27 cd27 ct27, f_unknown := f28, d_unknown := PySem.W.fnOf "unknown" "unknown" (defArgs (topS 22)) (defBody (topS 22)) (defScope (topS 22)) .none kV28 dc28 pm28 an28 cd28 ct28, f_Mover_unknowns := f29, d_Mover_unknowns := PySem.W.fnOf "unknowns" "Mover.unknowns" (defArgs (inClass (topS 24) 3)) (defBody (inClass (topS 24) 3)) (defScope (inClass (topS 24) 3)) .none kV29 dc29 pm29 an29 cd29 ct29, f_reach_over := f30, d_reach_over := PySem.W.fnOf "reach_over" "reach_over" (defArgs (topS 43)) (defBody (topS 43)) (defScope (topS 43)) .none kV30 dc30 pm30 an30 cd30 ct30, f_extent := f31, d_extent := PySem.W.fnOf "extent" "extent" (defArgs (topS 44)) (defBody (topS 44)) (defScope (topS 44)) .none kV31 dc31 pm31 an31 cd31 ct31, f__law_dot := f32, d__law_dot := PySem.W.fnOf "_law_dot" "_law_dot" (defArgs (topS 48)) (defBody (topS 48)) (defScope (topS 48)) .none kV32 dc32 pm32 an32 cd32 ct32, f__law_root_up := f33, d__law_root_up := PySem.W.fnOf "_law_root_up" "_law_root_up" (defArgs (topS 49)) (defBody (topS 49)) (defScope (topS 49)) .none kV33 dc33 pm33 an33 cd33 ct33, f__law_reach := f34, d__law_reach := PySem.W.fnOf "_law_reach" "_law_reach" (defArgs (topS 61)) (defBody (topS 61)) (defScope (topS 61)) .none kV34 dc34 pm34 an34 cd34 ct34, f__law_is_integer := f35, d__law_is_integer := PySem.W.fnOf "_law_is_integer" "_law_is_integer" (defArgs (topS 47)) (defBody (topS 47)) (defScope (topS 47)) .none kV35 dc35 pm35 an35 cd35 ct35, f__law_meant := f36, d__law_meant := PySem.W.fnOf "_law_meant" "_law_meant" (defArgs (topS 57)) (defBody (topS 57)) (defScope (topS 57)) .none kV36 dc36 pm36 an36 cd36 ct36, f__law_offsets := f37, d__law_offsets := PySem.W.fnOf "_law_offsets" "_law_offsets" (defArgs (topS 58)) (defBody (topS 58)) (defScope (topS 58)) .none kV37 dc37 pm37 an37 cd37 ct37, f__law_turned := f38, d__law_turned := PySem.W.fnOf "_law_turned" "_law_turned" (defArgs (topS 55)) (defBody (topS 55)) (defScope (topS 55)) .none kV38 dc38 pm38 an38 cd38 ct38, f__law_true := f39, d__law_true := PySem.W.fnOf "_law_true" "_law_true" (defArgs (topS 56)) (defBody (topS 56)) (defScope (topS 56)) .none kV39 dc39 pm39 an39 cd39 ct39, f__law_true_line := f40, d__law_true_line := PySem.W.fnOf "_law_true_line" "_law_true_line" (defArgs (topS 59)) (defBody (topS 59)) (defScope (topS 59)) .none kV40 dc40 pm40 an40 cd40 ct40, f__law_mix := f41, d__law_mix := PySem.W.fnOf "_law_mix" "_law_mix" (defArgs (topS 60)) (defBody (topS 60)) (defScope (topS 60)) .none kV41 dc41 pm41 an41 cd41 ct41, f__law_refused := f42, d__law_refused := PySem.W.fnOf "_law_refused" "_law_refused" (defArgs (topS 62)) (defBody (topS 62)) (defScope (topS 62)) .none kV42 dc42 pm42 an42 cd42 ct42, f_law := fa, d_law := PySem.W.fnOf "law" "law" (defArgs (topS 63)) (defBody (topS 63)) (defScope (topS 63)) .none kV43 dc43 pm43 an43 cd43 ct43 } := { F__law_rows := fun_mk (st := (topS 46)) l0 c0 k0, g__law_rows := PySem.W.mg_of X G a0, F_is_within := fun_mk (st := (topS 31)) l1 c1 k1, g_is_within := PySem.W.mg_of X G a1, F_Joint_init := fun_mk (st := (inClass (topS 32) 0)) l2 c2 k2, D_Joint_init := fund_mk (st := (inClass (topS 32) 0)) l2 c2 k2 (kwl_cons q2_box relI (kwl_cons q2_error relI (kwl_cons q2_speed relI (kwl_cons q2_accel relI (kwl_cons q2_brake relI kwl_nil))))), F__law_joint := fun_mk (st := (topS 50)) l3 c3 k3, g__law_joint := PySem.W.mg_of X G a3, F_Body_init := fun_mk (st := (inClass (topS 37) 0)) l4 c4 k4, F_Capsule_init := fun_mk (st := (inClass (topS 38) 0)) l5 c5 k5, F__law_capsule := fun_mk (st := (topS 51)) l6 c6 k6, g__law_capsule := PySem.W.mg_of X G a6, F_Arm_init := fun_mk (st := (inClass (topS 39) 0)) l7 c7 k7, e_Arm_init_beside := tup0_mk r7_beside zz7_beside, D_Arm_init := fund_mk (st := (inClass (topS 39) 0)) l7 c7 k7 (kwl_cons q7_beside relR kwl_nil), F__law_arm := fun_mk (st := (topS 53)) l8 c8 k8, g__law_arm := PySem.W.mg_of X G a8, F__law_values := fun_mk (st := (topS 52)) l9 c9 k9, g__law_values := PySem.W.mg_of X G a9, F_Arm_fits := fun_mk (st := (inClass (topS 39) 1)) l10 c10 k10, m_Arm_fits := ⟨a10, i10, k10⟩, F_Move_init := fun_mk (st := (inClass (topS 13) 0)) l11 c11 k11, e_Mover_init_held := tup0_mk r12_held zz12_held, F_Mover_init := fund_mkP (st := (inClass (topS 24) 0)) l12 c12 k12 d12 zzd12 (.cons relR (.nil)) (by simp), F__law_mover := fun_mk (st := (topS 54)) l13 c13 k13, g__law_mover := PySem.W.mg_of X G a13, F_dot := fun_mk (st := (topS 10)) l14 c14 k14, g_dot := PySem.W.mg_of X G a14, F_root_up := fun_mk (st := (topS 8)) l15 c15 k15, g_root_up := PySem.W.mg_of X G a15, F_length_up := fun_mk (st := (topS 11)) l16 c16 k16, g_length_up := PySem.W.mg_of X G a16, F_Move_middle := fun_mk (st := (inClass (topS 13) 1)) l17 c17 k17, m_Move_middle := ⟨a17, i17, k17⟩, F_Mover_bodies := fun_mk (st := (inClass (topS 24) 1)) l18 c18 k18, m_Mover_bodies := ⟨a18, i18, k18⟩, F_turned := fun_mk (st := (topS 17)) l19 c19 k19, g_turned := PySem.W.mg_of X G a19, F_shifted := fun_mk (st := (topS 18)) l20 c20 k20, g_shifted := PySem.W.mg_of X G a20, F_added := fun_mk (st := (topS 19)) l21 c21 k21, g_added := PySem.W.mg_of X G a21, F_reduced := fun_mk (st := (topS 16)) l22 c22 k22, g_reduced := PySem.W.mg_of X G a22, F_true_place := fun_mk (st := (topS 20)) l23 c23 k23, g_true_place := PySem.W.mg_of X G a23, F_spot := fun_mk (st := (topS 21)) l24 c24 k24, g_spot := PySem.W.mg_of X G a24, F_Mover_lines := fun_mk (st := (inClass (topS 24) 2)) l25 c25 k25, m_Mover_lines := ⟨a25, i25, k25⟩, F_divide_up := fun_mk (st := (topS 9)) l26 c26 k26, g_divide_up := PySem.W.mg_of X G a26, F_Move_halves := fun_mk (st := (inClass (topS 13) 2)) l27 c27 k27, m_Move_halves := ⟨a27, i27, k27⟩, F_unknown := fun_mk (st := (topS 22)) l28 c28 k28, g_unknown := PySem.W.mg_of X G a28, F_Mover_unknowns := fun_mk (st := (inClass (topS 24) 3)) l29 c29 k29, m_Mover_unknowns := ⟨a29, i29, k29⟩, F_reach_over := fun_mk (st := (topS 43)) l30 c30 k30, g_reach_over := PySem.W.mg_of X G a30, F_extent := fun_mk (st := (topS 44)) l31 c31 k31, g_extent := PySem.W.mg_of X G a31, F__law_dot := fun_mk (st := (topS 48)) l32 c32 k32, g__law_dot := PySem.W.mg_of X G a32, F__law_root_up := fun_mk (st := (topS 49)) l33 c33 k33, g__law_root_up := PySem.W.mg_of X G a33, F__law_reach := fun_mk (st := (topS 61)) l34 c34 k34, g__law_reach := PySem.W.mg_of X G a34, F__law_is_integer := fun_mk (st := (topS 47)) l35 c35 k35, g__law_is_integer := PySem.W.mg_of X G a35, F__law_meant := fun_mk (st := (topS 57)) l36 c36 k36, g__law_meant := PySem.W.mg_of X G a36, F__law_offsets := fun_mk (st := (topS 58)) l37 c37 k37, g__law_offsets := PySem.W.mg_of X G a37, F__law_turned := fun_mk (st := (topS 55)) l38 c38 k38, g__law_turned := PySem.W.mg_of X G a38, F__law_true := fun_mk (st := (topS 56)) l39 c39 k39, g__law_true := PySem.W.mg_of X G a39, F__law_true_line := fun_mk (st := (topS 59)) l40 c40 k40, g__law_true_line := PySem.W.mg_of X G a40, F__law_mix := fun_mk (st := (topS 60)) l41 c41 k41, g__law_mix := PySem.W.mg_of X G a41, F__law_refused := fun_mk (st := (topS 62)) l42 c42 k42, g__law_refused := PySem.W.mg_of X G a42, F_law := fun_mk (st := (topS 63)) l43 c43 k43, g_law := PySem.W.mg_of X G a43, gc_Joint := PySem.W.mg_of X G x_Joint, cl_Joint := ⟨pg_Joint, hd_Joint, po_Joint, sa_Joint⟩, mk_Joint := ⟨mk_Joint, a2, i2, kc_Joint⟩, n_Joint_turns := n_Joint_turns, n_Joint_axis := n_Joint_axis, n_Joint_offset := n_Joint_offset, n_Joint_least := n_Joint_least, n_Joint_most := n_Joint_most, n_Joint_box := n_Joint_box, n_Joint_error := n_Joint_error, n_Joint_speed := n_Joint_speed, n_Joint_accel := n_Joint_accel, n_Joint_brake := n_Joint_brake, gc_Body := PySem.W.mg_of X G x_Body, cl_Body := ⟨pg_Body, hd_Body, po_Body, sa_Body⟩, mk_Body := ⟨mk_Body, a4, i4, kc_Body⟩, n_Body_first := n_Body_first, n_Body_last := n_Body_last, n_Body_radius := n_Body_radius, gc_Capsule := PySem.W.mg_of X G x_Capsule, cl_Capsule := ⟨pg_Capsule, hd_Capsule, po_Capsule, sa_Capsule⟩, mk_Capsule := ⟨mk_Capsule, a5, i5, kc_Capsule⟩, n_Capsule_link := n_Capsule_link, n_Capsule_body := n_Capsule_body, gc_Arm := PySem.W.mg_of X G x_Arm, cl_Arm := ⟨pg_Arm, hd_Arm, po_Arm, sa_Arm⟩, mk_Arm := ⟨mk_Arm, a7, i7, kc_Arm⟩, n_Arm_joints := n_Arm_joints, n_Arm_capsules := n_Arm_capsules, n_Arm_beside := n_Arm_beside, gc_Move := PySem.W.mg_of X G x_Move, cl_Move := ⟨pg_Move, hd_Move, po_Move, sa_Move⟩, mk_Move := ⟨mk_Move, a11, i11, kc_Move⟩, n_Move_first := n_Move_first, n_Move_last := n_Move_last, gc_Mover := PySem.W.mg_of X G x_Mover, cl_Mover := ⟨pg_Mover, hd_Mover, po_Mover, sa_Mover⟩, mk_Mover := ⟨mk_Mover, a12, i12, kc_Mover⟩, n_Mover_arm := n_Mover_arm, n_Mover_move := n_Mover_move, n_Mover_held := n_Mover_held, X_OutOfRange := { gC := PySem.W.mg_of X G xg0, cls := ⟨_, _, _, _, _, _, _, _, _, _, _, _, _, _, _, xl0, by rfl⟩, sa := xsa0, ga := xga0, gg := xgg0, noN := xnf0, iC := xi0, tC := xt0, kC := xk0, exC := xe0, veC := xv0, tyC := xy0, hdC := xh0, mro := xr0, sup := xu0, noS := PySem.W.mg_none_of X G xno0, tp := xtp0, top := zzt0, fn := ⟨_, _, _, _, _, _, _, _, _, _, false, _, _, _, _, _, _, _, _, _, _, _, _, _, _, _, xfn0, xcd0, by rfl, ⟨_, _, _, _, _, _, xco0, zzx0, zzf0⟩, _, _, _, xce0⟩ }, xe_OutOfRange := exm_self xe0 xic0 xy0 xss0, z_abs := PySem.W.mg_none_of X G z_abs, z_all := PySem.W.mg_none_of X G z_all, z_bool := PySem.W.mg_none_of X G z_bool, z_int := PySem.W.mg_none_of X G z_int, z_isinstance := PySem.W.mg_none_of X G z_isinstance, z_len := PySem.W.mg_none_of X G z_len, z_list := PySem.W.mg_none_of X G z_list, z_max := PySem.W.mg_none_of X G z_max, z_range := PySem.W.mg_none_of X G z_range, z_tuple := PySem.W.mg_none_of X G z_tuple, i_gcd := PySem.W.mg_of X G y_gcd, i_isqrt := PySem.W.mg_of X G y_isqrt, g_DEEPEST := ⟨_, PySem.W.mg_of X G v_DEEPEST⟩, g_FAR := ⟨_, PySem.W.mg_of X G v_FAR⟩, g_FAST := ⟨_, PySem.W.mg_of X G v_FAST⟩, g_HARD := ⟨_, PySem.W.mg_of X G v_HARD⟩, g_LOOSE := ⟨_, PySem.W.mg_of X G v_LOOSE⟩, g_MOST_CAPSULES := ⟨_, PySem.W.mg_of X G v_MOST_CAPSULES⟩, g_MOST_JOINTS := ⟨_, PySem.W.mg_of X G v_MOST_JOINTS⟩, g_STEEP := ⟨_, PySem.W.mg_of X G v_STEEP⟩, g_STEEPEST := ⟨_, PySem.W.mg_of X G v_STEEPEST⟩, g_THICK := ⟨_, PySem.W.mg_of X G v_THICK⟩, g_UNIT := ⟨_, PySem.W.mg_of X G v_UNIT⟩ }
  exact ⟨PySem.W.fnOf "law" "law" (defArgs (topS 63)) (defBody (topS 63)) (defScope (topS 63)) .none kV43 dc43 pm43 an43 cd43 ct43, fun s v => .of_eq rfl, fun base _ _ => (ok_law T).imp fun vs H Q E h => h⟩
end G
open PySem PySem.W PyProof.Rows
set_option maxRecDepth 100000 in
set_option maxHeartbeats 0 in
theorem PySem.Challenge.cw_armwarrant_k41_whole_extents_holds : PySem.Challenge.rw_armwarrant_k41_whole_extents.Holds := by
  w_on; o_law; k_head; (case hw => w_witness2)
  k_fill
  refine L2.walk_ofB (l := PySem.Challenge.rw_armwarrant_k41_whole_extents) (n := 63) (k := 8) (x := "_law_script") (CX := fun _ => L2.CX0) (sp := fun w => G.LawT _) rfl (by decide) rfl ⟨rfl, by decide, by decide⟩ (fun w h Y => PySem.W.kIn_of Y) ?F (fun _ H a ns hl hb _ hS => DL.law_sp (G.law_true ns hl hb) hS) (fun _ _ _ _ _ h => h)
  case F =>
    intro w mg fa h KX GN hmg
    refine' _root_.G.all_mk KX GN hmg ?x_Mover ?pg_Mover ?hd_Mover ?po_Mover ?sa_Mover ?mk_Mover ?kc_Mover ?x_Move ?pg_Move ?hd_Move ?po_Move ?sa_Move ?mk_Move ?kc_Move ?x_Arm ?pg_Arm ?hd_Arm ?po_Arm ?sa_Arm ?mk_Arm ?kc_Arm ?x_Capsule ?pg_Capsule ?hd_Capsule ?po_Capsule ?sa_Capsule ?mk_Capsule ?kc_Capsule ?x_Body ?pg_Body ?hd_Body ?po_Body ?sa_Body ?mk_Body ?kc_Body ?x_Joint ?pg_Joint ?hd_Joint ?po_Joint ?sa_Joint ?mk_Joint ?kc_Joint ?a0 ?l0 ?c0 ?k0 ?a1 ?l1 ?c1 ?k1 ?a2 ?i2 ?l2 ?c2 ?k2 ?q2_box ?q2_error ?q2_speed ?q2_accel ?q2_brake ?a3 ?l3 ?c3 ?k3 ?a4 ?i4 ?l4 ?c4 ?k4 ?a5 ?i5 ?l5 ?c5 ?k5 ?a6 ?l6 ?c6 ?k6 ?a7 ?i7 ?l7 ?c7 ?k7 ?q7_beside ?r7_beside ?zz7_beside ?a8 ?l8 ?c8 ?k8 ?a9 ?l9 ?c9 ?k9 ?a10 ?i10 ?l10 ?c10 ?k10 ?a11 ?i11 ?l11 ?c11 ?k11 ?a12 ?i12 ?l12 ?c12 ?k12 ?d12 ?zzd12 ?r12_held ?zz12_held ?a13 ?l13 ?c13 ?k13 ?a14 ?l14 ?c14 ?k14 ?a15 ?l15 ?c15 ?k15 ?a16 ?l16 ?c16 ?k16 ?a17 ?i17 ?l17 ?c17 ?k17 ?a18 ?i18 ?l18 ?c18 ?k18 ?a19 ?l19 ?c19 ?k19 ?a20 ?l20 ?c20 ?k20 ?a21 ?l21 ?c21 ?k21 ?a22 ?l22 ?c22 ?k22 ?a23 ?l23 ?c23 ?k23 ?a24 ?l24 ?c24 ?k24 ?a25 ?i25 ?l25 ?c25 ?k25 ?a26 ?l26 ?c26 ?k26 ?a27 ?i27 ?l27 ?c27 ?k27 ?a28 ?l28 ?c28 ?k28 ?a29 ?i29 ?l29 ?c29 ?k29 ?a30 ?l30 ?c30 ?k30 ?a31 ?l31 ?c31 ?k31 ?a32 ?l32 ?c32 ?k32 ?a33 ?l33 ?c33 ?k33 ?a34 ?l34 ?c34 ?k34 ?a35 ?l35 ?c35 ?k35 ?a36 ?l36 ?c36 ?k36 ?a37 ?l37 ?c37 ?k37 ?a38 ?l38 ?c38 ?k38 ?a39 ?l39 ?c39 ?k39 ?a40 ?l40 ?c40 ?k40 ?a41 ?l41 ?c41 ?k41 ?a42 ?l42 ?c42 ?k42 ?a43 ?l43 ?c43 ?k43 ?n_Joint_turns ?n_Joint_axis ?n_Joint_offset ?n_Joint_least ?n_Joint_most ?n_Joint_box ?n_Joint_error ?n_Joint_speed ?n_Joint_accel ?n_Joint_brake ?n_Body_first ?n_Body_last ?n_Body_radius ?n_Capsule_link ?n_Capsule_body ?n_Arm_joints ?n_Arm_capsules ?n_Arm_beside ?n_Move_first ?n_Move_last ?n_Mover_arm ?n_Mover_move ?n_Mover_held ?xg0 ?xl0 ?xsa0 ?xga0 ?xgg0 ?xnf0 ?xi0 ?xt0 ?xk0 ?xe0 ?xv0 ?xy0 ?xh0 ?xr0 ?xic0 ?xss0 ?xu0 ?xno0 ?xtp0 ?xfn0 ?xcd0 ?xco0 ?zzx0 ?zzf0 ?zzt0 ?xce0 ?z_abs ?z_all ?z_bool ?z_int ?z_isinstance ?z_len ?z_list ?z_max ?z_range ?z_tuple ?y_gcd ?y_isqrt ?v_DEEPEST ?v_FAR ?v_FAST ?v_HARD ?v_LOOSE ?v_MOST_CAPSULES ?v_MOST_JOINTS ?v_STEEP ?v_STEEPEST ?v_THICK ?v_UNIT
    (case x_Mover => k_is); (case pg_Mover => k_is); (case hd_Mover => k_is); (case po_Mover => k_is); (case sa_Mover => k_is); (case mk_Mover => k_is)
    (case kc_Mover => k_is); (case x_Move => k_is); (case pg_Move => k_is); (case hd_Move => k_is); (case po_Move => k_is); (case sa_Move => k_is)
    (case mk_Move => k_is); (case kc_Move => k_is); (case x_Arm => k_is); (case pg_Arm => k_is); (case hd_Arm => k_is); (case po_Arm => k_is)
    (case sa_Arm => k_is); (case mk_Arm => k_is); (case kc_Arm => k_is); (case x_Capsule => k_is); (case pg_Capsule => k_is); (case hd_Capsule => k_is)
    (case po_Capsule => k_is); (case sa_Capsule => k_is); (case mk_Capsule => k_is); (case kc_Capsule => k_is); (case x_Body => k_is); (case pg_Body => k_is)
    (case hd_Body => k_is); (case po_Body => k_is); (case sa_Body => k_is); (case mk_Body => k_is); (case kc_Body => k_is); (case x_Joint => k_is)
    (case pg_Joint => k_is); (case hd_Joint => k_is); (case po_Joint => k_is); (case sa_Joint => k_is); (case mk_Joint => k_is); (case kc_Joint => k_is)
    (case a0 => k_is); (case l0 => k_is); (case c0 => k_is); (case k0 => k_is); (case a1 => k_is); (case l1 => k_is)
    (case c1 => k_is); (case k1 => k_is); (case a2 => k_is); (case i2 => k_is); (case l2 => k_is); (case c2 => k_is)
    (case k2 => k_is); (case q2_box => k_is); (case q2_error => k_is); (case q2_speed => k_is); (case q2_accel => k_is); (case q2_brake => k_is)
    (case a3 => k_is); (case l3 => k_is); (case c3 => k_is); (case k3 => k_is); (case a4 => k_is); (case i4 => k_is)
    (case l4 => k_is); (case c4 => k_is); (case k4 => k_is); (case a5 => k_is); (case i5 => k_is); (case l5 => k_is)
    (case c5 => k_is); (case k5 => k_is); (case a6 => k_is); (case l6 => k_is); (case c6 => k_is); (case k6 => k_is)
    (case a7 => k_is); (case i7 => k_is); (case l7 => k_is); (case c7 => k_is); (case k7 => k_is); (case q7_beside => k_is)
    (case r7_beside => k_is); (case zz7_beside => first | rfl | decide +kernel); (case a8 => k_is); (case l8 => k_is); (case c8 => k_is); (case k8 => k_is)
    (case a9 => k_is); (case l9 => k_is); (case c9 => k_is); (case k9 => k_is); (case a10 => k_is); (case i10 => k_is)
    (case l10 => k_is); (case c10 => k_is); (case k10 => k_is); (case a11 => k_is); (case i11 => k_is); (case l11 => k_is)
    (case c11 => k_is); (case k11 => k_is); (case a12 => k_is); (case i12 => k_is); (case l12 => k_is); (case c12 => k_is)
    (case k12 => k_is); (case d12 => k_is); (case zzd12 => first | rfl | decide +kernel); (case r12_held => k_is); (case zz12_held => first | rfl | decide +kernel); (case a13 => k_is)
    (case l13 => k_is); (case c13 => k_is); (case k13 => k_is); (case a14 => k_is); (case l14 => k_is); (case c14 => k_is)
    (case k14 => k_is); (case a15 => k_is); (case l15 => k_is); (case c15 => k_is); (case k15 => k_is); (case a16 => k_is)
    (case l16 => k_is); (case c16 => k_is); (case k16 => k_is); (case a17 => k_is); (case i17 => k_is); (case l17 => k_is)
    (case c17 => k_is); (case k17 => k_is); (case a18 => k_is); (case i18 => k_is); (case l18 => k_is); (case c18 => k_is)
    (case k18 => k_is); (case a19 => k_is); (case l19 => k_is); (case c19 => k_is); (case k19 => k_is); (case a20 => k_is)
    (case l20 => k_is); (case c20 => k_is); (case k20 => k_is); (case a21 => k_is); (case l21 => k_is); (case c21 => k_is)
    (case k21 => k_is); (case a22 => k_is); (case l22 => k_is); (case c22 => k_is); (case k22 => k_is); (case a23 => k_is)
    (case l23 => k_is); (case c23 => k_is); (case k23 => k_is); (case a24 => k_is); (case l24 => k_is); (case c24 => k_is)
    (case k24 => k_is); (case a25 => k_is); (case i25 => k_is); (case l25 => k_is); (case c25 => k_is); (case k25 => k_is)
    (case a26 => k_is); (case l26 => k_is); (case c26 => k_is); (case k26 => k_is); (case a27 => k_is); (case i27 => k_is)
    (case l27 => k_is); (case c27 => k_is); (case k27 => k_is); (case a28 => k_is); (case l28 => k_is); (case c28 => k_is)
    (case k28 => k_is); (case a29 => k_is); (case i29 => k_is); (case l29 => k_is); (case c29 => k_is); (case k29 => k_is)
    (case a30 => k_is); (case l30 => k_is); (case c30 => k_is); (case k30 => k_is); (case a31 => k_is); (case l31 => k_is)
    (case c31 => k_is); (case k31 => k_is); (case a32 => k_is); (case l32 => k_is); (case c32 => k_is); (case k32 => k_is)
    (case a33 => k_is); (case l33 => k_is); (case c33 => k_is); (case k33 => k_is); (case a34 => k_is); (case l34 => k_is)
    (case c34 => k_is); (case k34 => k_is); (case a35 => k_is); (case l35 => k_is); (case c35 => k_is); (case k35 => k_is)
    (case a36 => k_is); (case l36 => k_is); (case c36 => k_is); (case k36 => k_is); (case a37 => k_is); (case l37 => k_is)
    (case c37 => k_is); (case k37 => k_is); (case a38 => k_is); (case l38 => k_is); (case c38 => k_is); (case k38 => k_is)
    (case a39 => k_is); (case l39 => k_is); (case c39 => k_is); (case k39 => k_is); (case a40 => k_is); (case l40 => k_is)
    (case c40 => k_is); (case k40 => k_is); (case a41 => k_is); (case l41 => k_is); (case c41 => k_is); (case k41 => k_is)
    (case a42 => k_is); (case l42 => k_is); (case c42 => k_is); (case k42 => k_is); (case a43 => k_is); (case l43 => k_is)
    (case c43 => k_is); (case k43 => k_is); (case n_Joint_turns => k_is); (case n_Joint_axis => k_is); (case n_Joint_offset => k_is); (case n_Joint_least => k_is)
    (case n_Joint_most => k_is); (case n_Joint_box => k_is); (case n_Joint_error => k_is); (case n_Joint_speed => k_is); (case n_Joint_accel => k_is); (case n_Joint_brake => k_is)
    (case n_Body_first => k_is); (case n_Body_last => k_is); (case n_Body_radius => k_is); (case n_Capsule_link => k_is); (case n_Capsule_body => k_is); (case n_Arm_joints => k_is)
    (case n_Arm_capsules => k_is); (case n_Arm_beside => k_is); (case n_Move_first => k_is); (case n_Move_last => k_is); (case n_Mover_arm => k_is); (case n_Mover_move => k_is)
    (case n_Mover_held => k_is); (case xg0 => k_is); (case xl0 => k_is); (case xsa0 => k_is); (case xga0 => k_is); (case xgg0 => k_is)
    (case xnf0 => k_is); (case xi0 => k_is); (case xt0 => k_is); (case xk0 => k_is); (case xe0 => k_is); (case xv0 => k_is)
    (case xy0 => k_is); (case xh0 => k_is); (case xr0 => k_is); (case xic0 => k_is); (case xss0 => first | rfl | k_is); (case xu0 => ks_is)
    (case xno0 => k_is); (case xtp0 => k_is); (case xfn0 => k_is); (case xcd0 => k_is); (case xco0 => k_is); (case zzx0 => first | rfl | decide +kernel)
    (case zzf0 => first | rfl | decide +kernel); (case zzt0 => first | rfl | decide +kernel); (case xce0 => k_is); (case z_abs => k_is); (case z_all => k_is); (case z_bool => k_is)
    (case z_int => k_is); (case z_isinstance => k_is); (case z_len => k_is); (case z_list => k_is); (case z_max => k_is); (case z_range => k_is)
    (case z_tuple => k_is); (case y_gcd => k_is); (case y_isqrt => k_is); (case v_DEEPEST => k_is); (case v_FAR => k_is); (case v_FAST => k_is)
    (case v_HARD => k_is); (case v_LOOSE => k_is); (case v_MOST_CAPSULES => k_is); (case v_MOST_JOINTS => k_is); (case v_STEEP => k_is); (case v_STEEPEST => k_is)
    (case v_THICK => k_is); (case v_UNIT => k_is)
